import PyProof.Rows.All
import Wide.All
import OpenK.AllK
import Wide.FinOn
import HandS.ForMost
import HandS.ForExc
import HandS.TryMany
import HandS.Deep
import HandS.Conv
import HandS.Flow
import HandS.ExcInit
import KE.KDictKeyed
import KE.KeyNested
import HandS.TupAny
import HandS.TupMul
import HandS.Style
import HandS.IsInst
import HandS.Strs
import HandS.Zip
import HandS.More
import KE.GoesEnum
import HandS.Codes
import HandS.SortRule
import KE.SortData
import KE.KDictZip
import KE.KDictDisplayH
import HandS.RaiseMore
import HandS.ForSpec
import PySem.Challenge.RW_whofetches_k10_texts_there_and_back
set_option linter.all false
/-! WFA: pure data, owned objects, the monad of the mirror functions, one combinator for each construct. Core Lean alone. -/
namespace WF
abbrev Txt := List Nat

/-- pure data; dic true: the keys are tuples, dic false: texts -/
inductive D where
  | non | bl (b : Bool) | int (i : Int) | str (s : Txt) | tup (xs : List D) | lst (xs : List D) | dic (t : Bool) (kvs : List (D × D))
deriving Inhabited

/-- the longest list, tuple, text -/
abbrev LIM : Nat := 16777216

mutual
/-- Python's == -/
def D.eqv : D → D → Bool
  | .non, .non => true
  | .bl a, .bl b => a == b
  | .bl a, .int j => (if a then 1 else 0) == j
  | .int i, .bl b => i == (if b then 1 else 0)
  | .int i, .int j => i == j
  | .str x, .str y => x == y
  | .tup xs, .tup ys => D.eqvs xs ys
  | .lst xs, .lst ys => D.eqvs xs ys
  | _, _ => false
def D.eqvs : List D → List D → Bool
  | [], [] => true
  | x :: xs, y :: ys => D.eqv x y && D.eqvs xs ys
  | _, _ => false
end
mutual
/-- how deep it is nested; a dict is too deep for == -/
def D.dep : D → Nat
  | .tup xs => D.deps xs + 1
  | .lst xs => D.deps xs + 1
  | .dic _ _ => 1000
  | _ => 0
def D.deps : List D → Nat
  | [] => 0
  | x :: xs => max (D.dep x) (D.deps xs)
end
def D.flat : D → Bool
  | .non => true | .bl _ => true | .int _ => true | .str _ => true | _ => false

/-- what only one name holds -/
inductive O where
  | lst (xs : List D) | dic (t : Bool) (kvs : List (D × D)) | ins (c : Nat) (fs : List (Txt × D))
deriving Inhabited
def O.toD : O → Option D
  | .lst xs => some (.lst xs)
  | .dic t kvs => some (.dic t kvs)
  | .ins _ _ => none
/-- a name's binding: shared data; its own object; a caller's object, lent -/
inductive SB where
  | sh (d : D) | ow (o : O) | io (o : O)
deriving Inhabited
def SB.toD : SB → Option D
  | .sh d => some d
  | .ow o => o.toD
  | .io o => o.toD
def SB.obj : SB → Option O
  | .sh _ => none
  | .ow o => some o
  | .io o => some o
def SB.put : SB → O → SB
  | .sh d, _ => .sh d
  | .ow _, o => .ow o
  | .io _, o => .io o
/-- what an expression gives: data; a new object; the object of the name at a place; a new tuple with objects in it -/
inductive B where
  | sh (d : D) | ow (o : O) | pl (i : Nat) | tp (bs : List SB)
deriving Inhabited

abbrev Env := List (Option SB)
def Env.at (ρ : Env) (i : Nat) : Option SB := ρ.getD i none

/-- an error: its class, its attribute -/
inductive Res (α : Type) where
  | ok (a : α) | exc (c : Nat) (p : Option (Txt × D))
abbrev M (α : Type) := Env → Option (Res α × Env)
def ret {α : Type} (a : α) : M α := fun ρ => some (.ok a, ρ)
def stuck {α : Type} : M α := fun _ => none
def bind {α β : Type} (m : M α) (k : α → M β) : M β := fun ρ =>
  match m ρ with
  | none => none
  | some (.exc c p, ρ1) => some (.exc c p, ρ1)
  | some (.ok a, ρ1) => k a ρ1
def lift {α : Type} (o : Option α) : M α := fun ρ => match o with | none => none | some a => some (.ok a, ρ)
instance : Monad M where
  pure := ret
  bind := bind

def sbsD : List SB → Option (List D)
  | [] => some []
  | b :: r => match b.toD, sbsD r with | some d, some ds => some (d :: ds) | _, _ => none
/-- the data that it is, as things stand -/
def B.dat (ρ : Env) : B → Option D
  | .sh d => some d
  | .ow o => o.toD
  | .pl i => match ρ.at i with | some b => b.toD | none => none
  | .tp bs => match sbsD bs with | some ds => some (.tup ds) | none => none
def dat (b : B) : M D := fun ρ => match b.dat ρ with | none => none | some d => some (.ok d, ρ)

/-! ### names, constants -/
def mK (d : D) : M B := ret (.sh d)
/-- a name, as a value: its object is shared from now on -/
def mV (i : Nat) : M B := fun ρ => match ρ.at i with
  | some (.sh d) => some (.ok (.sh d), ρ)
  | some (.ow o) => match o.toD with | some d => some (.ok (.sh d), ρ.set i (some (.sh d))) | none => none
  | _ => none
/-- a name, looked at -/
def mP (i : Nat) : M B := fun ρ => match ρ.at i with
  | some (.sh d) => some (.ok (.sh d), ρ)
  | some (.ow _) => some (.ok (.pl i), ρ)
  | some (.io _) => some (.ok (.pl i), ρ)
  | none => none

/-! ### operators by values -/
def iAdd (x y : D) : Option B := match x, y with
  | .int a, .int b => some (.sh (.int (a + b)))
  | .str a, .str b => if a.length + b.length ≤ LIM then some (.sh (.str (a ++ b))) else none
  | .tup a, .tup b => if a.length + b.length ≤ LIM then some (.sh (.tup (a ++ b))) else none
  | .lst a, .lst b => if a.length + b.length ≤ LIM then some (.ow (.lst (a ++ b))) else none
  | _, _ => none
def iSub (x y : D) : Option B := match x, y with
  | .int a, .int b => some (.sh (.int (a - b)))
  | _, _ => none
def smallI (a : Int) : Bool := decide (-(2 ^ 64) < a) && decide (a < 2 ^ 64)
def repL {α : Type} (xs : List α) (n : Nat) : List α := (List.replicate n xs).flatten
def iMul (x y : D) : Option B := match x, y with
  | .int a, .int b => if smallI a || smallI b then some (.sh (.int (a * b))) else none
  | .lst a, .int n => if decide (0 ≤ n) && decide (n ≤ 1000) && decide (a.length ≤ 1000) then some (.ow (.lst (repL a n.toNat))) else none
  | .tup a, .int n => if decide (2 ≤ n) && decide (n ≤ 1000) && decide (a.length ≤ 1000) && !a.isEmpty then some (.sh (.tup (repL a n.toNat))) else none
  | _, _ => none
def iFdiv (x y : D) : Option B := match x, y with
  | .int a, .int b => if decide (0 < b) && decide (b < 1073741824) then some (.sh (.int (a / b))) else none
  | _, _ => none
def iMod (x y : D) : Option B := match x, y with
  | .int a, .int b => if decide (0 < b) then some (.sh (.int (a % b))) else none
  | _, _ => none
def iPow (x y : D) : Option B := match x, y with
  | .int a, .int b => if decide (0 ≤ b) && decide (b ≤ 100) && smallI a then some (.sh (.int (a ^ b.toNat))) else none
  | _, _ => none
def mOp (f : D → D → Option B) (a b : M B) : M B := bind a fun x => bind b fun y => bind (dat x) fun d => bind (dat y) fun e => lift (f d e)
def mAdd := mOp iAdd
def mSub := mOp iSub
def mMul := mOp iMul
def mFdiv := mOp iFdiv
def mMod := mOp iMod
def mPow := mOp iPow
def iNeg (x : D) : Option B := match x with | .int a => some (.sh (.int (-a))) | _ => none
def mNeg (a : M B) : M B := bind a fun x => bind (dat x) fun d => lift (iNeg d)

/-! ### comparisons -/
def boo (b : Bool) : B := .sh (.bl b)
def iEq (x y : D) : Option B := if x.dep ≤ 60 && y.dep ≤ 60 then some (boo (D.eqv x y)) else none
def iNe (x y : D) : Option B := if x.dep ≤ 60 && y.dep ≤ 60 then some (boo (!D.eqv x y)) else none
def iLt (x y : D) : Option B := match x, y with | .int a, .int b => some (boo (decide (a < b))) | _, _ => none
def iLe (x y : D) : Option B := match x, y with | .int a, .int b => some (boo (decide (a ≤ b))) | _, _ => none
def iGt (x y : D) : Option B := match x, y with | .int a, .int b => some (boo (decide (b < a))) | _, _ => none
def iGe (x y : D) : Option B := match x, y with | .int a, .int b => some (boo (decide (b ≤ a))) | _, _ => none
def memD (x : D) (ys : List D) : Bool := ys.any fun y => D.eqv y x
def lookD (kvs : List (D × D)) (k : D) : Option D := (kvs.find? fun p => D.eqv p.1 k).map (·.2)
mutual
/-- keys: texts; nested tuples of texts, bools, ints, None -/
def D.key : D → Bool
  | .non => true | .bl _ => true | .int _ => true | .str _ => true
  | .tup xs => D.keys xs
  | _ => false
def D.keys : List D → Bool
  | [] => true
  | x :: xs => D.key x && D.keys xs
end
def keyT (x : D) : Bool := match x with | .tup xs => D.keys xs && decide (D.dep x ≤ 8) | _ => false
def keyS (x : D) : Bool := match x with | .str _ => true | _ => false
def keyOf (t : Bool) (x : D) : Bool := if t then keyT x else keyS x
def isIn (x y : D) : Option Bool := match y with
  | .tup ys => if x.dep ≤ 60 && D.deps ys ≤ 60 then some (memD x ys) else none
  | .lst ys => if x.dep ≤ 60 && D.deps ys ≤ 60 then some (memD x ys) else none
  | .dic t kvs => if keyOf t x then some (lookD kvs x).isSome else none
  | _ => none
def iIn (x y : D) : Option B := (isIn x y).map fun b => boo b
def iNin (x y : D) : Option B := (isIn x y).map fun b => boo (!b)
def mEq := mOp iEq
def mNe := mOp iNe
def mLt := mOp iLt
def mLe := mOp iLe
def mGt := mOp iGt
def mGe := mOp iGe
def mIn := mOp iIn
def mNin := mOp iNin
def D.isNon : D → Bool | .non => true | _ => false
/-- is None -/
def mIsN (a : M B) : M B := bind a fun x => bind (dat x) fun d => ret (boo d.isNon)
def mNotN (a : M B) : M B := bind a fun x => bind (dat x) fun d => ret (boo (!d.isNon))
/-- a <= b <= c, of ints -/
def mLeLe (a b c : M B) : M B := bind a fun x => bind b fun y => bind (dat x) fun d => bind (dat y) fun e => bind (lift (iLe d e)) fun r =>
  match r with
  | .sh (.bl true) => bind c fun z => bind (dat z) fun g => lift (iLe e g)
  | .sh (.bl false) => ret (boo false)
  | _ => stuck

/-! ### truth, tests -/
def D.tru : D → Option Bool
  | .non => some false
  | .bl b => some b
  | .int i => some (i != 0)
  | .str s => some (!s.isEmpty)
  | .tup xs => some (!xs.isEmpty)
  | .lst xs => some (!xs.isEmpty)
  | .dic _ _ => none
/-- a test: an expression's truth -/
def tV (a : M B) : M Bool := bind a fun x => bind (dat x) fun d => lift d.tru
def tAnd (a b : M Bool) : M Bool := bind a fun c => if c then b else ret false
def tOr (a b : M Bool) : M Bool := bind a fun c => if c then ret true else b
def tNot (a : M Bool) : M Bool := bind a fun c => ret (!c)
def D.boolV : D → Option Bool | .bl b => some b | _ => none
/-- as values, of bools -/
def mAnd (a b : M B) : M B := bind a fun x => bind (dat x) fun d => bind (lift d.boolV) fun c => if c then b else ret (boo false)
def mOr (a b : M B) : M B := bind a fun x => bind (dat x) fun d => bind (lift d.boolV) fun c => if c then ret (boo true) else b
def mNot (a : M B) : M B := bind a fun x => bind (dat x) fun d => bind (lift d.boolV) fun c => ret (boo (!c))
def mIf (t : M Bool) (a b : M B) : M B := bind t fun c => if c then a else b

/-! ### displays -/
def mNil : M (List B) := ret []
def mCons (a : M B) (r : M (List B)) : M (List B) := bind a fun x => bind r fun xs => ret (x :: xs)
def datsL (ρ : Env) : List B → Option (List D)
  | [] => some []
  | b :: r => match b.dat ρ, datsL ρ r with | some d, some ds => some (d :: ds) | _, _ => none
def dats (bs : List B) : M (List D) := fun ρ => match datsL ρ bs with | none => none | some ds => some (.ok ds, ρ)
def noPl : B → Bool | .pl _ => false | _ => true
/-- what is kept: no name's own object -/
def kept (bs : List B) : M (List D) := if bs.all noPl then dats bs else stuck
def few (bs : List B) : Bool := decide (bs.length ≤ 1000)
def mTup (es : M (List B)) : M B := bind es fun bs => if few bs then bind (kept bs) fun ds => ret (.sh (.tup ds)) else stuck
def mLst (es : M (List B)) : M B := bind es fun bs => if few bs then bind (kept bs) fun ds => ret (.ow (.lst ds)) else stuck
/-- {} and {k: v} -/
def mDic0 : M B := ret (.ow (.dic false []))
def mDic1 (k v : M B) : M B := bind k fun x => bind v fun y => bind (kept [x, y]) fun ds => match ds with
  | [d, e] => if keyT d then ret (.ow (.dic true [(d, e)])) else stuck
  | _ => stuck

/-! ### subscripts -/
def atI {α : Type} (xs : List α) (i : Int) : Option α :=
  if 0 ≤ i then xs[i.toNat]? else if 0 ≤ (xs.length : Int) + i then xs[((xs.length : Int) + i).toNat]? else none
def iIx (x y : D) : Option B := match x, y with
  | .tup xs, .int i => (atI xs i).map B.sh
  | .lst xs, .int i => (atI xs i).map B.sh
  | .str s, .int i => (atI s i).map fun c => B.sh (.str [c])
  | .dic t kvs, k => if keyOf t k then (lookD kvs k).map B.sh else none
  | _, _ => none
def ixB (b : B) (i : B) : M B := match b with
  | .tp bs => bind (dat i) fun e => match e with
    | .int j => (match atI bs j with | some (.sh d) => ret (.sh d) | some (.ow o) => ret (.ow o) | _ => stuck)
    | _ => stuck
  | _ => bind (dat b) fun d => bind (dat i) fun e => lift (iIx d e)
def mIx (a i : M B) : M B := bind a fun x => bind i fun y => ixB x y
/-- the places of a slice's ends -/
def clip (n : Nat) (i : Int) : Nat := if i < 0 then (i + (n : Int)).toNat else min i.toNat n
/-- the place of a slice's end that may be left out -/
def endI (n d : Nat) : Option Int → Nat
  | none => d
  | some i => clip n i
def cutL {α : Type} (xs : List α) (a b : Nat) : List α := (xs.drop a).take (b - a)
def iSl (x : D) (lo hi : Option Int) : Option B := match x with
  | .tup xs => some (.sh (.tup (cutL xs (endI xs.length 0 lo) (endI xs.length xs.length hi))))
  | .lst xs => some (.ow (.lst (cutL xs (endI xs.length 0 lo) (endI xs.length xs.length hi))))
  | .str xs => some (.sh (.str (cutL xs (endI xs.length 0 lo) (endI xs.length xs.length hi))))
  | _ => none
/-- an end that is left out, or an int -/
def mEnd : Option (M B) → M (Option Int)
  | none => ret none
  | some e => bind e fun x => bind (dat x) fun d => match d with | .int i => ret (some i) | _ => stuck
/-- x[lo:hi] -/
def mSl (a : M B) (lo hi : Option (M B)) : M B := bind a fun x => bind (mEnd lo) fun l => bind (mEnd hi) fun h => bind (dat x) fun d => lift (iSl d l h)
/-- x[::-1] -/
def iRev (x : D) : Option B := match x with
  | .tup xs => some (.sh (.tup xs.reverse))
  | .lst xs => some (.ow (.lst xs.reverse))
  | _ => none
def mRev (a : M B) : M B := bind a fun x => bind (dat x) fun d => lift (iRev d)

/-! ### built-in functions and methods, by values -/
def dLen (x : D) : Option Nat := match x with
  | .tup xs => some xs.length
  | .lst xs => some xs.length
  | .str s => some s.length
  | .dic _ kvs => some kvs.length
  | _ => none
def iLen (x : D) : Option B := (dLen x).map fun n => B.sh (.int n)
def iInt (x : D) : Option B := match x with
  | .int i => some (.sh (.int i))
  | .bl b => some (.sh (.int (if b then 1 else 0)))
  | _ => none
/-- the digits of a small number -/
def digs : Nat → Nat → Txt
  | 0, _ => []
  | f + 1, n => if n < 10 then [48 + n] else digs f (n / 10) ++ [48 + n % 10]
def iStr (x : D) : Option B := match x with
  | .int i => if decide (0 ≤ i) && decide (i < 1000) then some (.sh (.str (digs 4 i.toNat))) else none
  | .str s => some (.sh (.str s))
  | _ => none
def iList (x : D) : Option B := match x with
  | .tup xs => some (.ow (.lst xs))
  | .lst xs => some (.ow (.lst xs))
  | .dic false kvs => some (.ow (.lst (kvs.map (·.1))))
  | _ => none
def iTuple (x : D) : Option B := match x with
  | .tup xs => some (.sh (.tup xs))
  | .lst xs => some (.sh (.tup xs))
  | _ => none
def bools : List D → Option (List Bool)
  | [] => some []
  | .bl b :: r => (bools r).map fun bs => b :: bs
  | _ :: _ => none
def iAll (x : D) : Option B := match x with | .lst xs => (bools xs).map fun bs => boo (bs.all id) | _ => none
def iAny (x : D) : Option B := match x with | .lst xs => (bools xs).map fun bs => boo (bs.any id) | _ => none
def iMin (x y : D) : Option B := match x, y with | .int a, .int b => some (.sh (.int (if b < a then b else a))) | _, _ => none
/-- the built-in classes of isinstance -/
inductive Ty where | bool | int | str | tuple | list
deriving DecidableEq
def isA (x : D) (t : Ty) : Bool := match x, t with
  | .bl _, .bool => true
  | .bl _, .int => true
  | .int _, .int => true
  | .str _, .str => true
  | .tup _, .tuple => true
  | .lst _, .list => true
  | _, _ => false
def mUn (f : D → Option B) (a : M B) : M B := bind a fun x => bind (dat x) fun d => lift (f d)
def mLen := mUn iLen
def mInt := mUn iInt
def mStr := mUn iStr
def mTuple := mUn iTuple
def mAll := mUn iAll
def mAny := mUn iAny
def mMin := mOp iMin
def iIsA (t : Ty) (d : D) : Option B := match d with | .dic _ _ => none | _ => some (boo (isA d t))
def mIsA (t : Ty) := mUn (iIsA t)
def mList := mUn iList
mutual
/-- a datum as a row of signs, by which sorted compares -/
def D.toks : D → List (Int ⊕ Txt)
  | .non => []
  | .bl b => [.inl (if b = true then 1 else 0)]
  | .int i => [.inl i]
  | .str s => [.inr s]
  | .tup xs => D.toksL xs
  | .lst xs => D.toksL xs
  | .dic _ _ => []
def D.toksL : List D → List (Int ⊕ Txt)
  | [] => [.inl 0]
  | x :: xs => .inl 1 :: (D.toks x ++ D.toksL xs)
end
mutual
/-- of one kind, place by place -/
def D.like : D → D → Bool
  | .non, .non => true
  | .bl _, .bl _ => true
  | .int _, .int _ => true
  | .str _, .str _ => true
  | .tup xs, .tup ys => D.likeL xs ys
  | .lst xs, .lst ys => D.likeL xs ys
  | _, _ => false
def D.likeL : List D → List D → Bool
  | x :: xs, y :: ys => D.like x y && D.likeL xs ys
  | [], _ => true
  | _ :: _, [] => true
end
def tokLt : Int ⊕ Txt → Int ⊕ Txt → Bool
  | .inl a, .inl b => decide (a < b)
  | .inl _, .inr _ => true
  | .inr _, .inl _ => false
  | .inr a, .inr b => decide (a < b)
def lexD : List (Int ⊕ Txt) → List (Int ⊕ Txt) → Bool
  | [], [] => false
  | [], _ :: _ => true
  | _ :: _, [] => false
  | x :: r, y :: t => tokLt x y || (!tokLt y x && lexD r t)
def leD (x y : D) : Bool := !lexD y.toks x.toks
def isTupC : D → Bool | .tup (_ :: _) => true | _ => false
def isOther : D → Bool | .non => false | .tup _ => false | _ => true
def canSort (xs : List D) : Bool := (xs.all fun x => xs.all fun y => D.like x y) && (xs.all isTupC || xs.all isOther) && decide (D.deps xs ≤ 60)
def strL : List D → Option (List Txt)
  | [] => some []
  | .str s :: r => (strL r).map fun ss => s :: ss
  | _ :: _ => none
def leS (a b : Txt) : Bool := decide (a ≤ b)
def iSorted (x : D) : Option B := match x with
  | .lst xs => if canSort xs then some (.ow (.lst (xs.mergeSort leD))) else none
  | .dic false kvs => (match strL (kvs.map (·.1)) with
    | some ts => if ts.length < 64 then some (.ow (.lst ((ts.mergeSort leS).map D.str))) else none
    | none => none)
  | _ => none
def mSorted := mUn iSorted
def zipD : List D → List D → List D
  | x :: xs, y :: ys => .tup [x, y] :: zipD xs ys
  | _, _ => []
def dItems (x : D) : Option (List D) := match x with
  | .tup xs => some xs
  | .lst xs => some xs
  | _ => none
def putD (kvs : List (D × D)) (k v : D) : List (D × D) :=
  if (lookD kvs k).isSome then kvs.map fun p => if D.eqv p.1 k then (p.1, v) else p else kvs ++ [(k, v)]
def pairsD : List D → Option (List (D × D))
  | [] => some []
  | .tup [k, v] :: r => (pairsD r).map fun ps => (k, v) :: ps
  | _ :: _ => none
/-- dict(list of pairs), the keys texts -/
def iDict (x : D) : Option B := match x with
  | .lst xs => (match pairsD xs with
    | some ps => if ps.all fun p => keyS p.1 then some (.ow (.dic false (ps.foldl (fun a p => putD a p.1 p.2) []))) else none
    | none => none)
  | _ => none
def mDict := mUn iDict
/-- d.get(k, x) -/
def iGet (x k e : D) : Option B := match x with
  | .dic t kvs => if keyOf t k then some (.sh ((lookD kvs k).getD e)) else none
  | _ => none
def mGet (a b c : M B) : M B := bind a fun x => bind b fun y => bind c fun z => bind (dat x) fun d => bind (dat y) fun e => bind (dat z) fun g => lift (iGet d e g)
def joinT (sep : Txt) : List Txt → Txt
  | [] => []
  | [x] => x
  | x :: r => x ++ sep ++ joinT sep r
def iJoin (x y : D) : Option B := match x, y with
  | .str sep, .lst xs => (match strL xs with | some ss => if (joinT sep ss).length + sep.length ≤ LIM then some (.sh (.str (joinT sep ss))) else none | none => none)
  | _, _ => none
def mJoin := mOp iJoin
/-- cut at each sign c -/
def splitT (c : Nat) : Txt → List Txt
  | [] => [[]]
  | a :: x => if a = c then [] :: splitT c x else match splitT c x with
    | [] => [[a]]
    | y :: r => (a :: y) :: r
def iSplit (x y : D) : Option B := match x, y with
  | .str s, .str [c] => if decide (s.length + 2 ≤ LIM) && decide (c < 256) then some (.ow (.lst ((splitT c s).map D.str))) else none
  | _, _ => none
def mSplit (a b : M B) : M B := bind a fun x => match x with
  | .sh (.str s) => bind b fun y => bind (dat y) fun e => lift (iSplit (.str s) e)
  | _ => stuck
def idxD (xs : List D) (x : D) : Option Nat := xs.findIdx? fun y => D.eqv y x
def iIndex (x y : D) : Option B := match x with
  | .tup xs => if D.deps xs ≤ 60 && y.dep ≤ 60 then (idxD xs y).map fun n => B.sh (.int n) else none
  | .lst xs => if D.deps xs ≤ 60 && y.dep ≤ 60 then (idxD xs y).map fun n => B.sh (.int n) else none
  | _ => none
def mIndex := mOp iIndex

/-! ### calls of defs -/
/-- a def: the bindings of its parameters in; what it gives, and the parameters' bindings behind it -/
abbrev Fn := List SB → Option (Res B × Env)
/-- how an argument is handed over -/
def handB (ρ : Env) : B → Option SB
  | .sh d => some (.sh d)
  | .ow (.ins c fs) => some (.io (.ins c fs))
  | .ow o => (o.toD).map SB.sh
  | .pl i => match ρ.at i with
    | some (.sh d) => some (.sh d)
    | some (.ow o) => some (.io o)
    | some (.io o) => some (.io o)
    | none => none
  | .tp bs => (sbsD bs).map fun ds => SB.sh (.tup ds)
def handL (ρ : Env) : List B → Option (List SB)
  | [] => some []
  | b :: r => match handB ρ b, handL ρ r with | some x, some xs => some (x :: xs) | _, _ => none
/-- the places that are lent -/
def lent : List B → List Nat
  | [] => []
  | .pl i :: r => i :: lent r
  | _ :: r => lent r
/-- what came back of a lent object -/
def backB (ρ : Env) (b : B) (out : Option SB) : Env := match b with
  | .pl i => (match ρ.at i, out with
    | some c, some (.io o) => ρ.set i (some (c.put o))
    | _, _ => ρ)
  | _ => ρ
def backL (ρ : Env) : List B → Env → Env
  | b :: r, o :: os => backL (backB ρ b o) r os
  | _, _ => ρ
def nodupN : List Nat → Bool
  | [] => true
  | a :: r => !(r.elem a) && nodupN r
def callF (f : Fn) (bs : List B) : M B := fun ρ =>
  if nodupN (lent bs) then
    match handL ρ bs with
    | none => none
    | some sbs => match f sbs with
      | none => none
      | some (r, outs) => some (r, backL ρ bs outs)
  else none
def mCall (f : Fn) (args : M (List B)) : M B := bind args fun bs => callF f bs

/-! ### comprehensions, loops: what is walked -/
def clr (ρ : Env) : List Nat → Env
  | [] => ρ
  | i :: is => (clr ρ is).set i none
/-- ρ1 with the bindings of ρ at some places -/
def back (ρ ρ1 : Env) : List Nat → Env
  | [] => ρ1
  | i :: is => (back ρ ρ1 is).set i (ρ.at i)
/-- a target's names -/
inductive Tg where | one (i : Nat) | tup (is : List Nat)
def Tg.slots : Tg → List Nat | .one i => [i] | .tup is => is
/-- a name may be bound anew: it is not lent -/
def putS (ρ : Env) (i : Nat) (b : SB) : Option Env :=
  if i < ρ.length then match ρ.at i with | some (.io _) => none | _ => some (ρ.set i (some b)) else none
def putSs (ρ : Env) : List Nat → List D → Option Env
  | [], [] => some ρ
  | i :: is, d :: ds => match putS ρ i (.sh d) with | some ρ1 => putSs ρ1 is ds | none => none
  | _, _ => none
def putTg (ρ : Env) (t : Tg) (d : D) : Option Env := match t with
  | .one i => putS ρ i (.sh d)
  | .tup is => (match d with | .tup ds => if is.length = ds.length then putSs ρ is ds else none | _ => none)
def items (e : M B) : M (List D) := bind e fun x => bind (kept [x]) fun ds => match ds with | [d] => lift (dItems d) | _ => stuck
def upto (n : Nat) : List D := (List.range n).map fun (i : Nat) => D.int i
def itRange (e : M B) : M (List D) := bind e fun x => bind (dat x) fun d => match d with
  | .int n => if decide (n < 2 ^ 62) && decide (-(2 ^ 62) ≤ n) then ret (upto n.toNat) else stuck
  | _ => stuck
def itRange2 (a b : M B) : M (List D) := bind a fun x => bind b fun y => bind (dat x) fun d => bind (dat y) fun e => match d, e with
  | .int l, .int n => if decide (n < 2 ^ 62) && decide (-(2 ^ 62) ≤ n) && decide (l < 2 ^ 62) && decide (-(2 ^ 62) ≤ l) then ret ((List.range (n - l).toNat).map fun (i : Nat) => D.int (l + i)) else stuck
  | _, _ => stuck
def iZip2 (d e : D) : Option (List D) := match d, e with
  | .tup xs, .tup ys => some (zipD xs ys)
  | .lst xs, .lst ys => some (zipD xs ys)
  | _, _ => none
def itZip (a b : M B) : M (List D) := bind a fun x => bind b fun y => bind (kept [x, y]) fun ds => match ds with
  | [d, e] => lift (iZip2 d e)
  | _ => stuck
def enumD (d : D) : Option (List D) := match dItems d with
  | some xs => some (zipD (upto xs.length) xs)
  | none => none
def itEnum (e : M B) : M (List D) := bind e fun x => bind (kept [x]) fun ds => match ds with | [d] => lift (enumD d) | _ => stuck
/-- one item of a comprehension -/
def compGo (t : Tg) (c : M Bool) (e : M B) : List D → List D → M (List D)
  | [], acc => ret acc
  | d :: ds, acc => fun ρ => match putTg (clr ρ t.slots) t d with
    | none => none
    | some ρ1 => bind c (fun k => if k then bind e fun x => bind (kept [x]) fun v => compGo t c e ds (acc ++ v) else compGo t c e ds acc) ρ1
def free (ρ : Env) (is : List Nat) : Bool := is.all fun i => match ρ.at i with | none => decide (i < ρ.length) | some (.sh _) => true | some _ => false
/-- an error that leaves a comprehension is not served -/
def noExc {α : Type} (m : M α) : M α := fun ρ => match m ρ with | some (.ok a, ρ1) => some (.ok a, ρ1) | _ => none
def mComp (t : Tg) (it : M (List D)) (c : M Bool) (e : M B) : M B := bind it fun ds => fun ρ =>
  if free ρ t.slots then
    match noExc (compGo t c e ds []) ρ with
    | some (.ok vs, ρ1) => if vs.length ≤ LIM then some (.ok (.ow (.lst vs)), back ρ ρ1 t.slots) else none
    | _ => none
  else none
def yes : M Bool := ret true

/-! ### statements -/
inductive Fl where | nx | rt (b : B) | bk | ct
abbrev S := M Fl
def sPass : S := ret .nx
def sBreak : S := ret .bk
def sCont : S := ret .ct
def sSeq (a b : S) : S := bind a fun f => match f with | .nx => b | _ => ret f
def sDrop (e : M B) : S := bind e fun _ => ret .nx
def bindS (i : Nat) (b : SB) : S := fun ρ => match putS ρ i b with | some ρ1 => some (.ok .nx, ρ1) | none => none
/-- what a name is bound to -/
def ownB (b : B) : M SB := match b with
  | .sh d => ret (.sh d)
  | .ow o => ret (.ow o)
  | .pl _ => stuck
  | .tp bs => lift ((sbsD bs).map fun ds => SB.sh (.tup ds))
def sSet (i : Nat) (e : M B) : S := bind e fun x => bind (ownB x) fun b => bindS i b
def ownBs : List B → M (List SB)
  | [] => ret []
  | b :: r => bind (ownB b) fun x => bind (ownBs r) fun xs => ret (x :: xs)
def bindSs : List Nat → List SB → S
  | [], [] => ret .nx
  | i :: is, b :: bs => sSeq (bindS i b) (bindSs is bs)
  | _, _ => stuck
/-- a, b = e1, e2 -/
def sPar (is : List Nat) (es : M (List B)) : S := bind es fun xs => bind (ownBs xs) fun bs => bindSs is bs
/-- a, b = e -/
def sUnp (is : List Nat) (e : M B) : S := bind e fun x => match x with
  | .tp bs => bindSs is bs
  | _ => bind (kept [x]) fun ds => match ds with
    | [.tup vs] => bindSs is (vs.map SB.sh)
    | _ => stuck
def setAt (o : O) (k v : D) : Option O := match o with
  | .lst xs => (match k with
    | .int j => if decide (0 ≤ j) && decide (j.toNat < xs.length) then some (.lst (xs.set j.toNat v)) else none
    | _ => none)
  | .dic false kvs => if kvs.length < LIM then
      (if keyOf false k then some (.dic false (putD kvs k v)) else none) else none
  | .dic true kvs => if kvs.length < LIM then
      (if keyOf true k then some (.dic true (putD kvs k v)) else none) else none
  | .ins _ _ => none
def putO (i : Nat) (f : O → Option O) : M Unit := fun ρ => match ρ.at i with
  | some c => (match c.obj with
    | some o => (match f o with | some o1 => some (.ok (), ρ.set i (some (c.put o1))) | none => none)
    | none => none)
  | none => none
/-- the object of a name -/
def mHas (i : Nat) : M O := fun ρ => match ρ.at i with
  | some c => (match c.obj with | some o => some (.ok o, ρ) | none => none)
  | none => none
/-- x[k] = e -/
def sIxSet (i : Nat) (k e : M B) : S := bind e fun v => bind (mHas i) fun _ => bind k fun x => bind (kept [v, x]) fun ds => match ds with
  | [d, q] => bind (putO i fun o => setAt o q d) fun _ => ret .nx
  | _ => stuck
def addAt (d : D) (o : O) : Option O := match o with
  | .lst xs => if xs.length < LIM then some (.lst (xs ++ [d])) else none
  | _ => none
def isLstO : O → Bool | .lst _ => true | _ => false
/-- x.append(e), x a name -/
def mApp (i : Nat) (e : M B) : M B := bind (mHas i) fun o => if isLstO o then bind e fun v => bind (kept [v]) fun vs => match vs with
  | [d] => bind (putO i (addAt d)) fun _ => ret (.sh .non)
  | _ => stuck else stuck
def sIf (t : M Bool) (a b : S) : S := bind t fun c => if c then a else b
def forGo (t : Tg) (body : S) : List D → S
  | [] => ret .nx
  | d :: ds => fun ρ => match putTg ρ t d with
    | none => none
    | some ρ1 => bind body (fun f => match f with
      | .nx => forGo t body ds
      | .ct => forGo t body ds
      | .bk => ret .nx
      | .rt b => ret (.rt b)) ρ1
def sFor (t : Tg) (it : M (List D)) (body : S) : S := bind it fun ds => forGo t body ds
def whGo (t : M Bool) (body : S) : Nat → S
  | 0 => stuck
  | n + 1 => bind t fun c => if c then bind body (fun f => match f with
      | .nx => whGo t body n
      | .ct => whGo t body n
      | .bk => ret .nx
      | .rt b => ret (.rt b)) else ret .nx
/-- more turns than any loop takes -/
def TURNS : Nat := 1000000000
def sWhile (t : M Bool) (body : S) : S := whGo t body TURNS
def sRet (e : M B) : S := bind e fun x => match x with
  | .pl _ => stuck
  | _ => ret (.rt x)
/-- return x: the name is given away -/
def mMv (i : Nat) : M B := fun ρ => match ρ.at i with
  | some (.sh d) => some (.ok (.sh d), ρ)
  | some (.ow o) => some (.ok (.ow o), ρ.set i none)
  | _ => none
/-- return (x, y): names of their own are given away -/
def sbB : B → Option SB
  | .sh d => some (.sh d)
  | .ow o => some (.ow o)
  | _ => none
def sbBs : List B → Option (List SB)
  | [] => some []
  | b :: r => match sbB b, sbBs r with | some x, some xs => some (x :: xs) | _, _ => none
def mTp (es : M (List B)) : M B := bind es fun bs => if few bs then bind (lift (sbBs bs)) fun sbs => ret (.tp sbs) else stuck
def sRaise (c : Nat) : S := fun ρ => some (.exc c none, ρ)
/-- a clause is taken by the error's class; a suite lets no error out -/
def tryGo (c : Nat) (p : Option (Txt × D)) : List ((Nat → Bool) × S) → S
  | [] => fun ρ => some (.exc c p, ρ)
  | (t, s) :: r => if t c then noExc s else tryGo c p r
def sTry (n : Nat) (body : S) (hs : List ((Nat → Bool) × S)) : S := fun ρ => match body ρ with
  | some (.exc c p, ρ1) => if c < n then tryGo c p hs ρ1 else none
  | some (.ok f, ρ1) => some (.ok f, ρ1)
  | none => none
/-- an error with an attribute -/
def sRaiseP (c : Nat) (f : Txt) (e : M B) : S := bind e fun x => bind (dat x) fun d => match d with
  | .int i => fun ρ => some (.exc c (some (f, .int i)), ρ)
  | _ => stuck
/-- what a caller sees of the parameters: lent objects -/
def outs (np : Nat) (ρ : Env) : Env := (List.range np).map fun i => match ρ.at i with | some (.io o) => some (.io o) | _ => none
/-- a def -/
def mkFn (np n : Nat) (body : S) : Fn := fun args =>
  if args.length = np then
    match body (args.map some ++ List.replicate (n - np) none) with
    | none => none
    | some (.ok (.rt b), ρ) => some (.ok b, outs np ρ)
    | some (.ok .nx, ρ) => some (.ok (.sh .non), outs np ρ)
    | some (.ok _, _) => none
    | some (.exc c p, ρ) => some (.exc c p, outs np ρ)
  else none
end WF

set_option linter.all false
/-! WFA2: more combinators (core Lean and WFA alone). -/
namespace WF
/-- e, its new object shared at once (the name is a comprehension's target later) -/
def mFz (m : M B) : M B := bind m fun x => bind (kept [x]) fun ds => match ds with
  | [d] => ret (.sh d)
  | _ => stuck
/-- list(zip(a, b)), of two tuples with two items each -/
def lzip2 (ds : List D) : Option B := match ds with
  | [.tup [a, b], .tup [c, d]] => some (.ow (.lst [.tup [a, c], .tup [b, d]]))
  | _ => none
def mLZip (a b : M B) : M B := bind a fun x => bind b fun y => bind (kept [x, y]) fun ds => lift (lzip2 ds)
/-- the keys of a new dict in hand, walked -/
def keysOf : B → Option (List D)
  | .ow (.dic true kvs) => some (kvs.map (·.1))
  | _ => none
def itKeys (e : M B) : M (List D) := bind e fun x => lift (keysOf x)
/-- x.get(k, e), x a name of a dict with text keys -/
def isDicS : O → Bool | .dic false _ => true | _ => false
def getS (o : O) (s : Txt) (e : D) : Option B := match o with
  | .dic false kvs => some (.sh ((lookD kvs (.str s)).getD e))
  | _ => none
def mGetN (i : Nat) (b c : M B) : M B := bind (mHas i) fun o => if isDicS o then bind b fun y => bind (dat y) fun k => match k with
  | .str s => bind c fun z => bind (kept [z]) fun ds => match ds with
    | [e] => bind (mHas i) fun o1 => lift (getS o1 s e)
    | _ => stuck
  | _ => stuck else stuck
/-- sep.join(e), sep a text at hand -/
def mJoinS (a b : M B) : M B := bind a fun x => match x with
  | .sh (.str s) => bind b fun y => bind (dat y) fun e => lift (iJoin (.str s) e)
  | _ => stuck
end WF

set_option Elab.async false
set_option linter.all false
set_option maxRecDepth 100000
set_option maxHeartbeats 4000000
/-! WFB: how pure data stands for the abstract heap of the layer; states; readings. -/
namespace WF
open PySem PySem.Spec L2
/-- the slots' values -/
abbrev St := L2.St

/-- what stands fixed: program, world, the written part, the addresses of the text's classes -/
structure Cs where
  P : Program
  w : World
  K : PySem.W.Frag
  cl : Nat → Addr
abbrev cs (cl : Nat → Addr) (X : Cx) : Cs := ⟨X.prog, X.w, X.K, cl⟩

def mkS (t : Txt) : Str := ⟨t.toArray⟩
def okT (s : Txt) : Prop := (∀ c ∈ s, c < 0x110000) ∧ s.length ≤ LIM
theorem mkS_inj {a b : Txt} (h : mkS a = mkS b) : a = b := by
  have := congrArg (fun s : Str => s.cps.toList) h
  simpa [mkS] using this
theorem mkS_len (a : Txt) : (mkS a).length = a.length := by simp [mkS, Str.length]
theorem lim_eq : LIM = sizeLine := by rw [sizeLine_eq]

mutual
def nk : D → NestedKey
  | .bl b => .num (if b then 1 else 0)
  | .int i => .num i
  | .str s => .text (mkS s)
  | .tup xs => .tup (nks xs)
  | .non => .none
  | .lst _ => .none
  | .dic _ _ => .none
def nks : List D → List NestedKey
  | [] => []
  | x :: xs => nk x :: nks xs
end

/-- a dict with keys that are tuples, by its own object alone -/
def dkT (C : Cs) (a : Addr) (xs : List (NestedKey × Addr × V)) : HO := .ext fun h =>
  ∃ ys : List (NestedKey × Addr × Value), Paired (fun (p : NestedKey × Addr × V) (q : NestedKey × Addr × Value) => p.1 = q.1 ∧ p.2.1 = q.2.1 ∧ RelV p.2.2 q.2.2) xs ys ∧
    ∃ o es ep, h.get? a = some o ∧ o.ExactDict ∧ o.data = .dict es ep ∧ es.toList = ys.map (entryOfKey (nestedKind C.P C.w)) ∧ xs.length ≤ sizeLine ∧ (a == sysModules) = false ∧ (xs.map (·.1)).Nodup

mutual
/-- the value v is the data d, of frozen objects -/
inductive Rep (C : Cs) (F : Hp) : V → D → Prop
  | non : Rep C F .non .non
  | bl (b : Bool) : Rep C F (.bl b) (.bl b)
  | int (i : Int) : Rep C F (.int i) (.int i)
  | str (s : Txt) : okT s → Rep C F (.str (mkS s)) (.str s)
  | tup {a : Addr} {xs : List V} {ds : List D} : SqT C.K F a xs → Reps C F xs ds → Rep C F (.ref a) (.tup ds)
  | lst {a : Addr} {xs : List V} {ds : List D} : SqL C.K F a xs → Reps C F xs ds → Rep C F (.ref a) (.lst ds)
  | dicS {a : Addr} {xs : List (Key × V)} {kvs : List (D × D)} : F a = some (.dK xs) → RepS C F xs kvs → Rep C F (.ref a) (.dic false kvs)
  | dicT {a : Addr} {xs : List (NestedKey × Addr × V)} {kvs : List (D × D)} : F a = some (dkT C a xs) → RepT C F xs kvs → Rep C F (.ref a) (.dic true kvs)
inductive Reps (C : Cs) (F : Hp) : List V → List D → Prop
  | nil : Reps C F [] []
  | cons {v : V} {vs : List V} {d : D} {ds : List D} : Rep C F v d → Reps C F vs ds → Reps C F (v :: vs) (d :: ds)
inductive RepS (C : Cs) (F : Hp) : List (Key × V) → List (D × D) → Prop
  | nil : RepS C F [] []
  | cons {s : Txt} {v : V} {d : D} {xs : List (Key × V)} {kvs : List (D × D)} : okT s → Rep C F v d → RepS C F xs kvs → RepS C F ((Sum.inr (mkS s), v) :: xs) ((.str s, d) :: kvs)
inductive RepT (C : Cs) (F : Hp) : List (NestedKey × Addr × V) → List (D × D) → Prop
  | nil : RepT C F [] []
  | cons {ka : Addr} {k : D} {v : V} {d : D} {xs : List (NestedKey × Addr × V)} {kvs : List (D × D)} : keyT k = true → Rep C F (.ref ka) k → Rep C F v d → RepT C F xs kvs → RepT C F ((nk k, ka, v) :: xs) ((k, d) :: kvs)
end

/-- all of F stands in F' -/
def Sub (F F' : Hp) : Prop := ∀ a o, F a = some o → F' a = some o
theorem Sub.refl (F : Hp) : Sub F F := fun _ _ h => h
theorem Sub.trans {F F1 F2 : Hp} (a : Sub F F1) (b : Sub F1 F2) : Sub F F2 := fun x o h => b x o (a x o h)
theorem Sub.rd {F F' : Hp} (s : Sub F F') {a : Addr} {u : HO} (h : Rd F a u) : Rd F' a u := by
  rcases h with h | ⟨o, h⟩
  · exact .inl (s _ _ h)
  · exact .inr ⟨o, s _ _ h⟩
theorem Sub.sqL {K : PySem.W.Frag} {F F' : Hp} (s : Sub F F') {a : Addr} {xs : List V} (h : SqL K F a xs) : SqL K F' a xs := by
  rcases h with h | h
  · exact .inl (s.rd h)
  · exact .inr h
theorem Sub.sqT {K : PySem.W.Frag} {F F' : Hp} (s : Sub F F') {a : Addr} {xs : List V} (h : SqT K F a xs) : SqT K F' a xs := by
  rcases h with h | h
  · exact .inl (s.rd h)
  · exact .inr h
mutual
theorem Rep.mono {C : Cs} {F F' : Hp} (s : Sub F F') : ∀ {v : V} {d : D}, Rep C F v d → Rep C F' v d
  | _, _, .non => .non
  | _, _, .bl b => .bl b
  | _, _, .int i => .int i
  | _, _, .str t h => .str t h
  | _, _, .tup h r => .tup (s.sqT h) (Reps.mono s r)
  | _, _, .lst h r => .lst (s.sqL h) (Reps.mono s r)
  | _, _, .dicS h r => .dicS (s _ _ h) (RepS.mono s r)
  | _, _, .dicT h r => .dicT (s _ _ h) (RepT.mono s r)
theorem Reps.mono {C : Cs} {F F' : Hp} (s : Sub F F') : ∀ {v : List V} {d : List D}, Reps C F v d → Reps C F' v d
  | _, _, .nil => .nil
  | _, _, .cons h r => .cons (Rep.mono s h) (Reps.mono s r)
theorem RepS.mono {C : Cs} {F F' : Hp} (s : Sub F F') : ∀ {v : List (Key × V)} {d : List (D × D)}, RepS C F v d → RepS C F' v d
  | _, _, .nil => .nil
  | _, _, .cons t h r => .cons t (Rep.mono s h) (RepS.mono s r)
theorem RepT.mono {C : Cs} {F F' : Hp} (s : Sub F F') : ∀ {v : List (NestedKey × Addr × V)} {d : List (D × D)}, RepT C F v d → RepT C F' v d
  | _, _, .nil => .nil
  | _, _, .cons t k h r => .cons t (Rep.mono s k) (Rep.mono s h) (RepT.mono s r)
end
theorem Reps.length {C : Cs} {F : Hp} : ∀ {v : List V} {d : List D}, Reps C F v d → v.length = d.length
  | _, _, .nil => rfl
  | _, _, .cons _ r => by simp [Reps.length r]


/-- the attributes of an instance -/
abbrev RepF (C : Cs) (F : Hp) : List (Str × V) → List (Txt × D) → Prop := Paired fun (p : Str × V) (q : Txt × D) => p.1 = mkS q.1 ∧ Rep C F p.2 q.2
theorem RepF.mono {C : Cs} {F F' : Hp} (s : Sub F F') {xs : List (Str × V)} {fs : List (Txt × D)} (h : RepF C F xs fs) : RepF C F' xs fs := Paired.mapP h fun _ _ z => ⟨z.1, z.2.mono s⟩

/-- the object o at a, its parts frozen -/
inductive ROb (C : Cs) (F H : Hp) (a : Addr) : O → Prop
  | lst {xs : List V} {ds : List D} : H a = some (.lst xs) → Reps C F xs ds → ROb C F H a (.lst ds)
  | dicS {xs : List (Key × V)} {kvs : List (D × D)} : H a = some (.dK xs) → RepS C F xs kvs → ROb C F H a (.dic false kvs)
  | dicT {xs : List (NestedKey × Addr × V)} {kvs : List (D × D)} : H a = some (dkT C a xs) → RepT C F xs kvs → ROb C F H a (.dic true kvs)
  | ins {c : Nat} {dx : Addr} {xs : List (Str × V)} {fs : List (Txt × D)} : H a = some (.ins (C.cl c) dx xs) → RepF C F xs fs → ROb C F H a (.ins c fs)
theorem ROb.mono {C : Cs} {F F' H H' : Hp} {a : Addr} {o : O} (h : ROb C F H a o) (s : Sub F F') (k : ∀ o, H a = some o → H' a = some o) : ROb C F' H' a o := by
  cases h with
  | lst h r => exact .lst (k _ h) (r.mono s)
  | dicS h r => exact .dicS (k _ h) (r.mono s)
  | dicT h r => exact .dicT (k _ h) (r.mono s)
  | ins h r => exact .ins (k _ h) (RepF.mono s r)
theorem ROb.some {C : Cs} {F H : Hp} {a : Addr} {o : O} (h : ROb C F H a o) : ∃ u, H a = Option.some u := by
  cases h <;> exact ⟨_, by assumption⟩
/-- its data, seen in any heap in which it stands -/
theorem ROb.toD {C : Cs} {F H G : Hp} {a : Addr} {o : O} {d : D} (h : ROb C F H a o) (e : o.toD = Option.some d) (s : Sub F G) (k : ∀ o, H a = Option.some o → G a = Option.some o) : Rep C G (.ref a) d := by
  cases h with
  | lst h r => cases e; exact .lst (.inl (.inl (k _ h))) (r.mono s)
  | dicS h r => cases e; exact .dicS (k _ h) (r.mono s)
  | dicT h r => cases e; exact .dicT (k _ h) (r.mono s)
  | ins h r => cases e

/-- a binding's value -/
inductive RSB (C : Cs) (F H : Hp) : V → SB → Prop
  | sh {v : V} {d : D} : Rep C F v d → RSB C F H v (.sh d)
  | ow {a : Addr} {o : O} : ROb C F H a o → F a = none → RSB C F H (.ref a) (.ow o)
  | io {a : Addr} {o : O} : ROb C F H a o → F a = none → RSB C F H (.ref a) (.io o)

/-- a name's own object stands at a -/
def Owns (σ : St) (ρ : Env) (a : Addr) : Prop := ∃ i b, ρ.at i = some b ∧ b.obj.isSome = true ∧ σ[i]? = some (some (.ref a))

structure Stt (C : Cs) (F H : Hp) (σ : St) (ρ : Env) : Prop where
  sub : Sub F H
  len : ρ.length = σ.length
  sl : ∀ i b, ρ.at i = some b → ∃ v, σ[i]? = some (some v) ∧ RSB C F H v b
  dis : ∀ i j b c a, ρ.at i = some b → b.obj.isSome = true → ρ.at j = some c → c.obj.isSome = true → σ[i]? = some (some (.ref a)) → σ[j]? = some (some (.ref a)) → i = j

/-- from one state to a later one; A: the new objects in hand, that may be used up -/
structure Tr (A : List Addr) (σ : St) (F H : Hp) (ρ : Env) (σ' : St) (F' H' : Hp) (ρ' : Env) : Prop where
  sub : Sub F F'
  keep : ∀ a o, H a = some o → ¬ Owns σ ρ a → a ∉ A → H' a = some o
  nofz : ∀ a, H a ≠ none → ¬ Owns σ ρ a → a ∉ A → F a = none → F' a = none
  there : ∀ a, H a ≠ none → H' a ≠ none
  own : ∀ a, Owns σ' ρ' a → Owns σ ρ a ∨ a ∈ A ∨ H a = none
  io : ∀ i o, ρ.at i = some (.io o) → (∃ o', ρ'.at i = some (.io o')) ∧ σ'[i]? = σ[i]?
  oi : ∀ i o, ρ'.at i = some (.io o) → ∃ o', ρ.at i = some (.io o')
/-- not seen before -/
def New (A : List Addr) (σ : St) (H : Hp) (ρ : Env) (A' : List Addr) : Prop := ∀ a ∈ A', Owns σ ρ a ∨ a ∈ A ∨ H a = none

section
variable {C : Cs} {σ σ1 σ2 : St} {F H F1 H1 F2 H2 : Hp} {ρ ρ1 ρ2 : Env} {a : Addr} {o : O} {b : SB} {v : V} {A A0 A1 A' : List Addr}
theorem there_none (t : ∀ a, H a ≠ none → H1 a ≠ none) (q : H1 a = none) : H a = none := by
  cases e : H a with
  | none => rfl
  | some u => exact absurd q (t a (by rw [e]; simp))
theorem Tr.refl : Tr A σ F H ρ σ F H ρ := ⟨Sub.refl _, fun _ _ h _ _ => h, fun _ _ _ _ h => h, fun _ h => h, fun _ h => .inl h, fun _ o h => ⟨⟨o, h⟩, rfl⟩, fun _ o h => ⟨o, h⟩⟩
theorem Tr.hand (x : Tr A σ F H ρ σ1 F1 H1 ρ1) (h : ∀ a ∈ A, a ∈ A') : Tr A' σ F H ρ σ1 F1 H1 ρ1 :=
  ⟨x.sub, fun a o q n m => x.keep a o q n fun z => m (h a z), fun a q n m => x.nofz a q n fun z => m (h a z), x.there, fun a q => (x.own a q).imp id fun z => z.imp (h a) id, x.io, x.oi⟩
/-- what the first part brought (A1) may be used up by the second -/
theorem Tr.trans (x : Tr A0 σ F H ρ σ1 F1 H1 ρ1) (n : New A0 σ H ρ A1) (y : Tr (A0 ++ A1) σ1 F1 H1 ρ1 σ2 F2 H2 ρ2) : Tr A0 σ F H ρ σ2 F2 H2 ρ2 := by
  have no : ∀ a, H a ≠ none → ¬ Owns σ ρ a → a ∉ A0 → ¬ Owns σ1 ρ1 a ∧ a ∉ A0 ++ A1 := fun a h n1 m => by
    refine ⟨fun q => ?_, fun q => ?_⟩
    · rcases x.own a q with z | z | z
      · exact n1 z
      · exact m z
      · exact h z
    · rcases List.mem_append.mp q with z | z
      · exact m z
      · rcases n a z with z | z | z
        · exact n1 z
        · exact m z
        · exact h z
  refine ⟨x.sub.trans y.sub, fun a o h n1 m => ?_, fun a h n1 m f => ?_, fun a h => y.there a (x.there a h), fun a h => ?_, fun i o h => ?_, fun i o h => let ⟨o1, h1⟩ := y.oi i o h; x.oi i o1 h1⟩
  · have q := no a (by rw [h]; simp) n1 m
    exact y.keep a o (x.keep a o h n1 m) q.1 q.2
  · have q := no a h n1 m
    exact y.nofz a (x.there a h) q.1 q.2 (x.nofz a h n1 m f)
  · rcases y.own a h with q | q | q
    · exact x.own a q
    · rcases List.mem_append.mp q with z | z
      · exact .inr (.inl z)
      · exact n a z
    · exact .inr (.inr (there_none x.there q))
  · obtain ⟨⟨o1, h1⟩, e1⟩ := x.io i o h
    obtain ⟨h2, e2⟩ := y.io i o1 h1
    exact ⟨h2, e2.trans e1⟩
theorem Tr.trans0 (x : Tr A0 σ F H ρ σ1 F1 H1 ρ1) (y : Tr [] σ1 F1 H1 ρ1 σ2 F2 H2 ρ2) : Tr A0 σ F H ρ σ2 F2 H2 ρ2 :=
  x.trans (A1 := []) (fun _ h => nomatch h) (y.hand fun _ h => nomatch h)

theorem RSB.rep {d : D} (h : RSB C F H v b) (s : Sub F H) (e : b.toD = some d) : Rep C H v d := by
  cases h with
  | sh r => cases e; exact r.mono s
  | ow r f => exact r.toD e s fun _ h => h
  | io r f => exact r.toD e s fun _ h => h
theorem Stt.notF (S : Stt C F H σ ρ) (h : Owns σ ρ a) : F a = none := by
  obtain ⟨i, b, h1, h2, h3⟩ := h
  obtain ⟨v, e, r⟩ := S.sl i b h1
  rw [h3] at e
  cases e
  cases r with
  | sh r => cases h2
  | ow r f => exact f
  | io r f => exact f
theorem Stt.own_some (S : Stt C F H σ ρ) (h : Owns σ ρ a) : H a ≠ none := by
  obtain ⟨i, b, h1, h2, h3⟩ := h
  obtain ⟨v, e, r⟩ := S.sl i b h1
  rw [h3] at e
  cases e
  cases r with
  | sh r => cases h2
  | ow r f => obtain ⟨u, q⟩ := r.some; rw [q]; simp
  | io r f => obtain ⟨u, q⟩ := r.some; rw [q]; simp
end

/-- the items of a tuple that holds new objects; their addresses -/
inductive RTp (C : Cs) (F H : Hp) : List V → List SB → List Addr → Prop
  | nil : RTp C F H [] [] []
  | sh {v : V} {d : D} {vs : List V} {bs : List SB} {A : List Addr} : Rep C F v d → RTp C F H vs bs A → RTp C F H (v :: vs) (.sh d :: bs) A
  | ow {a : Addr} {o : O} {vs : List V} {bs : List SB} {A : List Addr} : ROb C F H a o → RTp C F H vs bs A → RTp C F H (.ref a :: vs) (.ow o :: bs) (a :: A)
/-- what an expression gives; the addresses of its new objects -/
inductive RB (C : Cs) (σ : St) (F H : Hp) : V → B → List Addr → Prop
  | sh {v : V} {d : D} : Rep C F v d → RB C σ F H v (.sh d) []
  | ow {a : Addr} {o : O} : ROb C F H a o → RB C σ F H (.ref a) (.ow o) [a]
  | pl {i : Nat} {v : V} : σ[i]? = some (some v) → RB C σ F H v (.pl i) []
  | tp {a : Addr} {xs : List V} {bs : List SB} {A : List Addr} : SqT C.K F a xs → RTp C F H xs bs A → RB C σ F H (.ref a) (.tp bs) A
/-- several -/
inductive RBs (C : Cs) (σ : St) (F H : Hp) : List V → List B → List Addr → Prop
  | nil : RBs C σ F H [] [] []
  | cons {v : V} {b : B} {vs : List V} {bs : List B} {A A' : List Addr} : RB C σ F H v b A → RBs C σ F H vs bs A' → RBs C σ F H (v :: vs) (b :: bs) (A ++ A')
/-- new objects, in nobody's hand -/
structure Fp (σ : St) (F H : Hp) (ρ : Env) (A : List Addr) : Prop where
  nd : A.Nodup
  nf : ∀ a ∈ A, F a = none
  no : ∀ a ∈ A, ¬ Owns σ ρ a
  th : ∀ a ∈ A, H a ≠ none
theorem Fp.nil {σ : St} {F H : Hp} {ρ : Env} : Fp σ F H ρ [] := ⟨List.nodup_nil, fun _ h => (nomatch h), fun _ h => (nomatch h), fun _ h => (nomatch h)⟩
theorem New.nil {A : List Addr} {σ : St} {H : Hp} {ρ : Env} : New A σ H ρ [] := fun _ h => nomatch h
section
variable {C : Cs} {σ σ1 σ' : St} {F H F1 H1 F' H' : Hp} {ρ ρ1 ρ' : Env} {a : Addr} {A A' A0 A1 : List Addr}
theorem Fp.tr (f : Fp σ F H ρ A) (t : Tr [] σ F H ρ σ' F' H' ρ') : Fp σ' F' H' ρ' A :=
  ⟨f.nd, fun a h => t.nofz a (f.th a h) (f.no a h) (fun z => nomatch z) (f.nf a h), fun a h q => by
    rcases t.own a q with z | z | z
    · exact f.no a h z
    · exact nomatch z
    · exact f.th a h z, fun a h => t.there a (f.th a h)⟩
theorem Fp.keep (f : Fp σ F H ρ A) (t : Tr [] σ F H ρ σ' F' H' ρ') (h : a ∈ A) : ∀ o, H a = some o → H' a = some o := fun o e => t.keep a o e (f.no a h) fun z => nomatch z
theorem Fp.left (f : Fp σ F H ρ (A ++ A')) : Fp σ F H ρ A := ⟨(List.nodup_append.mp f.nd).1, fun a h => f.nf a (List.mem_append_left _ h), fun a h => f.no a (List.mem_append_left _ h), fun a h => f.th a (List.mem_append_left _ h)⟩
theorem Fp.right (f : Fp σ F H ρ (A ++ A')) : Fp σ F H ρ A' := ⟨(List.nodup_append.mp f.nd).2.1, fun a h => f.nf a (List.mem_append_right _ h), fun a h => f.no a (List.mem_append_right _ h), fun a h => f.th a (List.mem_append_right _ h)⟩
/-- two, the second one made behind the first -/
theorem Fp.append (f : Fp σ F H ρ A) (t : Tr [] σ F H ρ σ' F' H' ρ') (g : Fp σ' F' H' ρ' A') (n : New [] σ H ρ A') : Fp σ' F' H' ρ' (A ++ A') := by
  have f' := f.tr t
  refine ⟨List.nodup_append.mpr ⟨f.nd, g.nd, fun a h b h' e => ?_⟩, fun a h => ?_, fun a h => ?_, fun a h => ?_⟩
  · subst e
    rcases n a h' with z | z | z
    · exact f.no a h z
    · exact nomatch z
    · exact f.th a h z
  · exact (List.mem_append.mp h).elim (f'.nf a) (g.nf a)
  · exact (List.mem_append.mp h).elim (f'.no a) (g.no a)
  · exact (List.mem_append.mp h).elim (f'.th a) (g.th a)
/-- .. as seen from ahead of the first -/
theorem New.append (n : New [] σ H ρ A) (t : Tr [] σ F H ρ σ1 F1 H1 ρ1) (m : New [] σ1 H1 ρ1 A') : New [] σ H ρ (A ++ A') := fun a h => by
  rcases List.mem_append.mp h with q | q
  · exact n a q
  · rcases m a q with z | z | z
    · exact t.own a z
    · exact nomatch z
    · exact .inr (.inr (there_none t.there z))
/-- behind two steps, the first of which left A1 in hand -/
theorem New.trans (t : Tr A0 σ F H ρ σ1 F1 H1 ρ1) (n : New A0 σ H ρ A1) (m : New (A0 ++ A1) σ1 H1 ρ1 A') : New A0 σ H ρ A' := fun a h => by
  rcases m a h with z | z | z
  · exact t.own a z
  · rcases List.mem_append.mp z with z | z
    · exact .inr (.inl z)
    · exact n a z
  · exact .inr (.inr (there_none t.there z))
theorem RTp.mono {xs : List V} {bs : List SB} (h : RTp C F H xs bs A) (s : Sub F F') (k : ∀ a ∈ A, ∀ o, H a = some o → H' a = some o) : RTp C F' H' xs bs A := by
  induction h with
  | nil => exact .nil
  | sh r t ih => exact .sh (r.mono s) (ih k)
  | ow r t ih => exact .ow (r.mono s (k _ List.mem_cons_self)) (ih fun a h => k a (List.mem_cons_of_mem _ h))
theorem RB.mono {v : V} {b : B} (h : RB C σ F H v b A) (s : Sub F F') (k : ∀ a ∈ A, ∀ o, H a = some o → H' a = some o) : RB C σ F' H' v b A := by
  cases h with
  | sh r => exact .sh (r.mono s)
  | ow r => exact .ow (r.mono s (k _ (by simp)))
  | pl e => exact .pl e
  | tp h r => exact .tp (s.sqT h) (r.mono s k)
theorem RBs.mono {vs : List V} {bs : List B} (h : RBs C σ F H vs bs A) (s : Sub F F') (k : ∀ a ∈ A, ∀ o, H a = some o → H' a = some o) : RBs C σ F' H' vs bs A := by
  induction h with
  | nil => exact .nil
  | cons r t ih => exact .cons (r.mono s fun a h => k a (List.mem_append_left _ h)) (ih fun a h => k a (List.mem_append_right _ h))
theorem RBs.length {vs : List V} {bs : List B} (h : RBs C σ F H vs bs A) : vs.length = bs.length := by
  induction h with
  | nil => rfl
  | cons r t ih => simp [ih]
end

/-! ### readings -/
/-- how a result α stands as β: rel C σ F H β α addresses -/
structure Rl (β α : Type) where
  rel : Cs → St → Hp → Hp → β → α → List Addr → Prop
abbrev RlB : Rl V B := ⟨fun C σ F H v b A => RB C σ F H v b A⟩
abbrev RlL : Rl (List V) (List B) := ⟨fun C σ F H v b A => RBs C σ F H v b A⟩
abbrev RlT : Rl Bool Bool := ⟨fun _ _ _ _ v b A => v = b ∧ A = []⟩
/-- an error that leaves: its class, its attribute -/
def REx (C : Cs) (F : Hp) (c : Nat) (p : Option (Txt × D)) (cls : Value) (d : Option Addr) (H : Hp) : Prop :=
  cls = .ref (C.cl c) ∧ match p with
    | none => d = none
    | some (f, x) => ∃ dx i, d = some dx ∧ x = .int i ∧ H dx = some (.xd [(mkS f, .int i)])
/-- what is wanted behind m, from the state F ρ, with the new objects A0 in hand -/
def tR {β α : Type} (C : Cs) (R : Rl β α) (W : WX) (A0 : List Addr) (F : Hp) (ρ : Env) (m : M α) : St → Hp → (β → Hp → Prop) → Prop := fun σ H Q => ∃ r ρ', m ρ = some (r, ρ') ∧
  match r with
  | .ok a => ∀ v A F' H', Tr A0 σ F H ρ σ F' H' ρ' → Stt C F' H' σ ρ' → R.rel C σ F' H' v a A → Fp σ F' H' ρ' A → New A0 σ H ρ A → Q v H'
  | .exc c p => ∀ cls d F' H', Tr A0 σ F H ρ σ F' H' ρ' → Stt C F' H' σ ρ' → REx C F' c p cls d H' → W cls d σ H'
def tM {β α : Type} (C : Cs) (R : Rl β α) (W : WX) (m : M α) : St → Hp → (β → Hp → Prop) → Prop := fun σ H Q => ∃ F ρ, Stt C F H σ ρ ∧ tR C R W [] F ρ m σ H Q
section
variable {C : Cs} {W : WX} {σ : St} {F H : Hp} {ρ : Env} {α β α1 β1 : Type} {R : Rl β α} {R1 : Rl β1 α1} {Q : β → Hp → Prop} {A0 : List Addr}
theorem tR_bind {m : M α1} {k : α1 → M α} (h : tR C R W A0 F ρ (bind m k) σ H Q) : tR C R1 W [] F ρ m σ H (fun v H1 => ∃ a A F1 ρ1, Tr [] σ F H ρ σ F1 H1 ρ1 ∧ Stt C F1 H1 σ ρ1 ∧ R1.rel C σ F1 H1 v a A ∧ Fp σ F1 H1 ρ1 A ∧ New [] σ H ρ A ∧
    tR C R W (A0 ++ A) F1 ρ1 (k a) σ H1 Q) := by
  obtain ⟨r, ρ', e, h⟩ := h
  have up : ∀ {A : List Addr}, New [] σ H ρ A → New A0 σ H ρ A := fun n a z => (n a z).imp id fun q => q.elim (fun q => nomatch q) .inr
  unfold bind at e
  split at e
  · cases e
  · rename_i c p ρ1 em
    cases e
    exact ⟨_, _, em, fun cls d F' H' T S x => h cls d F' H' (T.hand fun _ z => nomatch z) S x⟩
  · rename_i a ρ1 em
    refine ⟨_, _, em, fun v A F1 H1 T S rl fp nw => ⟨a, A, F1, ρ1, T, S, rl, fp, nw, r, ρ', e, ?_⟩⟩
    have T0 : Tr A0 σ F H ρ σ F1 H1 ρ1 := T.hand fun _ z => nomatch z
    cases r with
    | ok b => exact fun v' A' F' H' T' S' rl' fp' nw' => h v' A' F' H' (T0.trans (up nw) T') S' rl' fp' (New.trans T0 (up nw) nw')
    | exc c p => exact fun cls d F' H' T' S' x => h cls d F' H' (T0.trans (up nw) T') S' x
/-- a step that neither fails nor turns anything -/
theorem tR_step {m : M α1} {k : α1 → M α} (h : tR C R W A0 F ρ (bind m k) σ H Q) (p : ∀ r ρ', m ρ = some (r, ρ') → ρ' = ρ ∧ ∃ a, r = .ok a) : ∃ a, m ρ = some (.ok a, ρ) ∧ tR C R W A0 F ρ (k a) σ H Q := by
  obtain ⟨r, ρ', e, h⟩ := h
  unfold bind at e
  split at e
  · cases e
  · rename_i c q ρ1 em
    obtain ⟨_, a, z⟩ := p _ _ em
    cases z
  · rename_i a ρ1 em
    obtain ⟨z, _⟩ := p _ _ em
    subst z
    exact ⟨a, em, r, ρ', e, h⟩
theorem dat_pure {b : B} {r : Res D} {ρ' : Env} (h : dat b ρ = some (r, ρ')) : ρ' = ρ ∧ ∃ a, r = .ok a := by
  unfold dat at h
  split at h
  · cases h
  · cases h
    exact ⟨rfl, _, rfl⟩
theorem dats_pure {b : List B} {r : Res (List D)} {ρ' : Env} (h : dats b ρ = some (r, ρ')) : ρ' = ρ ∧ ∃ a, r = .ok a := by
  unfold dats at h
  split at h
  · cases h
  · cases h
    exact ⟨rfl, _, rfl⟩
theorem lift_pure {γ : Type} {o : Option γ} {r : Res γ} {ρ' : Env} (h : lift o ρ = some (r, ρ')) : ρ' = ρ ∧ ∃ a, r = .ok a := by
  unfold lift at h
  split at h
  · cases h
  · cases h
    exact ⟨rfl, _, rfl⟩
theorem tR_dat {b : B} {k : D → M α} (h : tR C R W A0 F ρ (bind (dat b) k) σ H Q) : ∃ d, b.dat ρ = some d ∧ tR C R W A0 F ρ (k d) σ H Q := by
  obtain ⟨a, e, h⟩ := tR_step h fun _ _ => dat_pure
  refine ⟨a, ?_, h⟩
  unfold dat at e
  split at e
  · cases e
  · cases e; assumption
theorem tR_lift {γ : Type} {o : Option γ} {k : γ → M α} (h : tR C R W A0 F ρ (bind (lift o) k) σ H Q) : ∃ d, o = some d ∧ tR C R W A0 F ρ (k d) σ H Q := by
  obtain ⟨a, e, h⟩ := tR_step h fun _ _ => lift_pure
  refine ⟨a, ?_, h⟩
  unfold lift at e
  split at e
  · cases e
  · cases e; rfl
/-- what is wanted of a value a, from here -/
abbrev Fin (C : Cs) (R : Rl β α) (A0 : List Addr) (F : Hp) (ρ : Env) (σ : St) (H : Hp) (Q : β → Hp → Prop) (a : α) : Prop :=
  ∀ v A F' H', Tr A0 σ F H ρ σ F' H' ρ → Stt C F' H' σ ρ → R.rel C σ F' H' v a A → Fp σ F' H' ρ A → New A0 σ H ρ A → Q v H'
/-- what is left is a value -/
theorem tR_end {o : Option α} (h : tR C R W A0 F ρ (lift o) σ H Q) : ∃ a, o = some a ∧ Fin C R A0 F ρ σ H Q a := by
  obtain ⟨r, ρ', e, h⟩ := h
  unfold lift at e
  split at e
  · cases e
  · cases e
    exact ⟨_, rfl, h⟩
theorem tR_ret {a : α} (h : tR C R W A0 F ρ (ret a) σ H Q) : Fin C R A0 F ρ σ H Q a := by
  obtain ⟨r, ρ', e, h⟩ := h
  unfold ret at e
  cases e
  exact h
/-- the same from a later state, with A1 in hand -/
theorem tR_from {m : M α} {F1 H1 : Hp} {A1 : List Addr} (T : Tr A0 σ F H ρ σ F1 H1 ρ) (n : New A0 σ H ρ A1) (h : tR C R W A0 F ρ m σ H Q) : tR C R W A1 F1 ρ m σ H1 Q := by
  obtain ⟨r, ρ', e, h⟩ := h
  refine ⟨r, ρ', e, ?_⟩
  have up : ∀ {x : Addr}, x ∈ A1 → x ∈ A0 ++ A1 := fun z => List.mem_append_right _ z
  cases r with
  | ok a => exact fun v A F' H' T' S rl fp nw => h v A F' H' (T.trans n (T'.hand fun _ => up)) S rl fp (New.trans T n fun x z => (nw x z).imp id fun q => q.imp up id)
  | exc c p => exact fun cls d F' H' T' S x => h cls d F' H' (T.trans n (T'.hand fun _ => up)) S x
theorem Fin.from_ {a : α} {F1 H1 : Hp} {A1 : List Addr} (h : Fin C R A0 F ρ σ H Q a) (T : Tr A0 σ F H ρ σ F1 H1 ρ) (n : New A0 σ H ρ A1) : Fin C R A1 F1 ρ σ H1 Q a := by
  have up : ∀ {x : Addr}, x ∈ A1 → x ∈ A0 ++ A1 := fun z => List.mem_append_right _ z
  exact fun v A F' H' T' S rl fp nw => h v A F' H' (T.trans n (T'.hand fun _ => up)) S rl fp (New.trans T n fun x z => (nw x z).imp id fun q => q.imp up id)
theorem tR_mono {m : M α} {Q' : β → Hp → Prop} (h : tR C R W A0 F ρ m σ H Q) (i : ∀ v H', Q v H' → Q' v H') : tR C R W A0 F ρ m σ H Q' := by
  obtain ⟨r, ρ', e, h⟩ := h
  refine ⟨r, ρ', e, ?_⟩
  cases r with
  | ok a => exact fun v A F' H' T' S rl fp nw => i _ _ (h v A F' H' T' S rl fp nw)
  | exc c p => exact h
theorem tR_stuck {P : Prop} (h : tR C R W A0 F ρ (stuck : M α) σ H Q) : P := by
  obtain ⟨r, ρ', e, h⟩ := h
  cases e
end

/-! ### what is data stands for it in the heap as it is -/
section
variable {C : Cs} {σ : St} {F H F' H' : Hp} {ρ ρ' : Env} {A : List Addr} {v : V} {b : B} {d : D}
theorem rtp_dat {xs : List V} {bs : List SB} {ds : List D} (h : RTp C F H xs bs A) (s : Sub F H) (e : sbsD bs = some ds) : Reps C H xs ds := by
  induction h generalizing ds with
  | nil => cases e; exact .nil
  | sh r t ih =>
    unfold sbsD at e
    split at e
    · rename_i e1 e2
      cases e1; cases e
      exact .cons (r.mono s) (ih e2)
    · cases e
  | ow r t ih =>
    unfold sbsD at e
    split at e
    · rename_i e1 e2
      cases e
      exact .cons (r.toD e1 s fun _ h => h) (ih e2)
    · cases e
theorem RB.dat (h : RB C σ F H v b A) (S : Stt C F H σ ρ) (e : b.dat ρ = some d) : Rep C H v d := by
  cases h with
  | sh r => cases e; exact r.mono S.sub
  | ow r => exact r.toD e S.sub fun _ h => h
  | pl q =>
    rename_i i
    have e : (match ρ.at i with | some b => b.toD | none => none) = some d := e
    split at e
    · rename_i c hc
      obtain ⟨w, e1, r⟩ := S.sl i c hc
      rw [q] at e1
      cases e1
      exact r.rep S.sub e
    · cases e
  | tp q r =>
    rename_i a xs bs
    have e : (match sbsD bs with | some ds => some (D.tup ds) | none => none) = some d := e
    split at e
    · rename_i ds hd
      cases e
      exact .tup (S.sub.sqT q) (rtp_dat r S.sub hd)
    · cases e
end
end WF

set_option Elab.async false
set_option linter.all false
set_option maxRecDepth 100000
set_option maxHeartbeats 4000000
/-! WFC: judgements SimE, SimT, SimA; new objects; operators. -/
namespace WF
open PySem PySem.Spec L2

/-! ### new objects, shared objects -/
section
variable {C : Cs} {σ : St} {F H : Hp} {ρ : Env} {A A0 : List Addr} {p : Addr} {o : HO}
theorem sub_upd (h : H p = none) : Sub H (upd H p o) := fun a u e => by rw [upd_ne (ne_of_none e h)]; exact e
theorem owns_ne (S : Stt C F H σ ρ) (h : H p = none) {a : Addr} (q : Owns σ ρ a) : a ≠ p := fun e => S.own_some q (by rw [e]; exact h)
/-- a new object, nobody's yet -/
theorem new_own (S : Stt C F H σ ρ) (h : H p = none) : Stt C F (upd H p o) σ ρ ∧ Tr [] σ F H ρ σ F (upd H p o) ρ ∧ Fp σ F (upd H p o) ρ [p] ∧ New [] σ H ρ [p] := by
  have k := sub_upd (o := o) h
  have fp : F p = none := by
    cases e : F p with
    | none => rfl
    | some u => rw [S.sub _ _ e] at h; cases h
  refine ⟨⟨S.sub.trans k, S.len, fun i b e => ?_, S.dis⟩, ⟨Sub.refl _, fun a u e _ _ => k _ _ e, fun _ _ _ _ z => z, fun a e q => ?_, fun a q => .inl q, fun i b q => ⟨⟨b, q⟩, rfl⟩, fun i b q => ⟨b, q⟩⟩, ⟨by simp, fun a m => ?_, fun a m q => ?_, fun a m => ?_⟩, fun a m => ?_⟩
  · obtain ⟨v, e1, r⟩ := S.sl i b e
    refine ⟨v, e1, ?_⟩
    cases r with
    | sh r => exact .sh r
    | ow r f => exact .ow (r.mono (Sub.refl _) fun _ z => k _ _ z) f
    | io r f => exact .io (r.mono (Sub.refl _) fun _ z => k _ _ z) f
  · cases e' : H a with
    | none => exact e e'
    | some u => rw [k _ _ e'] at q; cases q
  · rw [List.mem_singleton.mp m]; exact fp
  · rw [List.mem_singleton.mp m] at q
    exact owns_ne S h q rfl
  · rw [List.mem_singleton.mp m, upd_same]; simp
  · rw [List.mem_singleton.mp m]; exact .inr (.inr h)
/-- a new object, shared at once -/
theorem new_sh (S : Stt C F H σ ρ) (h : H p = none) : Stt C (upd F p o) (upd H p o) σ ρ ∧ Tr [] σ F H ρ σ (upd F p o) (upd H p o) ρ := by
  have k := sub_upd (o := o) h
  have fp : F p = none := by
    cases e : F p with
    | none => rfl
    | some u => rw [S.sub _ _ e] at h; cases h
  have kf := sub_upd (o := o) fp
  refine ⟨⟨fun a u e => ?_, S.len, fun i b e => ?_, S.dis⟩, ⟨kf, fun a u e _ _ => k _ _ e, fun a e _ _ z => ?_, fun a e q => ?_, fun a q => .inl q, fun i b q => ⟨⟨b, q⟩, rfl⟩, fun i b q => ⟨b, q⟩⟩⟩
  · by_cases e' : a = p
    · subst e'; rw [upd_same] at e ⊢; exact e
    · rw [upd_ne e'] at e ⊢; exact S.sub _ _ e
  · obtain ⟨v, e1, r⟩ := S.sl i b e
    refine ⟨v, e1, ?_⟩
    cases r with
    | sh r => exact .sh (r.mono kf)
    | ow r f =>
      refine .ow (r.mono kf fun _ z => k _ _ z) ?_
      rw [upd_ne (owns_ne S h ⟨i, _, e, rfl, e1⟩)]; exact f
    | io r f =>
      refine .io (r.mono kf fun _ z => k _ _ z) ?_
      rw [upd_ne (owns_ne S h ⟨i, _, e, rfl, e1⟩)]; exact f
  · by_cases e' : a = p
    · subst e'; exact absurd h e
    · rw [upd_ne e']; exact z
  · cases e' : H a with
    | none => exact e e'
    | some u => rw [k _ _ e'] at q; cases q
/-- F with the objects at A -/
def addF (F H : Hp) (A : List Addr) : Hp := fun a => if a ∈ A then H a else F a
theorem addF_in {a : Addr} (h : a ∈ A) : addF F H A a = H a := if_pos h
theorem addF_out {a : Addr} (h : a ∉ A) : addF F H A a = F a := if_neg h
/-- new objects in hand are shared from now on -/
theorem share (S : Stt C F H σ ρ) (f : Fp σ F H ρ A) : Stt C (addF F H A) H σ ρ ∧ Tr A σ F H ρ σ (addF F H A) H ρ := by
  have kf : Sub F (addF F H A) := fun a u e => by
    by_cases h : a ∈ A
    · rw [f.nf a h] at e; cases e
    · rw [addF_out h]; exact e
  refine ⟨⟨fun a u e => ?_, S.len, fun i b e => ?_, S.dis⟩, ⟨kf, fun a u e _ _ => e, fun a e _ m z => ?_, fun a e => e, fun a q => .inl q, fun i b q => ⟨⟨b, q⟩, rfl⟩, fun i b q => ⟨b, q⟩⟩⟩
  · by_cases h : a ∈ A
    · rw [addF_in h] at e; exact e
    · rw [addF_out h] at e; exact S.sub _ _ e
  · obtain ⟨v, e1, r⟩ := S.sl i b e
    refine ⟨v, e1, ?_⟩
    cases r with
    | sh r => exact .sh (r.mono kf)
    | ow r g =>
      refine .ow (r.mono kf fun _ z => z) ?_
      rw [addF_out fun q => f.no _ q ⟨i, _, e, rfl, e1⟩]; exact g
    | io r g =>
      refine .io (r.mono kf fun _ z => z) ?_
      rw [addF_out fun q => f.no _ q ⟨i, _, e, rfl, e1⟩]; exact g
  · rw [addF_out m]; exact z
theorem sub_addF (f : Fp σ F H ρ A) : Sub F (addF F H A) := fun a u e => by
  by_cases h : a ∈ A
  · rw [f.nf a h] at e; cases e
  · rw [addF_out h]; exact e
end

/-! ### what is kept: its objects are shared -/
section
variable {C : Cs} {σ : St} {F H G : Hp} {ρ : Env} {A A0 : List Addr} {v : V} {b : B} {d : D}
theorem rtp_in {xs : List V} {bs : List SB} {ds : List D} (h : RTp C F H xs bs A) (s : Sub F G) (k : ∀ a ∈ A, ∀ o, H a = some o → G a = some o) (e : sbsD bs = some ds) : Reps C G xs ds := by
  induction h generalizing ds with
  | nil => cases e; exact .nil
  | sh r t ih =>
    unfold sbsD at e
    split at e
    · rename_i e1 e2
      cases e1; cases e
      exact .cons (r.mono s) (ih k e2)
    · cases e
  | ow r t ih =>
    unfold sbsD at e
    split at e
    · rename_i e1 e2
      cases e
      exact .cons (r.toD e1 s (k _ List.mem_cons_self)) (ih (fun a m => k a (List.mem_cons_of_mem _ m)) e2)
    · cases e
/-- its data over any G in which F and its own new objects stand -/
theorem RB.in_ (h : RB C σ F H v b A) (s : Sub F G) (k : ∀ a ∈ A, ∀ o, H a = some o → G a = some o) (n : noPl b = true) (e : b.dat ρ = some d) : Rep C G v d := by
  cases h with
  | sh r => cases e; exact r.mono s
  | ow r => exact r.toD e s (k _ (by simp))
  | pl q => cases n
  | tp q r =>
    rename_i a xs bs
    have e : (match sbsD bs with | some ds => some (D.tup ds) | none => none) = some d := e
    split at e
    · rename_i ds hd
      cases e
      exact .tup (s.sqT q) (rtp_in r s k hd)
    · cases e
theorem RBs.in_ {vs : List V} {bs : List B} {ds : List D} (h : RBs C σ F H vs bs A) (s : Sub F G) (k : ∀ a ∈ A, ∀ o, H a = some o → G a = some o) (n : bs.all noPl = true) (e : datsL ρ bs = some ds) : Reps C G vs ds := by
  induction h generalizing ds with
  | nil => cases e; exact .nil
  | cons r t ih =>
    unfold datsL at e
    split at e
    · rename_i e1 e2
      cases e
      rw [List.all_cons, Bool.and_eq_true] at n
      exact .cons (r.in_ s (fun a m => k a (List.mem_append_left _ m)) n.1 e1) (ih (fun a m => k a (List.mem_append_right _ m)) n.2 e2)
    · cases e
variable {α β : Type} {R : Rl β α} {W : WX} {Q : β → Hp → Prop}
theorem tR_kept {bs : List B} {vs : List V} {k : List D → M α} (S : Stt C F H σ ρ) (r : RBs C σ F H vs bs A) (f : Fp σ F H ρ A) (h : tR C R W (A0 ++ A) F ρ (bind (kept bs) k) σ H Q) :
    ∃ ds F1, datsL ρ bs = some ds ∧ bs.all noPl = true ∧ Stt C F1 H σ ρ ∧ Reps C F1 vs ds ∧ Sub F F1 ∧ tR C R W A0 F1 ρ (k ds) σ H Q := by
  unfold kept at h
  split at h
  · rename_i n
    obtain ⟨ds, e, h⟩ := tR_step h fun _ _ => dats_pure
    have e : datsL ρ bs = some ds := by
      unfold dats at e
      split at e
      · cases e
      · cases e; assumption
    obtain ⟨S1, T1⟩ := share S f
    refine ⟨ds, addF F H A, e, n, S1, r.in_ (sub_addF f) (fun a m o q => by rw [addF_in m]; exact q) n e, sub_addF f, ?_⟩
    exact tR_from (T1.hand fun a m => List.mem_append_right _ m) (fun a m => .inr (.inl (List.mem_append_left _ m))) h
  · obtain ⟨r', ρ', e', h⟩ := h
    cases e'
end

/-! ### judgements -/
section
variable (cl : Nat → Addr) (X : Cx)
/-- the expression e does what m does -/
def SimE (e : Expr) (m : M B) : Prop := ∀ W, Takes X W → PE X e (tM (cs cl X) RlB W m)
/-- as a test -/
def SimT (e : Expr) (m : M Bool) : Prop := ∀ W, Takes X W → PT X e (tM (cs cl X) RlT W m)
/-- arguments, items -/
def SimA (es : List Expr) (m : M (List B)) : Prop := ∀ W, Takes X W → PA X es (tM (cs cl X) RlL W m)
end
theorem PE.imp {X : Cx} {e : Expr} {t t' : TE} (h : PE X e t) (i : ∀ σ H Q, t' σ H Q → t σ H Q) : PE X e t' := ⟨fun pins s σ H Q I q => h.run pins s σ H Q I (i σ H Q q)⟩
theorem PT.imp {X : Cx} {e : Expr} {t t' : TT} (h : PT X e t) (i : ∀ σ H Q, t' σ H Q → t σ H Q) : PT X e t' := ⟨fun pins s σ H Q I q => h.run pins s σ H Q I (i σ H Q q)⟩
theorem PA.imp {X : Cx} {e : List Expr} {t t' : TA} (h : PA X e t) (i : ∀ σ H Q, t' σ H Q → t σ H Q) : PA X e t' := ⟨fun pos pins s σ H Q I q => h.run pos pins s σ H Q I (i σ H Q q)⟩

section
variable {cl : Nat → Addr} {X : Cx} {C : Cs} {σ : St} {F H : Hp} {ρ : Env} {A A0 : List Addr} {W : WX} {α β : Type} {R : Rl β α} {Q : β → Hp → Prop}
/-- through the first part of a bind -/
theorem tM_bind {α1 β1 : Type} {R1 : Rl β1 α1} {m : M α1} {k : α1 → M α} {Q1 : β1 → Hp → Prop} (S : Stt C F H σ ρ) (h : tR C R W A0 F ρ (bind m k) σ H Q)
    (i : ∀ v a A F1 H1 ρ1, Tr [] σ F H ρ σ F1 H1 ρ1 → Stt C F1 H1 σ ρ1 → R1.rel C σ F1 H1 v a A → Fp σ F1 H1 ρ1 A → New [] σ H ρ A → tR C R W (A0 ++ A) F1 ρ1 (k a) σ H1 Q → Q1 v H1) : tM C R1 W m σ H Q1 :=
  ⟨F, ρ, S, tR_mono (tR_bind h) fun v H1 ⟨a, A, F1, ρ1, T, S1, rl, fp, nw, q⟩ => i v a A F1 H1 ρ1 T S1 rl fp nw q⟩
/-- data that stays as it is -/
theorem Fin.data {Q : VK} {v : V} {d : D} (q : Fin C RlB A0 F ρ σ H Q (.sh d)) (S : Stt C F H σ ρ) (r : Rep C F v d) : Q v H := q v [] F H Tr.refl S (.sh r) Fp.nil New.nil
theorem Fin.bool {Q : Bool → Hp → Prop} {b : Bool} (q : Fin C RlT A0 F ρ σ H Q b) (S : Stt C F H σ ρ) : Q b H := q b [] F H Tr.refl S ⟨rfl, rfl⟩ Fp.nil New.nil
/-- a new tuple of kept items -/
theorem Fin.tup {Q : VK} {p : Addr} {xs : List V} {ds : List D} (q : Fin C RlB A0 F ρ σ H Q (.sh (.tup ds))) (S : Stt C F H σ ρ) (r : Reps C F xs ds) (h : H p = none) : Q (.ref p) (upd H p (.tup xs)) := by
  obtain ⟨S1, T1⟩ := new_sh (o := .tup xs) S h
  exact q _ [] _ _ (T1.hand fun _ z => nomatch z) S1 (.sh (.tup (.inl (.inl upd_same)) (r.mono T1.sub))) Fp.nil New.nil
/-- a new list of kept items -/
theorem Fin.lst {Q : VK} {p : Addr} {xs : List V} {ds : List D} (q : Fin C RlB A0 F ρ σ H Q (.ow (.lst ds))) (S : Stt C F H σ ρ) (r : Reps C F xs ds) (h : H p = none) : Q (.ref p) (upd H p (.lst xs)) := by
  obtain ⟨S1, T1, f, n⟩ := new_own (o := .lst xs) S h
  exact q _ [p] _ _ (T1.hand fun _ z => nomatch z) S1 (.ow (.lst upd_same r)) f fun a m => (n a m).imp id fun z => .inr (z.elim (fun z => nomatch z) id)

/-! ### constants, names -/
theorem sim_int {i j pos} : SimE cl X (.Constant (.int i) j pos) (mK (.int i)) := fun W _ => PE.imp pe_int fun σ H Q ⟨F, ρ, S, h⟩ => (tR_ret h).data S (.int i)
theorem sim_bl {b j pos} : SimE cl X (.Constant (.bool b) j pos) (mK (.bl b)) := fun W _ => PE.imp pe_bl fun σ H Q ⟨F, ρ, S, h⟩ => (tR_ret h).data S (.bl b)
theorem sim_non {j pos} : SimE cl X (.Constant .none j pos) (mK .non) := fun W _ => PE.imp pe_non fun σ H Q ⟨F, ρ, S, h⟩ => (tR_ret h).data S .non
def okTb (t : Txt) : Bool := t.all (fun c => decide (c < 0x110000)) && decide (t.length ≤ LIM)
theorem okT_of {t : Txt} (h : okTb t = true) : okT t := by
  unfold okTb at h
  rw [Bool.and_eq_true, List.all_eq_true] at h
  exact ⟨fun c m => of_decide_eq_true (h.1 c m), of_decide_eq_true h.2⟩
theorem sim_str {x : Str} {t : Txt} {j pos} (e : x.cps.toList = t) (o : okTb t = true) : SimE cl X (.Constant (.str x) j pos) (mK (.str t)) := fun W _ => PE.imp pe_str fun σ H Q ⟨F, ρ, S, h⟩ => by
  have e' : x = mkS t := by subst e; simp [mkS]
  rw [e']
  exact (tR_ret h).data S (.str t (okT_of o))
theorem sim_P {i : Nat} {x : Str} {pos : Pos} (hN : X.N[i]? = some x) (hv : Vis X.env.scope x) (hd : (x == ("__debug__" : Str)) = false) (hcd : (x == ("__classdict__" : Str)) = false) : SimE cl X (.Name x pos) (mP i) :=
  fun W _ => PE.imp (pe_var hN hv hd hcd) fun σ H Q ⟨F, ρ, S, r, ρ', e, h⟩ => by
    unfold mP at e
    split at e
    · rename_i d hd
      cases e
      obtain ⟨v, e1, r1⟩ := S.sl i _ hd
      cases r1 with
      | sh r1 => exact ⟨v, e1, h v [] F H Tr.refl S (.sh r1) Fp.nil New.nil⟩
    · rename_i d hd
      cases e
      obtain ⟨v, e1, r1⟩ := S.sl i _ hd
      exact ⟨v, e1, h v [] F H Tr.refl S (.pl e1) Fp.nil New.nil⟩
    · rename_i d hd
      cases e
      obtain ⟨v, e1, r1⟩ := S.sl i _ hd
      exact ⟨v, e1, h v [] F H Tr.refl S (.pl e1) Fp.nil New.nil⟩
    · cases e
end
section
variable {C : Cs} {σ : St} {F H : Hp} {ρ : Env} {i j : Nat} {b c : SB} {o : Option SB}
theorem at_of_get {ρ : Env} {i : Nat} {o : Option SB} (h : ρ[i]? = some o) : ρ.at i = o := by
  show ρ.getD i none = o
  rw [List.getD_eq_getElem?_getD, h]; rfl
theorem get_of_at {ρ : Env} {i : Nat} {b : SB} (h : ρ.at i = some b) : i < ρ.length ∧ ρ[i]? = some (some b) := by
  have h : ρ.getD i none = some b := h
  rw [List.getD_eq_getElem?_getD] at h
  cases e : ρ[i]? with
  | none => rw [e] at h; cases h
  | some u =>
    rw [e] at h
    have h : u = some b := h
    subst h
    exact ⟨(List.getElem?_eq_some_iff.mp e).1, rfl⟩
theorem at_set_same {ρ : Env} {i : Nat} {o : Option SB} (h : i < ρ.length) : Env.at (ρ.set i o) i = o := at_of_get (by rw [List.getElem?_set_self h])
theorem at_set_ne {ρ : Env} {i j : Nat} {o : Option SB} (h : i ≠ j) : Env.at (ρ.set i o) j = ρ.at j := by
  show (ρ.set i o).getD j none = ρ.getD j none
  rw [List.getD_eq_getElem?_getD, List.getD_eq_getElem?_getD, List.getElem?_set_ne h]
theorem at_set {ρ : Env} {i j : Nat} {o : Option SB} {b : SB} (h : Env.at (ρ.set i o) j = some b) : (j = i ∧ o = some b ∧ i < ρ.length) ∨ (j ≠ i ∧ ρ.at j = some b) := by
  by_cases e : i = j
  · subst e
    obtain ⟨l, g⟩ := get_of_at h
    rw [List.length_set] at l
    rw [at_set_same l] at h
    exact .inl ⟨rfl, h, l⟩
  · rw [at_set_ne e] at h
    exact .inr ⟨fun z => e z.symm, h⟩
/-- a name's own object is shared, or its binding forgotten -/
theorem owns_unset {a : Addr} (n : ∀ b, o = some b → b.obj = none) (h : Owns σ (ρ.set i o) a) : Owns σ ρ a := by
  obtain ⟨j, b, h1, h2, h3⟩ := h
  rcases at_set h1 with ⟨rfl, e, _⟩ | ⟨_, e⟩
  · rw [n b e] at h2; cases h2
  · exact ⟨j, b, e, h2, h3⟩
end
theorem share_slot {C : Cs} {σ : St} {F H : Hp} {ρ : Env} {i : Nat} {a : Addr} {ob : O} {d : D} (S : Stt C F H σ ρ) (h : ρ.at i = some (.ow ob)) (hs : σ[i]? = some (some (.ref a))) (r : ROb C F H a ob) (f : F a = none) (e : ob.toD = some d) :
    Stt C (addF F H [a]) H σ (ρ.set i (some (.sh d))) ∧ Tr [] σ F H ρ σ (addF F H [a]) H (ρ.set i (some (.sh d))) ∧ Rep C (addF F H [a]) (.ref a) d := by
  have ow : Owns σ ρ a := ⟨i, _, h, rfl, hs⟩
  have kf : Sub F (addF F H [a]) := fun x u q => by
    by_cases z : x ∈ [a]
    · rw [List.mem_singleton.mp z, f] at q; cases q
    · rw [addF_out z]; exact q
  have rp : Rep C (addF F H [a]) (.ref a) d := r.toD e kf fun o q => by rw [addF_in List.mem_cons_self]; exact q
  have il := (get_of_at h).1
  have unset : ∀ {x : Addr}, Owns σ (ρ.set i (some (.sh d))) x → Owns σ ρ x := fun q => owns_unset (fun b z => by cases z; rfl) q
  refine ⟨⟨fun x u q => ?_, by rw [List.length_set]; exact S.len, fun j b q => ?_, fun j k b c x h1 h2 h3 h4 h5 h6 => ?_⟩, ⟨kf, fun x u q _ _ => q, fun x q n _ z => ?_, fun x q => q, fun x q => .inl (unset q), fun j o q => ⟨⟨o, ?_⟩, rfl⟩, fun j o q => ?_⟩, rp⟩
  · by_cases z : x ∈ [a]
    · rw [addF_in z] at q; exact q
    · rw [addF_out z] at q; exact S.sub _ _ q
  · rcases at_set q with ⟨rfl, e1, _⟩ | ⟨nj, e1⟩
    · cases e1
      exact ⟨_, hs, .sh rp⟩
    · obtain ⟨v, e2, r2⟩ := S.sl j b e1
      refine ⟨v, e2, ?_⟩
      have na : ∀ {x : Addr}, v = .ref x → b.obj.isSome = true → x ∉ [a] := fun {x} ev ho z => by
        rw [List.mem_singleton.mp z] at ev
        subst ev
        exact nj (S.dis j i b _ a e1 ho h rfl e2 hs)
      cases r2 with
      | sh r2 => exact .sh (r2.mono kf)
      | ow r2 g => exact .ow (r2.mono kf fun _ z => z) (by rw [addF_out (na rfl rfl)]; exact g)
      | io r2 g => exact .io (r2.mono kf fun _ z => z) (by rw [addF_out (na rfl rfl)]; exact g)
  · rcases at_set h1 with ⟨rfl, e1, _⟩ | ⟨_, e1⟩
    · cases e1; cases h2
    · rcases at_set h3 with ⟨rfl, e2, _⟩ | ⟨_, e2⟩
      · cases e2; cases h4
      · exact S.dis j k b c x e1 h2 e2 h4 h5 h6
  · refine (addF_out fun m => ?_).trans z
    rw [List.mem_singleton.mp m] at n
    exact n ow
  · by_cases z : i = j
    · subst z; rw [h] at q; cases q
    · rw [at_set_ne z]; exact q
  · rcases at_set q with ⟨_, e1, _⟩ | ⟨_, e1⟩
    · cases e1
    · exact ⟨o, e1⟩
theorem sim_V {cl : Nat → Addr} {X : Cx} {i : Nat} {x : Str} {pos : Pos} (hN : X.N[i]? = some x) (hv : Vis X.env.scope x) (hd : (x == ("__debug__" : Str)) = false) (hcd : (x == ("__classdict__" : Str)) = false) : SimE cl X (.Name x pos) (mV i) :=
  fun W _ => PE.imp (pe_var hN hv hd hcd) fun σ H Q ⟨F, ρ, S, r, ρ', e, h⟩ => by
    unfold mV at e
    split at e
    · rename_i d hd
      cases e
      obtain ⟨v, e1, r1⟩ := S.sl i _ hd
      cases r1 with
      | sh r1 => exact ⟨v, e1, h v [] F H Tr.refl S (.sh r1) Fp.nil New.nil⟩
    · rename_i o hd
      split at e
      · rename_i d ed
        cases e
        obtain ⟨v, e1, r1⟩ := S.sl i _ hd
        cases r1 with
        | ow r1 f =>
          obtain ⟨S1, T1, rp⟩ := share_slot S hd e1 r1 f ed
          exact ⟨_, e1, h _ [] _ H T1 S1 (.sh rp) Fp.nil New.nil⟩
      · cases e
    · cases e
/-- a constant of the text's top -/
theorem sim_G {cl : Nat → Addr} {X : Cx} {x : Str} {v : V} {u : Value} {d : D} {pos : Pos} (hg : Gl X x) (hm : X.mg x = some u) (r : RelV v u) (rp : Rep (cs cl X) (fun _ => none) v d) (hd : (x == ("__debug__" : Str)) = false) : SimE cl X (.Name x pos) (mK d) :=
  fun W _ => PE.imp (pe_glob hg hm r hd) fun σ H Q ⟨F, ρ, S, h⟩ => (tR_ret h).data S (rp.mono (fun _ _ z => by cases z))
end WF

set_option Elab.async false
set_option linter.all false
set_option maxRecDepth 100000
set_option maxHeartbeats 4000000
/-! WFD: operators, comparisons, tests. -/
namespace WF
open PySem PySem.Spec PyProof.Rows L2

/-- a value looked at: frozen, or a name's own object -/
inductive Vw (C : Cs) (F H : Hp) : V → D → Prop
  | sc {v : V} {d : D} : Rep C F v d → Vw C F H v d
  | ob {a : Addr} {o : O} {d : D} : ROb C F H a o → o.toD = some d → Vw C F H (.ref a) d
section
variable {C : Cs} {σ : St} {F H G : Hp} {ρ : Env} {A A0 : List Addr} {v : V} {b : B} {d : D} {ds : List D}
theorem Vw.rep (h : Vw C F H v d) (s : Sub F H) : Rep C H v d := by
  cases h with
  | sc r => exact r.mono s
  | ob r e => exact r.toD e s fun _ z => z
theorem Vw.lst (h : Vw C F H v (.lst ds)) (s : Sub F H) : ∃ a xs, v = .ref a ∧ SqL C.K H a xs ∧ Reps C F xs ds := by
  cases h with
  | sc r => cases r with | lst h r => exact ⟨_, _, rfl, s.sqL h, r⟩
  | ob r e =>
    cases r with
    | lst h r => cases e; exact ⟨_, _, rfl, .inl (.inl h), r⟩
    | dicS h r => cases e
    | dicT h r => cases e
    | ins h r => cases e
theorem Vw.tup (h : Vw C F H v (.tup ds)) : ∃ a xs, v = .ref a ∧ SqT C.K F a xs ∧ Reps C F xs ds := by
  cases h with
  | sc r => cases r with | tup h r => exact ⟨_, _, rfl, h, r⟩
  | ob r e => cases r <;> cases e
theorem Vw.int {i : Int} (h : Vw C F H v (.int i)) : v = .int i := by
  cases h with
  | sc r => cases r; rfl
  | ob r e => cases r <;> cases e
theorem Vw.bl {i : Bool} (h : Vw C F H v (.bl i)) : v = .bl i := by
  cases h with
  | sc r => cases r; rfl
  | ob r e => cases r <;> cases e
theorem Vw.str {i : Txt} (h : Vw C F H v (.str i)) : v = .str (mkS i) ∧ okT i := by
  cases h with
  | sc r => cases r; exact ⟨rfl, by assumption⟩
  | ob r e => cases r <;> cases e
theorem Vw.non (h : Vw C F H v .non) : v = .non := by
  cases h with
  | sc r => cases r; rfl
  | ob r e => cases r <;> cases e
theorem Vw.isNon (h : Vw C F H v d) : decide (v = V.non) = d.isNon := by
  cases h with
  | sc r => cases r <;> simp [D.isNon]
  | ob r e => cases r <;> cases e <;> simp [D.isNon]
theorem RB.view (h : RB C σ F H v b A) (S : Stt C F H σ ρ) (s : Sub F G) (k : ∀ a ∈ A, ∀ o, H a = some o → G a = some o) (e : b.dat ρ = some d) : Vw C G H v d := by
  cases h with
  | sh r => cases e; exact .sc (r.mono s)
  | ow r => exact .sc (r.toD e s (k _ (by simp)))
  | pl q =>
    rename_i i
    have e : (match ρ.at i with | some b => b.toD | none => none) = some d := e
    split at e
    · rename_i c hc
      obtain ⟨w, e1, r⟩ := S.sl i c hc
      rw [q] at e1
      cases e1
      cases r with
      | sh r => cases e; exact .sc (r.mono s)
      | ow r f => exact .ob (r.mono s fun _ z => z) e
      | io r f => exact .ob (r.mono s fun _ z => z) e
    · cases e
  | tp q r =>
    rename_i a xs bs
    have e : (match sbsD bs with | some ds => some (D.tup ds) | none => none) = some d := e
    split at e
    · rename_i ds hd
      cases e
      exact .sc (.tup (s.sqT q) (rtp_in r s k hd))
    · cases e
end

section
variable {cl : Nat → Addr} {X : Cx} {C : Cs} {σ : St} {F H : Hp} {ρ : Env} {A A0 : List Addr} {α β : Type} {R : Rl β α} {W : WX} {Q : β → Hp → Prop}
/-- a value at the end of its expression; what was new in it is shared -/
theorem one_bind {ma : M B} {k : D → M α} {P : V → Hp → Prop} (S : Stt C F H σ ρ) (h : tR C R W A0 F ρ (bind ma fun x => bind (dat x) fun d => k d) σ H Q)
    (i : ∀ x d F2 H2 ρ2, Stt C F2 H2 σ ρ2 → Vw C F2 H2 x d → tR C R W A0 F2 ρ2 (k d) σ H2 Q → P x H2) : tM C RlB W ma σ H P := by
  refine tM_bind (R1 := RlB) S h fun x a A F1 H1 ρ1 T1 S1 r1 f1 n1 h1 => ?_
  obtain ⟨d, ed, h3⟩ := tR_dat h1
  obtain ⟨S2, T2⟩ := share S1 f1
  exact i x d _ _ _ S2 (r1.view S1 (sub_addF f1) (fun z m o q => by rw [addF_in m]; exact q) ed) (tR_from (T2.hand fun a m => List.mem_append_right _ m) (fun a m => .inr (.inl (List.mem_append_left _ m))) h3)
/-- two of them -/
theorem two_bind {ma mb : M B} {k : D → D → M α} {P : V → V → Hp → Prop} (S : Stt C F H σ ρ)
    (h : tR C R W A0 F ρ (bind ma fun x => bind mb fun y => bind (dat x) fun d => bind (dat y) fun e => k d e) σ H Q)
    (i : ∀ x y d e F2 H2 ρ2, Stt C F2 H2 σ ρ2 → Vw C F2 H2 x d → Vw C F2 H2 y e → tR C R W A0 F2 ρ2 (k d e) σ H2 Q → P x y H2) :
    tM C RlB W ma σ H fun x H1 => tM C RlB W mb σ H1 fun y H2 => P x y H2 := by
  refine tM_bind (R1 := RlB) S h fun x a A F1 H1 ρ1 T1 S1 r1 f1 n1 h1 => ?_
  refine tM_bind (R1 := RlB) S1 h1 fun y b A' F2 H2 ρ2 T2 S2 r2 f2 n2 h2 => ?_
  obtain ⟨d, ed, h3⟩ := tR_dat h2
  obtain ⟨e, ee, h4⟩ := tR_dat h3
  rw [List.append_assoc] at h4
  have r1' := r1.mono (F' := F2) (H' := H2) T2.sub fun z m => f1.keep T2 m
  have f := f1.append T2 f2 n2
  obtain ⟨S3, T3⟩ := share S2 f
  exact i x y d e _ _ _ S3 (r1'.view S2 (sub_addF f) (fun z m o q => by rw [addF_in (List.mem_append_left _ m)]; exact q) ed) (r2.view S2 (sub_addF f) (fun z m o q => by rw [addF_in (List.mem_append_right _ m)]; exact q) ee)
    (tR_from (T3.hand fun a m => List.mem_append_right _ m) (fun a m => .inr (.inl (List.mem_append_left _ m))) h4)
theorem three_bind {ma mb mc : M B} {k : D → D → D → M α} {P : V → V → V → Hp → Prop} (S : Stt C F H σ ρ)
    (h : tR C R W A0 F ρ (bind ma fun x => bind mb fun y => bind mc fun z => bind (dat x) fun d => bind (dat y) fun e => bind (dat z) fun g => k d e g) σ H Q)
    (i : ∀ x y z d e g F2 H2 ρ2, Stt C F2 H2 σ ρ2 → Vw C F2 H2 x d → Vw C F2 H2 y e → Vw C F2 H2 z g → tR C R W A0 F2 ρ2 (k d e g) σ H2 Q → P x y z H2) :
    tM C RlB W ma σ H fun x H1 => tM C RlB W mb σ H1 fun y H2 => tM C RlB W mc σ H2 fun z H3 => P x y z H3 := by
  refine tM_bind (R1 := RlB) S h fun x a A F1 H1 ρ1 T1 S1 r1 f1 n1 h1 => ?_
  refine tM_bind (R1 := RlB) S1 h1 fun y b A' F2 H2 ρ2 T2 S2 r2 f2 n2 h2 => ?_
  refine tM_bind (R1 := RlB) S2 h2 fun z c A'' F3 H3 ρ3 T3 S3 r3 f3 n3 h3 => ?_
  obtain ⟨d, ed, h3⟩ := tR_dat h3
  obtain ⟨e, ee, h4⟩ := tR_dat h3
  obtain ⟨g, eg, h5⟩ := tR_dat h4
  rw [List.append_assoc, List.append_assoc] at h5
  have r1' := (r1.mono (F' := F2) (H' := H2) T2.sub fun z m => f1.keep T2 m)
  have f12 := f1.append T2 f2 n2
  have r1'' := r1'.mono (F' := F3) (H' := H3) T3.sub fun z m => f12.keep T3 (List.mem_append_left _ m)
  have r2' := r2.mono (F' := F3) (H' := H3) T3.sub fun z m => f2.keep T3 m
  have f := f12.append T3 f3 n3
  rw [List.append_assoc] at f
  obtain ⟨S4, T4⟩ := share S3 f
  exact i x y z d e g _ _ _ S4 (r1''.view S3 (sub_addF f) (fun z m o q => by rw [addF_in (List.mem_append_left _ m)]; exact q) ed)
    (r2'.view S3 (sub_addF f) (fun z m o q => by rw [addF_in (List.mem_append_right _ (List.mem_append_left _ m))]; exact q) ee)
    (r3.view S3 (sub_addF f) (fun z m o q => by rw [addF_in (List.mem_append_right _ (List.mem_append_right _ m))]; exact q) eg)
    (tR_from (T4.hand fun a m => List.mem_append_right _ m) (fun a m => .inr (.inl (List.mem_append_left _ m))) h5)

/-- the layer's rule r for two values serves the mirror's f -/
def OpD (C : Cs) (r : R2) (f : D → D → Option B) : Prop := ∀ {σ : St} {F H : Hp} {ρ : Env} {A0 : List Addr} {x y : V} {d e : D} {b : B} {Q : VK}, Stt C F H σ ρ → Vw C F H x d → Vw C F H y e → f d e = some b →
  Fin C RlB A0 F ρ σ H Q b → r x y H Q
theorem tM_op {r : R2} {f : D → D → Option B} {ma mb : M B} {W : WX} {Q : VK} (o : OpD C r f) (h : tM C RlB W (mOp f ma mb) σ H Q) : tOp r (tM C RlB W ma) (tM C RlB W mb) σ H Q := by
  obtain ⟨F, ρ, S, h⟩ := h
  exact two_bind S h fun x y d e F2 H2 ρ2 S2 v w q => let ⟨b, eb, q⟩ := tR_end q; o S2 v w eb q
theorem sim_op {op : Operator} {r : R2} {f : D → D → Option B} {a b : Expr} {ma mb : M B} {pos : Pos} (ho : OpR X (binaryOp op) r) (o : OpD (cs cl X) r f) (ha : SimE cl X a ma) (hb : SimE cl X b mb) : SimE cl X (.BinOp a op b pos) (mOp f ma mb) :=
  fun W tk => PE.imp (pe_op ho (ha W tk) (hb W tk)) fun σ H Q h => tM_op o h
/-- what m gives is a truth value -/
def OnlyB (m : M B) : Prop := ∀ ρ b ρ', m ρ = some (.ok b, ρ') → ∃ c, b = boo c
/-- a comparison -/
structure SimC (cl : Nat → Addr) (X : Cx) (op : CmpOp) (a b : Expr) (m : M B) : Prop where
  pc : ∀ W, Takes X W → PC X op a b (tM (cs cl X) RlB W m)
  hm : behindInMarks op b = false
  ob : OnlyB m
theorem bind_ok {α β : Type} {m : M α} {k : α → M β} {ρ ρ' : Env} {b : β} (h : bind m k ρ = some (.ok b, ρ')) : ∃ a ρ1, m ρ = some (.ok a, ρ1) ∧ k a ρ1 = some (.ok b, ρ') := by
  unfold bind at h
  split at h
  · cases h
  · cases h
  · exact ⟨_, _, by assumption, h⟩
theorem lift_ok {α : Type} {o : Option α} {ρ ρ' : Env} {b : α} (h : lift o ρ = some (.ok b, ρ')) : o = some b := by
  unfold lift at h
  split at h
  · cases h
  · cases h; rfl
theorem onlyB_op {f : D → D → Option B} {a b : M B} (hf : ∀ d e b, f d e = some b → ∃ c, b = boo c) : OnlyB (mOp f a b) := fun ρ c ρ' h => by
  obtain ⟨_, _, _, h⟩ := bind_ok h
  obtain ⟨_, _, _, h⟩ := bind_ok h
  obtain ⟨_, _, _, h⟩ := bind_ok h
  obtain ⟨_, _, _, h⟩ := bind_ok h
  exact hf _ _ _ (lift_ok h)
theorem SimC.e {op : CmpOp} {a b : Expr} {m : M B} {pos : Pos} (h : SimC cl X op a b m) : SimE cl X (.Compare a [op] [b] pos) m := fun W tk => pe_cmp (h.pc W tk) h.hm
theorem sim_cmp {op : CmpOp} {r : R2} {f : D → D → Option B} {a b : Expr} {ma mb : M B} (ho : OpR X (compareOp op) r) (o : OpD (cs cl X) r f) (hf : ∀ d e b, f d e = some b → ∃ c, b = boo c) (hm : behindInMarks op b = false) (ha : SimE cl X a ma) (hb : SimE cl X b mb) : SimC cl X op a b (mOp f ma mb) :=
  ⟨fun W tk => ⟨fun pins s σ H Q I h => binT (ha W tk) (hb W tk) I (tM_op o h) fun v u s2 x y H2 I2 rx ry q => ho pins s2 σ H2 x y v u Q I2 rx ry q⟩, hm, onlyB_op hf⟩
end

/-! ### arithmetic -/
section
variable {X : Cx}
theorem list_at {h : Heap} {l : Addr} {its : Array Value} (p : h.IsList l its) : ∃ (n : Nat) (dd : Option Addr) (sl : Array (Option Value)), h.get? l = some { cls := .type "list", dict := dd, data := .seq its n, slots := sl } := by
  obtain ⟨⟨c, dd, da, sl⟩, ho, hc, n, hd⟩ := id p
  simp only at hc hd
  subst hc hd
  exact ⟨n, dd, sl, ho⟩
def rCatR (K : PySem.W.Frag) : R2 := fun x y H Q => ∃ l b xs zs, x = .ref l ∧ y = .ref b ∧ SqL K H l xs ∧ SqL K H b zs ∧ xs.length + zs.length ≤ sizeLine ∧ ∀ p, H p = none → Q (.ref p) (upd H p (.lst (xs ++ zs)))
theorem op_catR : OpR X (binaryOp .Add) (rCatR X.K) := by
  intro pins s σ H x y v u Q I rx ry h
  obtain ⟨l, b, xs, zs, rfl, rfl, hH, hB, hz, q⟩ := h
  cases rx
  cases ry
  obtain ⟨its, r, e, hl⟩ := I.list hH
  obtain ⟨its2, r2, e2, hl2⟩ := I.list hB
  obtain ⟨n, dd, sl, e⟩ := list_at e.isList
  obtain ⟨n2, dd2, sl2, e2⟩ := list_at e2.isList
  have l1 := r.length
  have l2 := r2.length
  have hs2 : its.toArray.size + its2.toArray.size ≤ sizeLine := by rw [List.size_toArray, List.size_toArray]; omega
  refine PySem.concat_meets ⟨_, e, rfl⟩ ⟨_, e2, rfl⟩ PySem.noFill_list_add PySem.seq_list_add PySem.F.slot_list_add PySem.F.entry_list_add (PySem.F.args_list_add_2 _ _) (PyProof.Rows.list_addW l b its.toArray its2.toArray n n2 dd dd2 sl sl2 hs2) ⟨e, e2, ?_⟩
  have ea : its.toArray ++ its2.toArray = (its ++ its2).toArray := by simp
  rw [ea]
  exact ⟨.ref _, _, I.lnew (t' := s.toks) (r.append r2) (by rw [List.length_append]; omega), rfl, q _ I.fresh⟩
def rRepR (K : PySem.W.Frag) : R2 := fun x y H Q => ∃ l k xs, x = .ref l ∧ y = .int k ∧ SqL K H l xs ∧ -(2 ^ 63) ≤ k ∧ k < 2 ^ 63 ∧ xs.length * k.toNat ≤ sizeLine ∧
  ∀ p, H p = none → Q (.ref p) (upd H p (.lst (List.replicate k.toNat xs).flatten))
/-- list * int, whatever else the list's object holds -/
theorem list_mulW (l : Addr) (items : Array Value) (n : Nat) (dd : Option Addr) (sl : Array (Option Value)) (x : Int) (u : Tok) (c0 : ¬(!Builtin.List.listFitsIndex x) = true) (c1 : ¬items.size * x.toNat > (2 ^ 63 - 1) / 8) (c2 : ¬Builtin.List.listTooLong (items.size * x.toNat) = true) :
    Meets (Builtin.«list.__mul__» ⟨[.ref l, .int x u], []⟩) (fun _ R s => s.heap.get? l = some { cls := .type "list", dict := dd, data := .seq items n, slots := sl } ∧
      R (.ok (.ret (Value.ref s.heap.objs.size))) { s with heap := s.heap.push { cls := Value.type "list", data := Data.seq (List.foldl (fun x1 x2 => x1 ++ x2) #[] (List.replicate (if items.isEmpty = true then 0 else x.toNat) items)) }, toks := s.toks }) :=
  .of_wp fun prog w A R s h => by
    obtain ⟨hp, g, d, tk, os⟩ := s
    obtain ⟨hl, h⟩ := h
    have hsz := PySem.AutoListH.joined_fits c2
    wp_walk using wpAny_loadPart' hl
    refine wpAny_ite_false (decide_eq_false (Nat.not_lt.mpr hsz)) ?_
    wp_walk using wpAny_loadPart' hl
    exact ⟨_, rfl, h⟩
theorem int_rmulW (k : Int) (t : Tok) (l : Addr) (items : Array Value) (n : Nat) (dd : Option Addr) (sl : Array (Option Value)) :
    Meets (Builtin.«int.__rmul__» ⟨[.int k t, .ref l], []⟩) (fun _ R s => s.heap.get? l = some { cls := .type "list", dict := dd, data := .seq items n, slots := sl } ∧ R (.ok (.ret .notImplemented)) s) :=
  .of_wp fun prog w A R s h => by
    obtain ⟨hp, g, d, tk, os⟩ := s
    obtain ⟨hl, h⟩ := h
    wp_walk using wpAny_loadPart' hl
    exact ⟨_, rfl, h⟩
theorem op_repR : OpR X (binaryOp .Mult) (rRepR X.K) := by
  intro pins s σ H x y v u Q I rx ry h
  obtain ⟨l, k, xs, rfl, rfl, hH, h1, h2, hz, q⟩ := h
  cases rx
  obtain ⟨t, rfl⟩ := ry
  obtain ⟨its, r, e, hl0⟩ := I.list hH
  obtain ⟨n, dd, sl, e⟩ := list_at e.isList
  have hl := r.length
  have hlen : its.toArray.size * k.toNat ≤ sizeLine := by rw [List.size_toArray, ← hl]; exact hz
  have hcap : ¬ its.toArray.size * k.toNat > (2 ^ 63 - 1) / 8 := by
    have : (sizeLine : Nat) ≤ (2 ^ 63 - 1) / 8 := by decide
    omega
  have hfit : ¬ (!Builtin.List.listFitsIndex k) = true := by
    rw [fitsIndex_both h1 h2]; decide
  have hlong : ¬ Builtin.List.listTooLong (its.toArray.size * k.toNat) = true := by
    rw [notLongL hlen]; decide
  have f0 : ∀ m : Nat, List.foldl (fun x1 x2 => x1 ++ x2) #[] (List.replicate m its.toArray) = (List.replicate m its).flatten.toArray := fun m => by
    have q := foldl_rep its m []
    rw [List.nil_append] at q
    exact q
  have hnew : List.foldl (fun x1 x2 => x1 ++ x2) #[] (List.replicate (if its.toArray.isEmpty = true then 0 else k.toNat) its.toArray) = (List.replicate k.toNat its).flatten.toArray := by
    rw [f0]
    cases its with
    | nil => simp
    | cons a r' => rw [if_neg (by simp)]
  refine wpAny_binaryOp_repeat_ref (T := "list") (U := "int") (by decide) ⟨_, e, rfl⟩ (fun s' => typeIs_int s' k t) noFill_list_mul F.fills_int_mul F.slot_int_rmul repeat_list F.slot_int_index.lookup
    (call_meets F.slot_int_rmul (typeIs_int s k t) F.entry_int_rmul (F.args_int_rmul_2 _ _) (int_rmulW k t l its.toArray n dd sl)
      ⟨e, rfl, ⟨_, e, rfl⟩, call_meets F.slot_list_mul ⟨_, e, rfl⟩ F.entry_list_mul (F.args_list_mul_2 _ _) (list_mulW l its.toArray n dd sl k t hfit hcap hlong) ⟨e, ?_⟩⟩)
  rw [hnew]
  exact ⟨.ref _, _, I.lnew (t' := s.toks) (r.rep k.toNat) (by rw [PyProof.Rows.lm_len_rep_flat, Nat.mul_comm]; exact hz), rfl, q _ I.fresh⟩
end
end WF
namespace WF
open PySem PySem.Spec PyProof.Rows L2
section
variable {cl : Nat → Addr} {X : Cx} {C : Cs} {σ : St} {F H : Hp} {ρ : Env} {A A0 : List Addr}
theorem Reps.append {F : Hp} : ∀ {xs ys : List V} {ds es : List D}, Reps C F xs ds → Reps C F ys es → Reps C F (xs ++ ys) (ds ++ es)
  | _, _, _, _, .nil, s => s
  | _, _, _, _, .cons r t, s => .cons r (Reps.append t s)
theorem Reps.rep {F : Hp} {xs : List V} {ds : List D} (r : Reps C F xs ds) : ∀ n : Nat, Reps C F (List.replicate n xs).flatten (repL ds n)
  | 0 => .nil
  | n + 1 => by
    unfold repL
    rw [List.replicate_succ, List.replicate_succ, List.flatten_cons, List.flatten_cons]
    exact r.append (Reps.rep r n)
theorem Reps.nil_iff {F : Hp} {xs : List V} {ds : List D} (r : Reps C F xs ds) : xs = [] ↔ ds = [] := by
  cases r <;> simp
theorem okT_append {a b : Txt} (x : okT a) (y : okT b) (h : a.length + b.length ≤ LIM) : okT (a ++ b) := ⟨fun c m => (List.mem_append.mp m).elim (x.1 c) (y.1 c), by rw [List.length_append]; exact h⟩
theorem mkS_append (a b : Txt) : mkS a ++ mkS b = mkS (a ++ b) := by
  show Str.append (mkS a) (mkS b) = _
  simp [Str.append, mkS]
/-- + -/
def rAddA (K : PySem.W.Frag) : R2 := fun x y H Q => rI0 (fun i j => .int (i + j)) x y H Q ∨ (∃ i j, x = .str i ∧ y = .str j ∧ i.length + j.length ≤ sizeLine ∧ Q (.str (i ++ j)) H) ∨ rCatA K x y H Q ∨ rCatR K x y H Q
theorem op_addA : OpR X (binaryOp .Add) (rAddA X.K) := op_add.or (op_add_str.or (op_catA.or op_catR))
theorem od_add : OpD C (rAddA C.K) iAdd := by
  intro σ F H ρ A0 x y d e b Q S v w eb q
  unfold iAdd at eb
  split at eb
  · cases eb
    rw [v.int, w.int]
    exact .inl ⟨_, _, rfl, rfl, q.data S (.int _)⟩
  · rename_i a b
    split at eb
    · rename_i hl
      cases eb
      obtain ⟨rfl, o1⟩ := v.str
      obtain ⟨rfl, o2⟩ := w.str
      refine .inr (.inl ⟨_, _, rfl, rfl, by rw [mkS_len, mkS_len, ← lim_eq]; exact hl, ?_⟩)
      rw [mkS_append]
      exact q.data S (.str _ (okT_append o1 o2 hl))
    · cases eb
  · rename_i a b
    split at eb
    · rename_i hl
      cases eb
      obtain ⟨p1, xs, rfl, h1, r1⟩ := v.tup
      obtain ⟨p2, ys, rfl, h2, r2⟩ := w.tup
      refine .inr (.inr (.inl ⟨_, _, _, _, rfl, rfl, S.sub.sqT h1, S.sub.sqT h2, by rw [r1.length, r2.length, ← lim_eq]; exact hl, fun e => ?_, fun _ e => ?_, fun _ _ p hp => q.tup S (r1.append r2) hp⟩))
      · have := r1.nil_iff.mp e
        subst this
        exact q.data S (.tup h2 r2)
      · have := r2.nil_iff.mp e
        subst this
        rw [List.append_nil] at q
        exact q.data S (.tup h1 r1)
    · cases eb
  · rename_i a b
    split at eb
    · rename_i hl
      cases eb
      obtain ⟨p1, xs, rfl, h1, r1⟩ := v.lst S.sub
      obtain ⟨p2, ys, rfl, h2, r2⟩ := w.lst S.sub
      exact .inr (.inr (.inr ⟨_, _, _, _, rfl, rfl, h1, h2, by rw [r1.length, r2.length, ← lim_eq]; exact hl, fun p hp => q.lst S (r1.append r2) hp⟩))
    · cases eb
  · cases eb
theorem sim_add {a b : Expr} {ma mb : M B} {pos : Pos} (ha : SimE cl X a ma) (hb : SimE cl X b mb) : SimE cl X (.BinOp a .Add b pos) (mAdd ma mb) := sim_op op_addA od_add ha hb
theorem od_sub : OpD C (rI0 fun i j => .int (i - j)) iSub := by
  intro σ F H ρ A0 x y d e b Q S v w eb q
  unfold iSub at eb
  split at eb
  · cases eb
    rw [v.int, w.int]
    exact ⟨_, _, rfl, rfl, q.data S (.int _)⟩
  · cases eb
theorem sim_sub {a b : Expr} {ma mb : M B} {pos : Pos} (ha : SimE cl X a ma) (hb : SimE cl X b mb) : SimE cl X (.BinOp a .Sub b pos) (mSub ma mb) := sim_op op_sub od_sub ha hb
theorem smallI_of {a : Int} (h : smallI a = true) : -(2 ^ 64) < a ∧ a < 2 ^ 64 := by
  unfold smallI at h
  rw [Bool.and_eq_true] at h
  exact ⟨of_decide_eq_true h.1, of_decide_eq_true h.2⟩
def rMulA (K : PySem.W.Frag) : R2 := fun x y H Q => rI CMul (fun i j => .int (i * j)) x y H Q ∨ rRepR K x y H Q ∨ rRepT K x y H Q
theorem op_mulA : OpR X (binaryOp .Mult) (rMulA X.K) := op_mul.or (op_repR.or op_repT)
theorem od_mul : OpD C (rMulA C.K) iMul := by
  intro σ F H ρ A0 x y d e b Q S v w eb q
  unfold iMul at eb
  split at eb
  · split at eb
    · rename_i h
      cases eb
      rw [v.int, w.int]
      refine .inl ⟨_, _, rfl, rfl, ?_, q.data S (.int _)⟩
      rw [Bool.or_eq_true] at h
      rcases h with h | h
      · exact .inl (smallI_of h)
      · exact .inr (smallI_of h)
    · cases eb
  · split at eb
    · rename_i a n h
      cases eb
      rw [Bool.and_eq_true, Bool.and_eq_true] at h
      have h1 := of_decide_eq_true h.1.1
      have h2 := of_decide_eq_true h.1.2
      have h3 := of_decide_eq_true h.2
      obtain ⟨p1, xs, rfl, g1, r1⟩ := v.lst S.sub
      rw [w.int]
      refine .inr (.inl ⟨_, _, _, rfl, rfl, g1, by omega, by omega, ?_, fun p hp => q.lst S (r1.rep _) hp⟩)
      rw [r1.length, sizeLine_eq]
      have := Nat.mul_le_mul h3 (show n.toNat ≤ 1000 by omega)
      omega
    · cases eb
  · split at eb
    · rename_i a n h
      cases eb
      rw [Bool.and_eq_true, Bool.and_eq_true, Bool.and_eq_true] at h
      have h1 := of_decide_eq_true h.1.1.1
      have h2 := of_decide_eq_true h.1.1.2
      have h3 := of_decide_eq_true h.1.2
      obtain ⟨p1, xs, rfl, g1, r1⟩ := v.tup
      rw [w.int]
      refine .inr (.inr ⟨_, _, _, rfl, rfl, S.sub.sqT g1, fun e => ?_, h1, h2, by rw [r1.length]; exact h3, fun p hp => q.tup S (r1.rep _) hp⟩)
      have := r1.nil_iff.mp e
      subst this
      exact absurd h.2 (by decide)
    · cases eb
  · cases eb
theorem sim_mul {a b : Expr} {ma mb : M B} {pos : Pos} (ha : SimE cl X a ma) (hb : SimE cl X b mb) : SimE cl X (.BinOp a .Mult b pos) (mMul ma mb) := sim_op op_mulA od_mul ha hb
theorem od_fdiv : OpD C (rI CDiv fun i j => .int (i / j)) iFdiv := by
  intro σ F H ρ A0 x y d e b Q S v w eb q
  unfold iFdiv at eb
  split at eb
  · split at eb
    · rename_i h
      cases eb
      rw [Bool.and_eq_true] at h
      rw [v.int, w.int]
      exact ⟨_, _, rfl, rfl, ⟨of_decide_eq_true h.1, of_decide_eq_true h.2⟩, q.data S (.int _)⟩
    · cases eb
  · cases eb
theorem sim_fdiv {a b : Expr} {ma mb : M B} {pos : Pos} (ha : SimE cl X a ma) (hb : SimE cl X b mb) : SimE cl X (.BinOp a .FloorDiv b pos) (mFdiv ma mb) := sim_op op_fdiv od_fdiv ha hb
theorem od_mod : OpD C (rI (fun _ j => 0 < j) fun i j => .int (i % j)) iMod := by
  intro σ F H ρ A0 x y d e b Q S v w eb q
  unfold iMod at eb
  split at eb
  · split at eb
    · rename_i h
      cases eb
      rw [v.int, w.int]
      exact ⟨_, _, rfl, rfl, of_decide_eq_true h, q.data S (.int _)⟩
    · cases eb
  · cases eb
theorem sim_mod {a b : Expr} {ma mb : M B} {pos : Pos} (ha : SimE cl X a ma) (hb : SimE cl X b mb) : SimE cl X (.BinOp a .Mod b pos) (mMod ma mb) := sim_op op_mod od_mod ha hb
theorem od_pow : OpD C (rI CPow fun i j => .int (i ^ j.toNat)) iPow := by
  intro σ F H ρ A0 x y d e b Q S v w eb q
  unfold iPow at eb
  split at eb
  · split at eb
    · rename_i h
      cases eb
      rw [Bool.and_eq_true, Bool.and_eq_true] at h
      have h2 := of_decide_eq_true h.1.2
      have h3 := smallI_of h.2
      rw [v.int, w.int]
      exact ⟨_, _, rfl, rfl, ⟨of_decide_eq_true h.1.1, by omega, by omega⟩, q.data S (.int _)⟩
    · cases eb
  · cases eb
theorem sim_pow {a b : Expr} {ma mb : M B} {pos : Pos} (ha : SimE cl X a ma) (hb : SimE cl X b mb) : SimE cl X (.BinOp a .Pow b pos) (mPow ma mb) := sim_op op_pow od_pow ha hb
theorem sim_neg {a : Expr} {ma : M B} {pos : Pos} (ha : SimE cl X a ma) : SimE cl X (.UnaryOp .USub a pos) (mNeg ma) := fun W tk => PE.imp (pe_un un_neg (ha W tk)) fun σ H Q ⟨F, ρ, S, h⟩ => by
  refine one_bind S h fun x d F2 H2 ρ2 S2 v q => ?_
  obtain ⟨b, eb, q⟩ := tR_end q
  unfold iNeg at eb
  split at eb
  · cases eb
    rw [v.int]
    exact ⟨_, rfl, q.data S2 (.int _)⟩
  · cases eb
end
end WF

set_option Elab.async false
set_option linter.all false
set_option maxRecDepth 100000
set_option maxHeartbeats 4000000
/-! WFE: == and in, tests, displays, subscripts. -/
namespace WF
open PySem PySem.Spec PyProof.Rows L2

mutual
/-- as the library's data -/
def toPy : D → PyData
  | .non => .none
  | .bl b => .bool b
  | .int i => .int i
  | .str s => .str (mkS s)
  | .tup xs => .tuple (toPys xs)
  | .lst xs => .list (toPys xs)
  | .dic _ _ => .dict []
def toPys : List D → List PyData
  | [] => []
  | x :: xs => toPy x :: toPys xs
end
theorem mkS_beq (a b : Txt) : (mkS a == mkS b) = (a == b) := by
  rw [Bool.eq_iff_iff, beq_iff_eq, beq_iff_eq]
  exact ⟨mkS_inj, fun e => by rw [e]⟩
mutual
theorem eqv_py : ∀ (d e : D), PyData.eqv (toPy d) (toPy e) = D.eqv d e
  | .non, e => by cases e <;> simp [toPy, PyData.eqv, D.eqv]
  | .bl b, e => by cases e <;> simp [toPy, PyData.eqv, D.eqv]
  | .int i, e => by cases e <;> simp [toPy, PyData.eqv, D.eqv]
  | .str s, e => by cases e <;> simp [toPy, PyData.eqv, D.eqv, mkS_beq]
  | .tup xs, e => by
    cases e with
    | tup ys => simp only [toPy, PyData.eqv, D.eqv]; exact eqvs_py xs ys
    | _ => simp [toPy, PyData.eqv, D.eqv]
  | .lst xs, e => by
    cases e with
    | lst ys => simp only [toPy, PyData.eqv, D.eqv]; exact eqvs_py xs ys
    | _ => simp [toPy, PyData.eqv, D.eqv]
  | .dic _ _, e => by cases e <;> simp [toPy, PyData.eqv, D.eqv]
theorem eqvs_py : ∀ (ds es : List D), PyData.eqvAll (toPys ds) (toPys es) = D.eqvs ds es
  | [], [] => by simp [toPys, PyData.eqvAll, D.eqvs]
  | [], _ :: _ => by simp [toPys, PyData.eqvAll, D.eqvs]
  | _ :: _, [] => by simp [toPys, PyData.eqvAll, D.eqvs]
  | d :: ds, e :: es => by simp only [toPys, PyData.eqvAll, D.eqvs]; rw [eqv_py d e, eqvs_py ds es]
end
mutual
theorem dep_py : ∀ (d : D), D.dep d < 1000 → (toPy d).depth = D.dep d
  | .non, _ => by simp [toPy, PyData.depth, D.dep]
  | .bl b, _ => by simp [toPy, PyData.depth, D.dep]
  | .int i, _ => by simp [toPy, PyData.depth, D.dep]
  | .str s, _ => by simp [toPy, PyData.depth, D.dep]
  | .tup xs, h => by
    have h' : D.deps xs + 1 < 1000 := by simpa [D.dep] using h
    simp only [toPy, PyData.depth, D.dep]; rw [deps_py xs (by omega)]
  | .lst xs, h => by
    have h' : D.deps xs + 1 < 1000 := by simpa [D.dep] using h
    simp only [toPy, PyData.depth, D.dep]; rw [deps_py xs (by omega)]
  | .dic _ _, h => by simp [D.dep] at h
theorem deps_py : ∀ (ds : List D), D.deps ds < 1000 → PyData.depthAll (toPys ds) = D.deps ds
  | [], _ => by simp [toPys, PyData.depthAll, D.deps]
  | d :: ds, h => by
    have h' : max (D.dep d) (D.deps ds) < 1000 := by simpa [D.deps] using h
    simp only [toPys, PyData.depthAll, D.deps]; rw [dep_py d (by omega), deps_py ds (by omega)]
end
theorem strOk_of {s : Txt} (h : okT s) : PyData.strOk (mkS s) = true := by
  unfold PyData.strOk mkS
  rw [Array.all_eq_true']
  intro c m
  have := h.1 c (by simpa using m)
  exact decide_eq_true this
mutual
theorem lay_py {C : Cs} {F : Hp} : ∀ {v : V} {d : D}, Rep C F v d → D.dep d < 1000 → (toPy d).canLay0 = true
  | _, _, .non, _ => by simp [toPy, PyData.canLay0]
  | _, _, .bl _, _ => by simp [toPy, PyData.canLay0]
  | _, _, .int _, _ => by simp [toPy, PyData.canLay0]
  | _, _, .str _ o, _ => by simp only [toPy, PyData.canLay0]; exact strOk_of o
  | _, .tup ds, .tup _ r, h => by
    have h' : D.deps ds + 1 < 1000 := by simpa [D.dep] using h
    simp only [toPy, PyData.canLay0]; exact lays_py r (by omega)
  | _, .lst ds, .lst _ r, h => by
    have h' : D.deps ds + 1 < 1000 := by simpa [D.dep] using h
    simp only [toPy, PyData.canLay0]; exact lays_py r (by omega)
  | _, _, .dicS _ _, h => by simp [D.dep] at h
  | _, _, .dicT _ _, h => by simp [D.dep] at h
theorem lays_py {C : Cs} {F : Hp} : ∀ {v : List V} {d : List D}, Reps C F v d → D.deps d < 1000 → PyData.canLayAll0 (toPys d) = true
  | _, _, .nil, _ => by simp [toPys, PyData.canLayAll0]
  | _, d :: ds, .cons h r, k => by
    have h' : max (D.dep d) (D.deps ds) < 1000 := by simpa [D.deps] using k
    simp only [toPys, PyData.canLayAll0]; rw [lay_py h (by omega), lays_py r (by omega)]; rfl
end
mutual
theorem dp_py {C : Cs} {F : Hp} : ∀ {v : V} {d : D}, Rep C F v d → D.dep d < 1000 → Dp C.K F v (toPy d)
  | _, _, .non, _ => .non
  | _, _, .bl b, _ => .bl b
  | _, _, .int i, _ => .int i
  | _, _, .str s _, _ => .str (mkS s)
  | _, .tup ds, .tup q r, h => by
    have h' : D.deps ds + 1 < 1000 := by simpa [D.dep] using h
    simp only [toPy]; exact .tup q (dps_py r (by omega))
  | _, .lst ds, .lst q r, h => by
    have h' : D.deps ds + 1 < 1000 := by simpa [D.dep] using h
    simp only [toPy]; exact .lst q (dps_py r (by omega))
  | _, _, .dicS _ _, h => by simp [D.dep] at h
  | _, _, .dicT _ _, h => by simp [D.dep] at h
theorem dps_py {C : Cs} {F : Hp} : ∀ {v : List V} {d : List D}, Reps C F v d → D.deps d < 1000 → DpAll C.K F v (toPys d)
  | _, _, .nil, _ => .nil
  | _, d :: ds, .cons h r, k => by
    have h' : max (D.dep d) (D.deps ds) < 1000 := by simpa [D.deps] using k
    exact .cons (dp_py h (by omega)) (dps_py r (by omega))
end
theorem shaped_py {C : Cs} {F : Hp} {v : V} {d : D} (r : Rep C F v d) (h : D.dep d ≤ 60) : SeqAt.shaped (toPy d) = true := by
  unfold SeqAt.shaped
  rw [lay_py r (by omega), dep_py d (by omega)]
  exact decide_eq_true (by omega)

section
variable {cl : Nat → Addr} {X : Cx} {C : Cs} {σ : St} {F H : Hp} {ρ : Env} {A A0 : List Addr}
theorem od_eq : OpD C (rEqD C.K) iEq := by
  intro σ F H ρ A0 x y d e b Q S v w eb q
  unfold iEq at eb
  split at eb
  · rename_i h
    cases eb
    rw [Bool.and_eq_true] at h
    have h1 := of_decide_eq_true h.1
    have h2 := of_decide_eq_true h.2
    refine ⟨toPy d, toPy e, dp_py (v.rep S.sub) (by omega), dp_py (w.rep S.sub) (by omega), shaped_py (v.rep S.sub) h1, shaped_py (w.rep S.sub) h2, ?_⟩
    rw [eqv_py]
    exact q.data S (.bl _)
  · cases eb
theorem od_ne : OpD C (rNeD C.K) iNe := by
  intro σ F H ρ A0 x y d e b Q S v w eb q
  unfold iNe at eb
  split at eb
  · rename_i h
    cases eb
    rw [Bool.and_eq_true] at h
    have h1 := of_decide_eq_true h.1
    have h2 := of_decide_eq_true h.2
    refine ⟨toPy d, toPy e, dp_py (v.rep S.sub) (by omega), dp_py (w.rep S.sub) (by omega), shaped_py (v.rep S.sub) h1, shaped_py (w.rep S.sub) h2, ?_⟩
    rw [eqv_py]
    exact q.data S (.bl _)
  · cases eb
/-- room for what is asked of nested data -/
abbrev Hu (X : Cx) : Prop := X.A.units + 65 < cLine
theorem sim_eq {a b : Expr} {ma mb : M B} (hu : Hu X) (ha : SimE cl X a ma) (hb : SimE cl X b mb) : SimC cl X .Eq a b (mEq ma mb) := sim_cmp (op_eqD (by have : X.A.units + 65 < cLine := hu; omega)) od_eq (fun d e b h => by unfold iEq at h; split at h <;> cases h; exact ⟨_, rfl⟩) (nomark b) ha hb
theorem sim_ne {a b : Expr} {ma mb : M B} (hu : Hu X) (ha : SimE cl X a ma) (hb : SimE cl X b mb) : SimC cl X .NotEq a b (mNe ma mb) := sim_cmp (op_neD (by have : X.A.units + 65 < cLine := hu; omega)) od_ne (fun d e b h => by unfold iNe at h; split at h <;> cases h; exact ⟨_, rfl⟩) (nomark b) ha hb
theorem od_int {f : D → D → Option B} {g : Int → Int → Bool} (hf : ∀ d e b, f d e = some b → ∃ i j, d = .int i ∧ e = .int j ∧ b = boo (g i j)) : OpD C (rI0 fun i j => .bl (g i j)) f := by
  intro σ F H ρ A0 x y d e b Q S v w eb q
  obtain ⟨i, j, rfl, rfl, rfl⟩ := hf d e b eb
  rw [v.int, w.int]
  exact ⟨_, _, rfl, rfl, q.data S (.bl _)⟩
theorem sim_lt {a b : Expr} {ma mb : M B} (ha : SimE cl X a ma) (hb : SimE cl X b mb) : SimC cl X .Lt a b (mLt ma mb) := sim_cmp op_lt (od_int fun d e b h => by
  unfold iLt at h; split at h <;> cases h; exact ⟨_, _, rfl, rfl, rfl⟩) (fun d e b h => by unfold iLt at h; split at h <;> cases h; exact ⟨_, rfl⟩) (nomark b) ha hb
theorem sim_le {a b : Expr} {ma mb : M B} (ha : SimE cl X a ma) (hb : SimE cl X b mb) : SimC cl X .LtE a b (mLe ma mb) := sim_cmp op_le (od_int fun d e b h => by
  unfold iLe at h; split at h <;> cases h; exact ⟨_, _, rfl, rfl, rfl⟩) (fun d e b h => by unfold iLe at h; split at h <;> cases h; exact ⟨_, rfl⟩) (nomark b) ha hb
theorem sim_gt {a b : Expr} {ma mb : M B} (ha : SimE cl X a ma) (hb : SimE cl X b mb) : SimC cl X .Gt a b (mGt ma mb) := sim_cmp op_gt (od_int fun d e b h => by
  unfold iGt at h; split at h <;> cases h; exact ⟨_, _, rfl, rfl, rfl⟩) (fun d e b h => by unfold iGt at h; split at h <;> cases h; exact ⟨_, rfl⟩) (nomark b) ha hb
theorem sim_ge {a b : Expr} {ma mb : M B} (ha : SimE cl X a ma) (hb : SimE cl X b mb) : SimC cl X .GtE a b (mGe ma mb) := sim_cmp op_ge (od_int fun d e b h => by
  unfold iGe at h; split at h <;> cases h; exact ⟨_, _, rfl, rfl, rfl⟩) (fun d e b h => by unfold iGe at h; split at h <;> cases h; exact ⟨_, rfl⟩) (nomark b) ha hb
theorem onlyB_un {g : D → Bool} {a : M B} : OnlyB (bind a fun x => bind (dat x) fun d => ret (boo (g d))) := fun ρ c ρ' h => by
  obtain ⟨_, _, _, h⟩ := bind_ok h
  obtain ⟨_, _, _, h⟩ := bind_ok h
  unfold ret at h
  cases h
  exact ⟨_, rfl⟩
theorem sim_isN {a : Expr} {ma : M B} {j} {pos' : Pos} (ha : SimE cl X a ma) : SimC cl X .Is a (.Constant .none j pos') (mIsN ma) := ⟨fun W tk => ⟨fun pins s σ H Q I ⟨F, ρ, S, h⟩ => (pc_isN (ha W tk)).run pins s σ H Q I
  (one_bind S h fun x d F2 H2 ρ2 S2 v q => by
    rw [v.isNon]
    exact (tR_ret q).data S2 (.bl _))⟩, rfl, onlyB_un⟩
theorem sim_notN {a : Expr} {ma : M B} {j} {pos' : Pos} (ha : SimE cl X a ma) : SimC cl X .IsNot a (.Constant .none j pos') (mNotN ma) := ⟨fun W tk => ⟨fun pins s σ H Q I ⟨F, ρ, S, h⟩ => (pc_notN (ha W tk)).run pins s σ H Q I
  (one_bind S h fun x d F2 H2 ρ2 S2 v q => by
    rw [v.isNon]
    exact (tR_ret q).data S2 (.bl _))⟩, rfl, onlyB_un⟩

/-! ### in: of a list, of a tuple, at any depth -/
theorem any_py (x : D) : ∀ ys : List D, ((toPys ys).any fun z => PyData.eqv z (toPy x)) = memD x ys
  | [] => rfl
  | y :: ys => by
    have ih := any_py x ys
    unfold memD at ih ⊢
    rw [toPys, List.any_cons, List.any_cons, eqv_py, ih]
def rInT (K : PySem.W.Frag) (neg : Bool) : R2 := fun x y H Q => ∃ d ds, Dp K H x d ∧ Dp K H y (.tuple ds) ∧ SeqAt.shaped d = true ∧ SeqAt.shaped (.tuple ds) = true ∧ Q (.bl (if neg then !(ds.any fun z => PyData.eqv z d) else ds.any fun z => PyData.eqv z d)) H
theorem op_inT (hu : Hu X) : OpR X (compareOp .In) (rInT X.K false) := by
  intro pins s σ H x y v u Q I rx ry h
  obtain ⟨d, ds, hd, he, sd, se, q⟩ := h
  obtain ⟨as, r1⟩ := Dp.reads I d x v hd rx
  obtain ⟨bs, r2⟩ := Dp.reads I (.tuple ds) y u he ry
  exact SeqAt.in_tuple_reads r2 r1 (SeqAt.canLay_of_shaped se) (SeqAt.canLay_of_shaped sd) (room_in_shaped sd hu) ⟨.bl _, H, I, rfl, q⟩
theorem op_notInT (hu : Hu X) : OpR X (compareOp .NotIn) (rInT X.K true) := by
  intro pins s σ H x y v u Q I rx ry h
  obtain ⟨d, ds, hd, he, sd, se, q⟩ := h
  obtain ⟨as, r1⟩ := Dp.reads I d x v hd rx
  obtain ⟨bs, r2⟩ := Dp.reads I (.tuple ds) y u he ry
  exact SeqAt.notIn_tuple_reads r2 r1 (SeqAt.canLay_of_shaped se) (SeqAt.canLay_of_shaped sd) (room_in_shaped sd hu) ⟨.bl _, H, I, rfl, q⟩
end
end WF

set_option Elab.async false
set_option linter.all false
set_option maxRecDepth 100000
set_option maxHeartbeats 4000000
/-! WFF: dicts (text keys; nested tuples as keys): in, [], get, store. -/
namespace WF
open PySem PySem.Spec PyProof.Rows L2

/-! ### keys that are nested tuples -/
mutual
theorem nk_beq : ∀ d e : D, D.key d = true → D.key e = true → NestedKey.beq (nk d) (nk e) = D.eqv d e
  | .non, e, _, h => by cases e <;> simp [nk, NestedKey.beq, D.eqv, D.key] at h ⊢
  | .bl b, e, _, h => by cases e <;> simp [nk, NestedKey.beq, D.eqv, D.key] at h ⊢ <;> (cases b <;> first | (rename_i c; cases c <;> decide) | (simp [Bool.beq_eq_decide_eq]; done) | skip) <;> simp [Int.beq_eq_decide_eq, eq_comm] <;> rfl
  | .int i, e, _, h => by
    cases e with
    | bl b => cases b <;> simp [nk, NestedKey.beq, D.eqv] <;> rfl
    | int j => simp only [nk, NestedKey.beq, D.eqv]; rfl
    | lst xs => simp [D.key] at h
    | dic t xs => simp [D.key] at h
    | _ => simp [nk, NestedKey.beq, D.eqv]
  | .str s, e, _, h => by
    cases e with
    | str t =>
      simp only [nk, NestedKey.beq, D.eqv]
      rw [← mkS_beq]; rfl
    | lst xs => simp [D.key] at h
    | dic t xs => simp [D.key] at h
    | _ => simp [nk, NestedKey.beq, D.eqv]
  | .tup xs, e, g, h => by
    cases e with
    | tup ys =>
      simp only [nk, NestedKey.beq, D.eqv]
      exact nks_beq xs ys (by simpa [D.key] using g) (by simpa [D.key] using h)
    | lst xs => simp [D.key] at h
    | dic t xs => simp [D.key] at h
    | _ => simp [nk, NestedKey.beq, D.eqv]
  | .lst _, _, g, _ => by simp [D.key] at g
  | .dic _ _, _, g, _ => by simp [D.key] at g
theorem nks_beq : ∀ ds es : List D, D.keys ds = true → D.keys es = true → NestedKey.beqAll (nks ds) (nks es) = D.eqvs ds es
  | [], [], _, _ => by simp [nks, NestedKey.beqAll, D.eqvs]
  | [], _ :: _, _, _ => by simp [nks, NestedKey.beqAll, D.eqvs]
  | _ :: _, [], _, _ => by simp [nks, NestedKey.beqAll, D.eqvs]
  | d :: ds, e :: es, g, h => by
    have g' : D.key d = true ∧ D.keys ds = true := by simpa [D.keys] using g
    have h' : D.key e = true ∧ D.keys es = true := by simpa [D.keys] using h
    simp only [nks, NestedKey.beqAll, D.eqvs]
    rw [nk_beq d e g'.1 h'.1, nks_beq ds es g'.2 h'.2]
end
mutual
theorem nk_depth : ∀ d : D, D.key d = true → (nk d).depth = D.dep d
  | .non, _ => by simp [nk, NestedKey.depth, D.dep]
  | .bl _, _ => by simp [nk, NestedKey.depth, D.dep]
  | .int _, _ => by simp [nk, NestedKey.depth, D.dep]
  | .str _, _ => by simp [nk, NestedKey.depth, D.dep]
  | .tup xs, h => by simp only [nk, NestedKey.depth, D.dep]; rw [nks_depth xs (by simpa [D.key] using h)]
  | .lst _, g => by simp [D.key] at g
  | .dic _ _, g => by simp [D.key] at g
theorem nks_depth : ∀ ds : List D, D.keys ds = true → NestedKey.depthAll (nks ds) = D.deps ds
  | [], _ => by simp [nks, NestedKey.depthAll, D.deps]
  | d :: ds, g => by
    have g' : D.key d = true ∧ D.keys ds = true := by simpa [D.keys] using g
    simp only [nks, NestedKey.depthAll, D.deps]; rw [nk_depth d g'.1, nks_depth ds g'.2]
end
theorem keyT_key {d : D} (h : keyT d = true) : D.key d = true ∧ D.dep d ≤ 8 ∧ ∃ xs, d = .tup xs := by
  cases d with
  | tup xs =>
    have h : (D.keys xs && decide (D.dep (.tup xs) ≤ 8)) = true := h
    rw [Bool.and_eq_true] at h
    exact ⟨by simp only [D.key]; exact h.1, of_decide_eq_true h.2, _, rfl⟩
  | _ => exact absurd (show false = true from h) Bool.false_ne_true
theorem nk_dec {d e : D} (g : keyT d = true) (h : keyT e = true) : decide (nk d = nk e) = D.eqv d e := by
  rw [NestedKey.decide_eq, nk_beq d e (keyT_key g).1 (keyT_key h).1]

section
variable {X : Cx} {cl : Nat → Addr} {pins : List (Addr × Obj)} {σ : St} {F H : Hp} {s : Shared}
mutual
theorem nk_is (I : Inv X pins σ H s) : ∀ {v : V} {d : D} {u : Value}, Rep (cs cl X) H v d → D.key d = true → RelV v u → NestedIs s.heap (nk d) u
  | _, _, _, .non, _, r => by cases r; simp only [nk]; exact .none
  | _, _, _, .bl b, _, r => by cases r; simp only [nk]; exact .bool rfl
  | _, _, _, .int i, _, r => by obtain ⟨t, rfl⟩ := r; simp only [nk]; exact .int _ _
  | _, _, _, .str t _, _, r => by obtain ⟨t, rfl⟩ := r; simp only [nk]; exact .text _ _
  | _, .tup ds, _, .tup q a, h, r => by
    cases r
    obtain ⟨its, rv, ⟨o, ho, hc, n, hd⟩, _⟩ := I.tuple q
    simp only [nk]
    exact .tup ho hc hd (nks_is I a (by simpa [D.key] using h) (by simpa using rv))
  | _, _, _, .lst _ _, h, _ => by simp [D.key] at h
  | _, _, _, .dicS _ _, h, _ => by simp [D.key] at h
  | _, _, _, .dicT _ _, h, _ => by simp [D.key] at h
theorem nks_is (I : Inv X pins σ H s) : ∀ {vs : List V} {ds : List D} {us : List Value}, Reps (cs cl X) H vs ds → D.keys ds = true → Vals vs us → NestedAll s.heap (nks ds) us
  | _, _, _, .nil, _, r => by cases r; simp only [nks]; exact .nil
  | _, d :: ds, _, .cons a b, h, r => by
    have h' : D.key d = true ∧ D.keys ds = true := by simpa [D.keys] using h
    cases r with
    | cons r1 r2 => simp only [nks]; exact .cons (nk_is I a h'.1 r1) (nks_is I b h'.2 r2)
end
theorem key_is (I : Inv X pins σ H s) {a : Addr} {d : D} (r : Rep (cs cl X) H (.ref a) d) (h : keyT d = true) : (nestedKind X.prog X.w).is s.heap (nk d) a :=
  ⟨nk_is I r (keyT_key h).1 rfl, by rw [nk_depth d (keyT_key h).1]; exact (keyT_key h).2.1⟩
end
end WF

namespace WF
open PySem PySem.Spec PyProof.Rows L2
abbrev XT := NestedKey × Addr × V
abbrev YT := NestedKey × Addr × Value
abbrev RelT : List XT → List YT → Prop := Paired fun (p : XT) (q : YT) => p.1 = q.1 ∧ p.2.1 = q.2.1 ∧ RelV p.2.2 q.2.2
def hasX (xs : List XT) (k : NestedKey) : Bool := xs.any fun x => decide (x.1 = k)
def storedX (xs : List XT) (k : NestedKey) (a : Addr) (v : V) : List XT := if hasX xs k then xs.map (fun x => if x.1 = k then (x.1, x.2.1, v) else x) else xs ++ [(k, a, v)]
section
variable {C : Cs} {F : Hp}
theorem Paired.app {α β : Type} {R : α → β → Prop} : ∀ {a c : List α} {b d : List β}, Paired R a b → Paired R c d → Paired R (a ++ c) (b ++ d)
  | _, _, _, _, .nil, s => s
  | _, _, _, _, .cons r t, s => .cons r (Paired.app t s)
theorem relT_has : ∀ {xs : List XT} {ys : List YT}, RelT xs ys → ∀ k, (atKey ys k).isSome = hasX xs k
  | _, _, .nil, _ => rfl
  | _, _, .cons (a := x) (b := y) r t, k => by
    have ih := relT_has t k
    unfold atKey hasX at ih ⊢
    rw [List.any_cons, List.find?_cons, ← r.1]
    by_cases h : x.1 = k
    · simp [h]
    · simp only [h, decide_false, Bool.false_or]; exact ih
theorem relT_put (k : NestedKey) {v : V} {u : Value} (rv : RelV v u) : ∀ {xs : List XT} {ys : List YT}, RelT xs ys → RelT (xs.map fun x => if x.1 = k then (x.1, x.2.1, v) else x) (ys.map (putAt k u))
  | _, _, .nil => .nil
  | _, _, .cons (a := x) (b := y) r t => by
    refine .cons ?_ (relT_put k rv t)
    unfold putAt
    rw [← r.1]
    dsimp only
    by_cases h : x.1 = k
    · rw [if_pos h, if_pos h]; exact ⟨rfl, r.2.1, rv⟩
    · rw [if_neg h, if_neg h]; exact r
theorem relT_stored {xs : List XT} {ys : List YT} (r : RelT xs ys) (k : NestedKey) (a : Addr) {v : V} {u : Value} (rv : RelV v u) : RelT (storedX xs k a v) (storedH ys k a u) := by
  unfold storedX storedH
  rw [relT_has r k]
  split
  · exact relT_put k rv r
  · exact Paired.app r (.cons ⟨rfl, rfl, rv⟩ .nil)
theorem repT_has : ∀ {xs : List XT} {kvs : List (D × D)}, RepT C F xs kvs → ∀ k, keyT k = true → hasX xs (nk k) = (lookD kvs k).isSome
  | _, _, .nil, _, _ => rfl
  | _, _, .cons g rk rv t, k, h => by
    have ih := repT_has t k h
    unfold hasX lookD at ih ⊢
    rw [List.any_cons, List.find?_cons, nk_dec g h]
    cases e : D.eqv _ k with
    | true => simp
    | false => rw [Bool.false_or]; exact ih
theorem repT_put {k d : D} {v : V} (h : keyT k = true) (rv : Rep C F v d) : ∀ {xs : List XT} {kvs : List (D × D)}, RepT C F xs kvs → RepT C F (xs.map fun x => if x.1 = nk k then (x.1, x.2.1, v) else x) (kvs.map fun p => if D.eqv p.1 k then (p.1, d) else p)
  | _, _, .nil => .nil
  | _, _, .cons (k := k') g rk' rv' t => by
    rw [List.map_cons, List.map_cons]
    have q := nk_dec g h
    cases e : D.eqv k' k with
    | true =>
      rw [e] at q
      rw [if_pos (of_decide_eq_true q), if_pos rfl]
      exact .cons g rk' rv (repT_put h rv t)
    | false =>
      rw [e] at q
      rw [if_neg (of_decide_eq_false q), if_neg Bool.false_ne_true]
      exact .cons g rk' rv' (repT_put h rv t)
theorem repT_app {xs' : List XT} {kvs' : List (D × D)} (r' : RepT C F xs' kvs') : ∀ {xs : List XT} {kvs : List (D × D)}, RepT C F xs kvs → RepT C F (xs ++ xs') (kvs ++ kvs')
  | _, _, .nil => r'
  | _, _, .cons g rk rv t => .cons g rk rv (repT_app r' t)
theorem repT_stored {xs : List XT} {kvs : List (D × D)} (r : RepT C F xs kvs) {k d : D} {a : Addr} {v : V} (h : keyT k = true) (rk : Rep C F (.ref a) k) (rv : Rep C F v d) : RepT C F (storedX xs (nk k) a v) (putD kvs k d) := by
  unfold storedX putD
  rw [repT_has r k h]
  split
  · exact repT_put h rv r
  · exact repT_app (.cons h rk rv .nil) r
theorem hasX_mem {xs : List XT} {k : NestedKey} : hasX xs k = true ↔ k ∈ xs.map (·.1) := by
  unfold hasX
  rw [List.any_eq_true, List.mem_map]
  constructor
  · rintro ⟨x, m, e⟩; exact ⟨x, m, of_decide_eq_true e⟩
  · rintro ⟨x, m, e⟩; exact ⟨x, m, decide_eq_true e⟩
theorem stored_keys (xs : List XT) (k : NestedKey) (a : Addr) (v : V) : (storedX xs k a v).map (·.1) = if hasX xs k then xs.map (·.1) else xs.map (·.1) ++ [k] := by
  unfold storedX
  split
  · rw [List.map_map]
    refine List.map_congr_left fun x _ => ?_
    by_cases h : x.1 = k <;> simp [h]
  · simp
theorem stored_nodup {xs : List XT} {k : NestedKey} {a : Addr} {v : V} (n : (xs.map (·.1)).Nodup) : ((storedX xs k a v).map (·.1)).Nodup := by
  rw [stored_keys]
  split
  · exact n
  · rename_i h
    rw [List.nodup_append]
    refine ⟨n, by simp, fun x m y m' e => ?_⟩
    rw [List.mem_singleton.mp m'] at e
    subst e
    exact h (hasX_mem.mpr m)
theorem stored_length (xs : List XT) (k : NestedKey) (a : Addr) (v : V) : (storedX xs k a v).length ≤ xs.length + 1 := by
  unfold storedX
  split
  · simp
  · simp
/-- the value at a key -/
theorem repT_at : ∀ {xs : List XT} {ys : List YT} {kvs : List (D × D)}, RepT C F xs kvs → RelT xs ys → ∀ {k d : D}, keyT k = true → lookD kvs k = some d → ∃ p v, atKey ys (nk k) = some p ∧ RelV v p.2 ∧ Rep C F v d
  | _, _, _, .nil, .nil, _, _, _, e => by cases e
  | _, _, _, .cons g rk rv t, .cons r t', k, d, h, e => by
    unfold lookD at e
    unfold atKey
    rw [List.find?_cons] at e ⊢
    rw [← r.1, nk_dec g h]
    cases q : D.eqv _ k with
    | true =>
      rw [q] at e
      cases e
      exact ⟨_, _, rfl, r.2.2, rv⟩
    | false =>
      rw [q] at e
      exact repT_at t t' h e
theorem repT_keys : ∀ {xs : List XT} {kvs : List (D × D)}, RepT C F xs kvs → ∀ x ∈ xs, ∃ k, keyT k = true ∧ nk k = x.1 ∧ Rep C F (.ref x.2.1) k
  | _, _, .cons g rk rv t, x, m => by
    rcases List.mem_cons.mp m with e | m
    · subst e; exact ⟨_, g, rfl, rk⟩
    · exact repT_keys t x m
end
section
variable {X : Cx} {cl : Nat → Addr} {pins : List (Addr × Obj)} {σ : St} {F H : Hp} {s : Shared}
theorem relT_fst : ∀ {xs : List XT} {ys : List YT}, RelT xs ys → ys.map (·.1) = xs.map (·.1)
  | _, _, .nil => rfl
  | _, _, .cons r t => by rw [List.map_cons, List.map_cons, relT_fst t, r.1]
theorem relT_mem : ∀ {xs : List XT} {ys : List YT}, RelT xs ys → ∀ {y : YT}, y ∈ ys → ∃ x ∈ xs, x.1 = y.1 ∧ x.2.1 = y.2.1
  | _, _, .nil, _, m => nomatch m
  | _, _, .cons r t, y, m => by
    rcases List.mem_cons.mp m with e | m
    · subst e; exact ⟨_, List.mem_cons_self, r.1, r.2.1⟩
    · obtain ⟨x, m', q⟩ := relT_mem t m
      exact ⟨x, List.mem_cons_of_mem _ m', q⟩
theorem dk_at (I : Inv X pins σ H s) {a : Addr} {xs : List XT} {kvs : List (D × D)} (e : H a = some (dkT (cs cl X) a xs)) (r : RepT (cs cl X) F xs kvs) (sub : Sub F H) :
    ∃ ys : List YT, RelT xs ys ∧ s.heap.DictOfH (nestedKind X.prog X.w) a ys ∧ xs.length ≤ sizeLine ∧ (a == sysModules) = false ∧ (xs.map (·.1)).Nodup := by
  obtain ⟨⟨ys, rel, o, es, ep, h1, h2, h3, h4, h5, h6, h7⟩, _⟩ := I.hok a _ e
  have ek := relT_fst rel
  refine ⟨ys, rel, ⟨o, es, ep, h1, h2, h3, h4, fun y m => ?_, by rw [ek]; exact h7⟩, h5, h6, h7⟩
  obtain ⟨x, m', q⟩ := relT_mem rel m
  obtain ⟨k, g, ek, rk⟩ := repT_keys r x m'
  rw [← q.1, ← q.2, ← ek]
  exact key_is I (rk.mono sub) g
end
end WF

set_option Elab.async false
set_option linter.all false
set_option maxRecDepth 100000
set_option maxHeartbeats 4000000
/-! WFG: in, tests, displays, subscripts, slices. -/
namespace WF
open PySem PySem.Spec PyProof.Rows L2

/-! ### dicts by the layer's and the library's rules -/
section
variable {cl : Nat → Addr} {X : Cx} {C : Cs} {σ : St} {F H : Hp} {ρ : Env} {A A0 : List Addr}
theorem repS_has {F : Hp} : ∀ {xs : List (Key × V)} {kvs : List (D × D)}, RepS C F xs kvs → ∀ t : Txt, (valV xs (Sum.inr (mkS t))).isSome = (lookD kvs (.str t)).isSome ∧ ∀ d, lookD kvs (.str t) = some d → ∃ v, valV xs (Sum.inr (mkS t)) = some v ∧ Rep C F v d
  | _, _, .nil, t => ⟨rfl, fun d h => by cases h⟩
  | _, _, .cons (s := s) o r z, t => by
    obtain ⟨h1, h2⟩ := repS_has z t
    unfold lookD at h1 h2 ⊢
    rw [List.find?_cons]
    have e : D.eqv (.str s) (.str t) = (s == t) := by simp [D.eqv]
    rw [show D.eqv ((D.str s, _) : D × D).1 (.str t) = (s == t) from e]
    by_cases q : s = t
    · subst q
      rw [valV_pos rfl, beq_self_eq_true]
      exact ⟨rfl, fun d h => by cases h; exact ⟨_, rfl, r⟩⟩
    · have q' : ¬ (Sum.inr (mkS s) : Key) = Sum.inr (mkS t) := fun z => q (mkS_inj (Sum.inr.inj z))
      rw [valV_neg q', beq_false_of_ne q]
      exact ⟨h1, h2⟩
theorem repS_map {F : Hp} {t : Txt} {v : V} {d : D} (rv : Rep C F v d) : ∀ {xs : List (Key × V)} {kvs : List (D × D)}, RepS C F xs kvs →
    RepS C F (xs.map fun kv => if kv.1 = Sum.inr (mkS t) then (kv.1, v) else kv) (kvs.map fun p => if D.eqv p.1 (.str t) then (p.1, d) else p)
  | _, _, .nil => .nil
  | _, _, .cons (s := s) o r z => by
    rw [List.map_cons, List.map_cons]
    have e : D.eqv (.str s) (.str t) = (s == t) := by simp [D.eqv]
    by_cases q : s = t
    · subst q
      rw [if_pos rfl, if_pos (by rw [e, beq_self_eq_true])]
      exact .cons o rv (repS_map rv z)
    · rw [if_neg (fun z => q (mkS_inj (Sum.inr.inj z))), if_neg (by rw [e, beq_false_of_ne q]; exact Bool.false_ne_true)]
      exact .cons o r (repS_map rv z)
theorem repS_app {F : Hp} {xs' : List (Key × V)} {kvs' : List (D × D)} (r' : RepS C F xs' kvs') : ∀ {xs : List (Key × V)} {kvs : List (D × D)}, RepS C F xs kvs → RepS C F (xs ++ xs') (kvs ++ kvs')
  | _, _, .nil => r'
  | _, _, .cons o r z => .cons o r (repS_app r' z)
theorem repS_put {F : Hp} {t : Txt} {v : V} {d : D} {xs : List (Key × V)} {kvs : List (D × D)} (r : RepS C F xs kvs) (o : okT t) (rv : Rep C F v d) : RepS C F (putK xs (Sum.inr (mkS t)) v) (putD kvs (.str t) d) := by
  unfold putK putD
  rw [valV_any, (repS_has r t).1]
  by_cases h : (lookD kvs (.str t)).isSome = true
  · rw [if_pos h, if_pos h]; exact repS_map rv r
  · rw [if_neg h, if_neg h]; exact repS_app (.cons o rv .nil) r
theorem RepS.length {F : Hp} : ∀ {xs : List (Key × V)} {kvs : List (D × D)}, RepS C F xs kvs → xs.length = kvs.length
  | _, _, .nil => rfl
  | _, _, .cons _ _ z => by simp [RepS.length z]
theorem RepT.length {F : Hp} : ∀ {xs : List XT} {kvs : List (D × D)}, RepT C F xs kvs → xs.length = kvs.length
  | _, _, .nil => rfl
  | _, _, .cons _ _ _ z => by simp [RepT.length z]

/-- a dict looked at: it stands in H, its parts in F -/
theorem Vw.dicS {v : V} {kvs : List (D × D)} (h : Vw C F H v (.dic false kvs)) (s : Sub F H) : ∃ a xs, v = .ref a ∧ H a = some (.dK xs) ∧ RepS C F xs kvs := by
  cases h with
  | sc r => cases r with | dicS h r => exact ⟨_, _, rfl, s _ _ h, r⟩
  | ob r e =>
    cases r with
    | lst h r => cases e
    | dicS h r => cases e; exact ⟨_, _, rfl, h, r⟩
    | dicT h r => cases e
    | ins h r => cases e
theorem Vw.dicT {v : V} {kvs : List (D × D)} (h : Vw C F H v (.dic true kvs)) (s : Sub F H) : ∃ a xs, v = .ref a ∧ H a = some (dkT C a xs) ∧ RepT C F xs kvs := by
  cases h with
  | sc r => cases r with | dicT h r => exact ⟨_, _, rfl, s _ _ h, r⟩
  | ob r e =>
    cases r with
    | lst h r => cases e
    | dicS h r => cases e
    | dicT h r => cases e; exact ⟨_, _, rfl, h, r⟩
    | ins h r => cases e
theorem keyT_ref {v : V} {k : D} (h : keyT k = true) (r : Rep C F v k) : ∃ a, v = .ref a := by
  obtain ⟨_, _, xs, rfl⟩ := keyT_key h
  cases r; exact ⟨_, rfl⟩
theorem keyS_str {k : D} (h : keyS k = true) : ∃ t, k = .str t := by
  cases k with
  | str t => exact ⟨t, rfl⟩
  | _ => exact absurd (show false = true from h) Bool.false_ne_true
variable {pins : List (Addr × Obj)} {s : Shared} {E : Value → Shared → Prop}
theorem hu1 (hu : Hu X) : X.A.units + 1 < cLine := by have : X.A.units + 65 < cLine := hu; omega
theorem hu8 (hu : Hu X) : (nestedKind X.prog X.w).room X.A.in1 := by
  have : X.A.units + 65 < cLine := hu
  show X.A.units + 1 + 8 < cLine
  omega
/-- k in d, whatever the keys are -/
theorem dic_in (hu : Hu X) (I : Inv X pins σ H s) (S : Sub F H) {t : Bool} {x y : V} {u w : Value} {k : D} {kvs : List (D × D)} {Q : Value → Shared → Prop} (rx : RelV x u) (ry : RelV y w) (vx : Vw (cs cl X) F H x k) (vy : Vw (cs cl X) F H y (.dic t kvs)) (hk : keyOf t k = true)
    (h : ∀ s', Inv X pins σ H s' → Q (.bool (lookD kvs k).isSome) s') : wpAny (model X.prog X.w) X.A (compareOp .In u w) Q E s := by
  cases t with
  | false =>
    obtain ⟨a, xs, rfl, e, r⟩ := vy.dicS S
    cases ry
    obtain ⟨t, rfl⟩ := keyS_str hk
    obtain ⟨rfl, o⟩ := vx.str
    refine d_in (hu1 hu) I (.inl ⟨_, Sum.inr (mkS t), .inl e, rfl, rfl⟩) rx fun s' I' => ?_
    rw [(repS_has r t).1]; exact h s' I'
  | true =>
    obtain ⟨a, xs, rfl, e, r⟩ := vy.dicT S
    cases ry
    have rk := vx.rep S
    obtain ⟨b, rfl⟩ := keyT_ref hk rk
    cases rx
    obtain ⟨ys, rel, dd, _, hd, _⟩ := dk_at I e r S
    refine wpAny_in_heap (hu8 hu) (key_is I rk hk) hd dd ?_
    rw [relT_has rel, repT_has r k hk]
    exact h _ (I.tok _)
theorem dic_notIn (hu : Hu X) (I : Inv X pins σ H s) (S : Sub F H) {t : Bool} {x y : V} {u w : Value} {k : D} {kvs : List (D × D)} {Q : Value → Shared → Prop} (rx : RelV x u) (ry : RelV y w) (vx : Vw (cs cl X) F H x k) (vy : Vw (cs cl X) F H y (.dic t kvs)) (hk : keyOf t k = true)
    (h : ∀ s', Inv X pins σ H s' → Q (.bool (!(lookD kvs k).isSome)) s') : wpAny (model X.prog X.w) X.A (compareOp .NotIn u w) Q E s := by
  cases t with
  | false =>
    obtain ⟨a, xs, rfl, e, r⟩ := vy.dicS S
    cases ry
    obtain ⟨t, rfl⟩ := keyS_str hk
    obtain ⟨rfl, o⟩ := vx.str
    refine d_notIn (hu1 hu) I (.inl ⟨_, Sum.inr (mkS t), .inl e, rfl, rfl⟩) rx fun s' I' => ?_
    rw [(repS_has r t).1]; exact h s' I'
  | true =>
    obtain ⟨a, xs, rfl, e, r⟩ := vy.dicT S
    cases ry
    have rk := vx.rep S
    obtain ⟨b, rfl⟩ := keyT_ref hk rk
    cases rx
    obtain ⟨ys, rel, dd, _, hd, _⟩ := dk_at I e r S
    show wpAny _ _ (do return .bool (!(← contains (.ref a) (.ref b)))) Q E s
    refine wpAny_bind (wpAny_contains_heap (hu8 hu) (key_is I rk hk) hd dd (wpAny_pure ?_))
    rw [relT_has rel, repT_has r k hk]
    exact h _ (I.tok _)
/-- d[k], there -/
theorem dic_get (hu : Hu X) (I : Inv X pins σ H s) (S : Sub F H) {t : Bool} {x y : V} {u w : Value} {k d : D} {kvs : List (D × D)} {Q : Value → Shared → Prop} (rx : RelV x u) (ry : RelV y w) (vx : Vw (cs cl X) F H x (.dic t kvs)) (vy : Vw (cs cl X) F H y k) (hk : keyOf t k = true) (hl : lookD kvs k = some d)
    (h : ∀ v z s', Inv X pins σ H s' → RelV v z → Rep (cs cl X) F v d → Q z s') : s.TypeIs u "dict" ∧ wpAny (model X.prog X.w) X.A (getItem u w) Q E s := by
  cases t with
  | false =>
    obtain ⟨a, xs, rfl, e, r⟩ := vx.dicS S
    cases rx
    obtain ⟨t, rfl⟩ := keyS_str hk
    obtain ⟨rfl, o⟩ := vy.str
    obtain ⟨v, ev, rv⟩ := (repS_has r t).2 d hl
    have g : DGet H a (.str (mkS t)) (some v) := .inl ⟨_, Sum.inr (mkS t), .inl e, rfl, ev.symm⟩
    exact ⟨dict_typeIs I g, d_getItem (hu1 hu) I g ry fun w' s' I' rw' => h v w' s' I' rw' rv⟩
  | true =>
    obtain ⟨a, xs, rfl, e, r⟩ := vx.dicT S
    cases rx
    have rk := vy.rep S
    obtain ⟨b, rfl⟩ := keyT_ref hk rk
    cases ry
    obtain ⟨ys, rel, dd, _, hd, _⟩ := dk_at I e r S
    obtain ⟨p, v, ep, rv, rp⟩ := repT_at r rel hk hl
    exact ⟨dd.typeIs, wpAny_getItem_heap (hu8 hu) (key_is I rk hk) dd ep (h v _ _ (I.tok _) rv rp)⟩

/-! ### in -/
theorem only_in {neg : Bool} {d e : D} {b : B} (h : (if neg then iNin else iIn) d e = some b) : ∃ c, b = boo c := by
  cases neg with
  | false =>
    have h : (isIn d e).map (fun b => boo b) = some b := h
    obtain ⟨r, e1, e2⟩ := Option.map_eq_some_iff.mp h
    exact ⟨_, e2.symm⟩
  | true =>
    have h : (isIn d e).map (fun b => boo (!b)) = some b := h
    obtain ⟨r, e1, e2⟩ := Option.map_eq_some_iff.mp h
    exact ⟨_, e2.symm⟩
theorem sim_in2 {neg : Bool} {op : CmpOp} {a b : Expr} {ma mb : M B} (hu : Hu X) (hop : op = if neg then .NotIn else .In) (hm : behindInMarks op b = false) (ha : SimE cl X a ma) (hb : SimE cl X b mb) :
    SimC cl X op a b (mOp (if neg then iNin else iIn) ma mb) := ⟨fun W tk => ⟨fun pins s σ H Q I ⟨F, ρ, S, h⟩ => by
  refine (binT (R := fun x y H2 => ∃ (F2 : Hp) (ρ2 : Env) (A2 : List Addr) (d e : D) (c : B), Stt (cs cl X) F2 H2 σ ρ2 ∧ Vw (cs cl X) F2 H2 x d ∧ Vw (cs cl X) F2 H2 y e ∧ (if neg then iNin else iIn) d e = some c ∧ Fin (cs cl X) RlB A2 F2 ρ2 σ H2 Q c)
    (ha W tk) (hb W tk) I (two_bind S h fun x y d e F2 H2 ρ2 S2 v w q => let ⟨b, eb, q⟩ := tR_end q; ⟨F2, ρ2, _, d, e, b, S2, v, w, eb, q⟩) fun u w s2 x y H2 I2 rx ry ⟨F2, ρ2, A2, d, e, c, S2, v, v', ec, q⟩ => ?_)
  have key : ∃ r, isIn d e = some r ∧ c = boo (if neg then !r else r) := by
    cases neg with
    | false =>
      have ec : (isIn d e).map (fun b => boo b) = some c := ec
      obtain ⟨r, e1, e2⟩ := Option.map_eq_some_iff.mp ec
      exact ⟨r, e1, e2.symm⟩
    | true =>
      have ec : (isIn d e).map (fun b => boo (!b)) = some c := ec
      obtain ⟨r, e1, e2⟩ := Option.map_eq_some_iff.mp ec
      exact ⟨r, e1, e2.symm⟩
  obtain ⟨r, er, rfl⟩ := key
  have fin : ∀ s', Inv X pins σ H2 s' → EP X pins σ Q (.bool (if neg then !r else r)) s' := fun s' I' => ⟨.bl _, H2, I', rfl, q.data S2 (.bl _)⟩
  unfold isIn at er
  split at er
  · rename_i ys
    split at er
    · rename_i hh
      cases er
      rw [Bool.and_eq_true] at hh
      have h1 := of_decide_eq_true hh.1
      have h2 := of_decide_eq_true hh.2
      have ry := v'.rep S2.sub
      have dy : D.dep (.tup ys) ≤ 61 := by simp only [D.dep]; omega
      have sy : SeqAt.shaped (toPy (.tup ys)) = true := by
        unfold SeqAt.shaped
        rw [lay_py ry (by omega), dep_py _ (by omega)]
        exact decide_eq_true (by omega)
      have dpy := dp_py ry (by omega)
      have dpx := dp_py (v.rep S2.sub) (by omega)
      have sx := shaped_py (v.rep S2.sub) h1
      simp only [toPy] at sy dpy
      cases neg with
      | false =>
        subst hop
        refine op_inT hu pins s2 σ H2 x y u w Q I2 rx (by assumption) ⟨_, _, dpx, dpy, sx, sy, ?_⟩
        rw [any_py]
        exact q.data S2 (.bl _)
      | true =>
        subst hop
        refine op_notInT hu pins s2 σ H2 x y u w Q I2 rx (by assumption) ⟨_, _, dpx, dpy, sx, sy, ?_⟩
        rw [any_py]
        exact q.data S2 (.bl _)
    · cases er
  · rename_i ys
    split at er
    · rename_i hh
      cases er
      rw [Bool.and_eq_true] at hh
      have h1 := of_decide_eq_true hh.1
      have h2 := of_decide_eq_true hh.2
      have ry := v'.rep S2.sub
      have dy : D.dep (.lst ys) ≤ 61 := by simp only [D.dep]; omega
      have sy : SeqAt.shaped (toPy (.lst ys)) = true := by
        unfold SeqAt.shaped
        rw [lay_py ry (by omega), dep_py _ (by omega)]
        exact decide_eq_true (by omega)
      have dpy := dp_py ry (by omega)
      have dpx := dp_py (v.rep S2.sub) (by omega)
      have sx := shaped_py (v.rep S2.sub) h1
      simp only [toPy] at sy dpy
      cases neg with
      | false =>
        subst hop
        refine op_inD hu pins s2 σ H2 x y u w Q I2 rx (by assumption) ⟨_, _, dpx, dpy, sx, sy, ?_⟩
        rw [any_py]
        exact q.data S2 (.bl _)
      | true =>
        subst hop
        refine op_notInD hu pins s2 σ H2 x y u w Q I2 rx (by assumption) ⟨_, _, dpx, dpy, sx, sy, ?_⟩
        rw [any_py]
        exact q.data S2 (.bl _)
    · cases er
  · rename_i t kvs
    split at er
    · rename_i hk
      cases er
      cases neg with
      | false => subst hop; exact dic_in hu I2 S2.sub rx (by assumption) v v' hk fin
      | true => subst hop; exact dic_notIn hu I2 S2.sub rx (by assumption) v v' hk fin
    · cases er
  · cases er⟩, hm, onlyB_op fun _ _ _ => only_in⟩
theorem sim_in {a b : Expr} {ma mb : M B} (hu : Hu X) (hm : behindInMarks .In b = false) (ha : SimE cl X a ma) (hb : SimE cl X b mb) : SimC cl X .In a b (mIn ma mb) := sim_in2 (neg := false) hu rfl hm ha hb
theorem sim_nin {a b : Expr} {ma mb : M B} (hu : Hu X) (hm : behindInMarks .NotIn b = false) (ha : SimE cl X a ma) (hb : SimE cl X b mb) : SimC cl X .NotIn a b (mNin ma mb) := sim_in2 (neg := true) hu rfl hm ha hb
end
end WF

set_option Elab.async false
set_option linter.all false
set_option maxRecDepth 100000
set_option maxHeartbeats 4000000
/-! WFH: tests, displays, subscripts, slices, built-ins by values. -/
namespace WF
open PySem PySem.Spec PyProof.Rows L2

section
variable {cl : Nat → Addr} {X : Cx} {C : Cs} {σ : St} {F H : Hp} {ρ : Env} {A A0 : List Addr}
/-! ### tests -/
theorem isEmpty_reps {F : Hp} {xs : List V} {ds : List D} (r : Reps C F xs ds) : (!xs.isEmpty) = !ds.isEmpty := by cases r <;> rfl
theorem tru_of {v : V} {d : D} {k : Bool} (S : Sub F H) (h : Vw C F H v d) (e : d.tru = some k) : TruV C.K v H k := by
  cases d with
  | non => cases e; rw [h.non]; rfl
  | bl b => cases e; rw [h.bl]; rfl
  | int i => cases e; rw [h.int]; rfl
  | str s =>
    cases e
    obtain ⟨rfl, o⟩ := h.str
    refine ⟨by rw [mkS_len, ← lim_eq]; exact o.2, ?_⟩
    rw [mkS_len]
    cases s <;> rfl
  | tup xs =>
    cases e
    obtain ⟨a, vs, rfl, q, r⟩ := h.tup
    exact .inr (.inl ⟨vs, S.sqT q, (isEmpty_reps r).symm⟩)
  | lst xs =>
    cases e
    obtain ⟨a, vs, rfl, q, r⟩ := h.lst S
    exact .inl ⟨vs, q, (isEmpty_reps r).symm⟩
  | dic t kvs => cases e
theorem sim_tV {e : Expr} {m : M B} (ha : SimE cl X e m) (he : ∀ whole, isTrue e X.env whole = (do let v ← whole; standAt e.pos; holding [v] (truthy v))) : SimT cl X e (tV m) := fun W tk => ⟨fun pins s σ H Q I ⟨F, ρ, S, h⟩ => by
  refine isTrue_plain (thn ((ha W tk).run pins s σ H _ I (one_bind (P := fun x H2 => ∃ k, TruV X.K x H2 k ∧ Q k H2) S h fun x d F2 H2 ρ2 S2 v q => ?_)) fun v s1 ⟨x, H1, I1, r1, k, tk, q1⟩ => ?_) (he _)
  · obtain ⟨k, ek, q⟩ := tR_end q
    exact ⟨k, tru_of S2.sub v ek, q.bool S2⟩
  · exact tru_ok pins s1 σ H1 x v Q I1 r1 ⟨k, tk, q1⟩⟩
/-- a comparison as a test -/
theorem SimC.t {a b : Expr} {op : CmpOp} {pos : Pos} {m : M B} (h : SimC cl X op a b m) : SimT cl X (.Compare a [op] [b] pos) (tV m) := fun W tk => PT.imp (pt_cmp (h.pc W tk) h.hm) fun σ H Q ⟨F, ρ, S, q⟩ => by
  obtain ⟨r, ρ', e, q⟩ := q
  unfold tV bind at e
  split at e
  · cases e
  · rename_i c p ρ1 em
    cases e
    exact ⟨F, ρ, S, _, _, em, q⟩
  · rename_i b ρ1 em
    obtain ⟨c, rfl⟩ := h.ob _ _ _ em
    cases e
    refine ⟨F, ρ, S, _, _, em, fun v A F' H' T' S' rl fp nw => ?_⟩
    cases rl with
    | sh rl => cases rl; exact ⟨c, rfl, q c [] F' H' T' S' ⟨rfl, rfl⟩ Fp.nil New.nil⟩
theorem tM_tif {α β : Type} {R : Rl β α} {W : WX} {Q : β → Hp → Prop} {t : M Bool} {k : Bool → M α} {P : Bool → Hp → Prop} (S : Stt C F H σ ρ) (h : tR C R W A0 F ρ (bind t k) σ H Q)
    (i : ∀ c F1 H1 ρ1, Stt C F1 H1 σ ρ1 → tR C R W A0 F1 ρ1 (k c) σ H1 Q → P c H1) : tM C RlT W t σ H P :=
  tM_bind (R1 := RlT) S h fun v a A F1 H1 ρ1 T S1 rl fp nw q => by
    obtain ⟨rfl, rfl⟩ := rl
    rw [List.append_nil] at q
    exact i v F1 H1 ρ1 S1 q
theorem tR_up {α β : Type} {R : Rl β α} {W : WX} {Q : β → Hp → Prop} {m : M α} (h : tR C R W A0 F ρ m σ H Q) : tR C R W [] F ρ m σ H Q := tR_from Tr.refl (fun _ z => nomatch z) h
theorem sim_tAnd1 {a : Expr} {pos : Pos} {t : M Bool} (ha : SimT cl X a t) : ∀ W, Takes X W → PW X (.BoolOp .And [a] pos) (tM (cs cl X) RlT W t) := fun W tk => pw_and1 (ha W tk)
theorem sim_tOr1 {a : Expr} {pos : Pos} {t : M Bool} (ha : SimT cl X a t) : ∀ W, Takes X W → PW X (.BoolOp .Or [a] pos) (tM (cs cl X) RlT W t) := fun W tk => pw_or1 (ha W tk)
theorem PW.imp {X : Cx} {e : Expr} {t t' : TT} (h : PW X e t) (i : ∀ σ H Q, t' σ H Q → t σ H Q) : PW X e t' := ⟨fun wh pins s σ H Q I q => h.run wh pins s σ H Q I (i σ H Q q)⟩
theorem sim_tAndC {a b : Expr} {r : List Expr} {pos : Pos} {t u : M Bool} (ha : SimT cl X a t) (hb : ∀ W, Takes X W → PW X (.BoolOp .And (b :: r) pos) (tM (cs cl X) RlT W u)) :
    ∀ W, Takes X W → PW X (.BoolOp .And (a :: b :: r) pos) (tM (cs cl X) RlT W (tAnd t u)) := fun W tk => PW.imp (pw_and (ha W tk) (hb W tk)) fun σ H Q ⟨F, ρ, S, h⟩ => tM_tif S h fun c F1 H1 ρ1 S1 q => by
  cases c with
  | true => exact iteT ⟨F1, ρ1, S1, q⟩
  | false => exact iteF ((tR_ret q).bool S1)
theorem sim_tOrC {a b : Expr} {r : List Expr} {pos : Pos} {t u : M Bool} (ha : SimT cl X a t) (hb : ∀ W, Takes X W → PW X (.BoolOp .Or (b :: r) pos) (tM (cs cl X) RlT W u)) :
    ∀ W, Takes X W → PW X (.BoolOp .Or (a :: b :: r) pos) (tM (cs cl X) RlT W (tOr t u)) := fun W tk => PW.imp (pw_or (ha W tk) (hb W tk)) fun σ H Q ⟨F, ρ, S, h⟩ => tM_tif S h fun c F1 H1 ρ1 S1 q => by
  cases c with
  | false => exact iteF ⟨F1, ρ1, S1, q⟩
  | true => exact iteT ((tR_ret q).bool S1)
theorem sim_tW {e : Expr} {t : M Bool} (h : ∀ W, Takes X W → PW X e (tM (cs cl X) RlT W t)) : SimT cl X e t := fun W tk => (h W tk).pt
theorem sim_tNot {a : Expr} {pos : Pos} {t : M Bool} (ha : SimT cl X a t) : SimT cl X (.UnaryOp .Not a pos) (tNot t) := fun W tk => PT.imp (pt_not (ha W tk)) fun σ H Q ⟨F, ρ, S, h⟩ => tM_tif S h fun c F1 H1 ρ1 S1 q => (tR_ret q).bool S1
/-! ### and, or, not, if as values -/
theorem sim_and1 {op : BoolOp} {a : Expr} {pos : Pos} {m : M B} (ha : SimE cl X a m) : SimE cl X (.BoolOp op [a] pos) m := fun W tk => pe_one (ha W tk)
theorem boolV_of {v : V} {d : D} {c : Bool} (h : Vw C F H v d) (e : d.boolV = some c) : v = .bl c := by
  cases d with
  | bl b => cases e; exact h.bl
  | _ => cases e
theorem sim_and {a b : Expr} {r : List Expr} {pos : Pos} {ma mb : M B} (ha : SimE cl X a ma) (hb : SimE cl X (.BoolOp .And (b :: r) pos) mb) : SimE cl X (.BoolOp .And (a :: b :: r) pos) (mAnd ma mb) := fun W tk => PE.imp (pe_and (ha W tk) (hb W tk)) fun σ H Q ⟨F, ρ, S, h⟩ =>
  one_bind S h fun x d F2 H2 ρ2 S2 v q => by
    obtain ⟨c, ec, q⟩ := tR_lift q
    refine ⟨c, boolV_of v ec, ?_⟩
    cases c with
    | true => exact iteT ⟨F2, ρ2, S2, tR_up q⟩
    | false => exact iteF ((tR_ret q).data S2 (.bl _))
theorem sim_or {a b : Expr} {r : List Expr} {pos : Pos} {ma mb : M B} (ha : SimE cl X a ma) (hb : SimE cl X (.BoolOp .Or (b :: r) pos) mb) : SimE cl X (.BoolOp .Or (a :: b :: r) pos) (mOr ma mb) := fun W tk => PE.imp (pe_or (ha W tk) (hb W tk)) fun σ H Q ⟨F, ρ, S, h⟩ =>
  one_bind S h fun x d F2 H2 ρ2 S2 v q => by
    obtain ⟨c, ec, q⟩ := tR_lift q
    refine ⟨c, boolV_of v ec, ?_⟩
    cases c with
    | false => exact iteF ⟨F2, ρ2, S2, tR_up q⟩
    | true => exact iteT ((tR_ret q).data S2 (.bl _))
theorem sim_not {a : Expr} {pos : Pos} {ma : M B} (ha : SimE cl X a ma) : SimE cl X (.UnaryOp .Not a pos) (mNot ma) := fun W tk => PE.imp (pe_not (ha W tk)) fun σ H Q ⟨F, ρ, S, h⟩ =>
  one_bind S h fun x d F2 H2 ρ2 S2 v q => by
    obtain ⟨c, ec, q⟩ := tR_lift q
    exact ⟨c, boolV_of v ec, (tR_ret q).data S2 (.bl _)⟩
theorem sim_if {c a b : Expr} {pos : Pos} {t : M Bool} {ma mb : M B} (hc : SimT cl X c t) (ha : SimE cl X a ma) (hb : SimE cl X b mb) : SimE cl X (.IfExp c a b pos) (mIf t ma mb) := fun W tk => PE.imp (pe_ifExp (hc W tk) (ha W tk) (hb W tk)) fun σ H Q ⟨F, ρ, S, h⟩ =>
  tM_tif S h fun c F1 H1 ρ1 S1 q => by
    cases c with
    | true => exact iteT ⟨F1, ρ1, S1, q⟩
    | false => exact iteF ⟨F1, ρ1, S1, q⟩
/-! ### displays -/
theorem sim_nil : SimA cl X [] mNil := fun W _ => PA.imp pa_nil fun σ H Q ⟨F, ρ, S, h⟩ => tR_ret h [] [] F H Tr.refl S .nil Fp.nil New.nil
theorem sim_cons {e : Expr} {es : List Expr} {m : M B} {ms : M (List B)} (ha : SimE cl X e m) (hr : SimA cl X es ms) (hs : starEach (e :: es) X.env = (false, eval e X.env) :: starEach es X.env) : SimA cl X (e :: es) (mCons m ms) := fun W tk =>
  PA.imp (pa_cons (ha W tk) (hr W tk) hs) fun σ H Q ⟨F, ρ, S, h⟩ => by
    refine tM_bind (R1 := RlB) S h fun x a A F1 H1 ρ1 T1 S1 r1 f1 n1 h1 => ?_
    refine tM_bind (R1 := RlL) S1 h1 fun y b A' F2 H2 ρ2 T2 S2 r2 f2 n2 h2 => ?_
    exact tR_ret h2 _ (A ++ A') F2 H2 Tr.refl S2 (.cons (r1.mono T2.sub fun z m => f1.keep T2 m) r2) (f1.append T2 f2 n2) fun z m => .inr (.inl (by rw [List.nil_append]; exact m))
theorem tR_if {α β : Type} {R : Rl β α} {W : WX} {Q : β → Hp → Prop} {c : Bool} {m : M α} (h : tR C R W A0 F ρ (if c then m else stuck) σ H Q) : c = true ∧ tR C R W A0 F ρ m σ H Q := by
  cases c with
  | true => exact ⟨rfl, h⟩
  | false => exact (tR_stuck (α := α) h)
theorem few_le {bs : List B} (h : few bs = true) : bs.length ≤ sizeLine := by
  have := of_decide_eq_true h
  rw [sizeLine_eq]; omega
theorem sim_tup {es : List Expr} {ms : M (List B)} {x1} {pos : Pos} (h : SimA cl X es ms) : SimE cl X (.Tuple es x1 pos) (mTup ms) := fun W tk => PE.imp (pe_tup (h W tk)) fun σ H Q ⟨F, ρ, S, q⟩ => by
  refine tM_bind (R1 := RlL) S q fun vs bs A F1 H1 ρ1 T1 S1 r1 f1 n1 h1 => ?_
  obtain ⟨hf, h1⟩ := tR_if h1
  refine ⟨by rw [r1.length]; exact few_le hf, fun p hp => ?_⟩
  obtain ⟨ds, F2, ed, nd, S2, rd, sb, h2⟩ := tR_kept S1 r1 f1 h1
  exact (tR_ret h2).tup S2 rd hp
theorem sim_lst {es : List Expr} {ms : M (List B)} {pos : Pos} (h : SimA cl X es ms) : SimE cl X (.List es pos) (mLst ms) := fun W tk => PE.imp (pe_lst (h W tk)) fun σ H Q ⟨F, ρ, S, q⟩ => by
  refine tM_bind (R1 := RlL) S q fun vs bs A F1 H1 ρ1 T1 S1 r1 f1 n1 h1 => ?_
  obtain ⟨hf, h1⟩ := tR_if h1
  refine ⟨by rw [r1.length]; exact few_le hf, fun p hp => ?_⟩
  obtain ⟨ds, F2, ed, nd, S2, rd, sb, h2⟩ := tR_kept S1 r1 f1 h1
  exact (tR_ret h2).lst S2 rd hp
theorem sbBs_rel {vs : List V} {bs : List B} {A : List Addr} {sbs : List SB} (r : RBs C σ F H vs bs A) (e : sbBs bs = some sbs) : RTp C F H vs sbs A := by
  induction r generalizing sbs with
  | nil => cases e; exact .nil
  | cons r t ih =>
    unfold sbBs at e
    split at e
    · rename_i e1 e2
      cases e
      cases r with
      | sh r => cases e1; exact .sh r (ih e2)
      | ow r => cases e1; exact .ow r (ih e2)
      | pl q => cases e1
      | tp q r => cases e1
    · cases e
theorem sim_tp {es : List Expr} {ms : M (List B)} {x1} {pos : Pos} (h : SimA cl X es ms) : SimE cl X (.Tuple es x1 pos) (mTp ms) := fun W tk => PE.imp (pe_tup (h W tk)) fun σ H Q ⟨F, ρ, S, q⟩ => by
  refine tM_bind (R1 := RlL) S q fun vs bs A F1 H1 ρ1 T1 S1 r1 f1 n1 h1 => ?_
  obtain ⟨hf, h1⟩ := tR_if h1
  refine ⟨by rw [r1.length]; exact few_le hf, fun p hp => ?_⟩
  obtain ⟨sbs, es, h2⟩ := tR_lift h1
  have rt := sbBs_rel r1 es
  obtain ⟨S2, T2⟩ := new_sh (o := .tup vs) S1 hp
  exact tR_ret h2 _ A _ _ (T2.hand fun _ z => nomatch z) S2 (.tp (.inl (.inl upd_same)) (rt.mono T2.sub fun a m => f1.keep T2 m)) (f1.tr T2) fun a m => .inr (.inl (by rw [List.nil_append]; exact m))
theorem sim_dic0 {pos : Pos} : SimE cl X (.Dict [] [] pos) mDic0 := fun W _ => PE.imp pe_dnewK fun σ H Q ⟨F, ρ, S, h⟩ p hp => by
  obtain ⟨S1, T1, f, n⟩ := new_own (o := .dK []) S hp
  exact tR_ret h _ [p] _ _ (T1.hand fun _ z => nomatch z) S1 (.ow (.dicS upd_same .nil)) f n
/-! ### subscripts -/
theorem atI_eq {α : Type} (xs : List α) (i : Int) : L2.atI xs i = WF.atI xs i := by
  unfold L2.atI WF.atI ixN
  by_cases h0 : 0 ≤ i
  · rw [if_pos h0, if_pos h0]
    by_cases h1 : i < (xs.length : Int)
    · rw [if_pos h1]; rfl
    · rw [if_neg h1]
      exact (List.getElem?_eq_none (by omega)).symm
  · rw [if_neg h0, if_neg h0]
    by_cases h1 : -(xs.length : Int) ≤ i
    · rw [if_pos h1, if_pos (by omega), Int.add_comm]; rfl
    · rw [if_neg h1, if_neg (by omega)]; rfl
theorem reps_get {F : Hp} : ∀ {xs : List V} {ds : List D}, Reps C F xs ds → ∀ {j : Nat} {d : D}, ds[j]? = some d → ∃ v, xs[j]? = some v ∧ Rep C F v d
  | _, _, .nil, _, _, e => by simp at e
  | _, _, .cons r t, 0, _, e => by simp at e; subst e; exact ⟨_, rfl, r⟩
  | _, _, .cons r t, j + 1, _, e => by
    obtain ⟨v, h1, h2⟩ := reps_get t (j := j) (by simpa using e)
    exact ⟨v, by simpa using h1, h2⟩
theorem reps_at {F : Hp} {xs : List V} {ds : List D} (r : Reps C F xs ds) {i : Int} {d : D} (e : WF.atI ds i = some d) : ∃ v, L2.atI xs i = some v ∧ Rep C F v d := by
  rw [atI_eq]
  have hl := r.length
  unfold WF.atI at e ⊢
  rw [hl]
  split at e
  · rename_i h
    rw [if_pos h]; exact reps_get r e
  · rename_i h
    rw [if_neg h]
    split at e
    · rename_i h1
      rw [if_pos h1]; exact reps_get r e
    · cases e
theorem mkS_get (t : Txt) : (mkS t).cps.toList = t := by simp [mkS]
theorem mkS_one (c : Nat) : (⟨#[c]⟩ : Str) = mkS [c] := rfl
theorem rtp_at {xs : List V} {bs : List SB} {A : List Addr} (r : RTp C F H xs bs A) : ∀ {j : Nat} {b : SB}, bs[j]? = some b → ∃ v, xs[j]? = some v ∧ ((∃ d, b = .sh d ∧ Rep C F v d) ∨ ∃ a o, b = .ow o ∧ v = .ref a ∧ a ∈ A ∧ ROb C F H a o) := by
  induction r with
  | nil => intro j b e; simp at e
  | sh r t ih =>
    intro j b e
    cases j with
    | zero => simp at e; subst e; exact ⟨_, rfl, .inl ⟨_, rfl, r⟩⟩
    | succ j => obtain ⟨v, h1, h2⟩ := ih (j := j) (by simpa using e); exact ⟨v, by simpa using h1, h2⟩
  | ow r t ih =>
    intro j b e
    cases j with
    | zero => simp at e; subst e; exact ⟨_, rfl, .inr ⟨_, _, rfl, rfl, List.mem_cons_self, r⟩⟩
    | succ j =>
      obtain ⟨v, h1, h2⟩ := ih (j := j) (by simpa using e)
      refine ⟨v, by simpa using h1, h2.imp id fun ⟨a, o, e1, e2, m, q⟩ => ⟨a, o, e1, e2, List.mem_cons_of_mem _ m, q⟩⟩
theorem RTp.length {xs : List V} {bs : List SB} {A : List Addr} (r : RTp C F H xs bs A) : xs.length = bs.length := by
  induction r with
  | nil => rfl
  | sh r t ih => simp [ih]
  | ow r t ih => simp [ih]
theorem sim_ix {a b : Expr} {ma mb : M B} {pos : Pos} (hu : Hu X) (ha : SimE cl X a ma) (hb : SimE cl X b mb) (hs : PlainIx b) : SimE cl X (.Subscript a b pos) (mIx ma mb) := fun W tk => ⟨fun pins s σ H Q I ⟨F, ρ, S, h⟩ => by
  refine Subscript_ (thn ((ha W tk).run pins s σ H _ I ⟨F, ρ, S, tR_bind (R1 := RlB) h⟩) fun u s1 ⟨x, H1, I1, rx, ba, A, F1, ρ1, T1, S1, r1, f1, n1, h1⟩ => ?_)
  refine thn ((hb W tk).run pins s1 σ H1 _ I1 ⟨F1, ρ1, S1, tR_bind (R1 := RlB) h1⟩) fun w s2 ⟨y, H2, I2, ry, bb, A', F2, ρ2, T2, S2, r2, f2, n2, h2⟩ => ?_
  have r1' := r1.mono (F' := F2) (H' := H2) T2.sub fun z m => f1.keep T2 m
  have f := f1.append T2 f2 n2
  -- plain data
  have plain : ∀ d e, ba.dat ρ2 = some d → bb.dat ρ2 = some e → tR (cs cl X) RlB W ([] ++ A ++ A') F2 ρ2 (lift (iIx d e)) σ H2 Q → wpAny (model X.prog X.w) X.A (subscriptTail a b u w) (EP X pins σ Q) X.xe s2 := fun d e ed ee h4 => by
    obtain ⟨S3, T3⟩ := share S2 f
    have v := r1'.view S2 (sub_addF f) (fun z m o q => by rw [addF_in (List.mem_append_left _ m)]; exact q) ed
    have v' := r2.view S2 (sub_addF f) (fun z m o q => by rw [addF_in (List.mem_append_right _ m)]; exact q) ee
    obtain ⟨c, ec, q⟩ := tR_end h4
    have q := q.from_ (T3.hand fun a m => by rw [List.nil_append]; exact m) (A1 := []) (fun _ z => nomatch z)
    unfold iIx at ec
    split at ec
    · rename_i xs i
      obtain ⟨d', e1, rfl⟩ := Option.map_eq_some_iff.mp ec
      obtain ⟨p, vs, rfl, g, r⟩ := v.tup
      obtain rfl := v'.int
      obtain ⟨z, e2, rz⟩ := reps_at r e1
      exact ix_seq a b pins s2 σ H2 _ _ u w Q I2 rx ry (.inr (.inl ⟨p, vs, i, z, rfl, rfl, S3.sub.sqT g, e2, q.data S3 rz⟩)) (hs _ _)
    · rename_i xs i
      obtain ⟨d', e1, rfl⟩ := Option.map_eq_some_iff.mp ec
      obtain ⟨p, vs, rfl, g, r⟩ := v.lst S3.sub
      obtain rfl := v'.int
      obtain ⟨z, e2, rz⟩ := reps_at r e1
      exact ix_seq a b pins s2 σ H2 _ _ u w Q I2 rx ry (.inl ⟨p, vs, i, z, rfl, rfl, g, e2, q.data S3 rz⟩) (hs _ _)
    · rename_i t i
      obtain ⟨c', e1, rfl⟩ := Option.map_eq_some_iff.mp ec
      obtain ⟨rfl, o⟩ := v.str
      obtain rfl := v'.int
      have mc : c' ∈ t := by
        unfold WF.atI at e1
        split at e1
        · exact List.mem_of_getElem? e1
        · split at e1
          · exact List.mem_of_getElem? e1
          · cases e1
      refine ix_seq a b pins s2 σ H2 _ _ u w Q I2 rx ry (.inr (.inr ⟨mkS t, i, c', rfl, rfl, by rw [mkS_len, ← lim_eq]; exact o.2, by rw [mkS_get, atI_eq]; exact e1, ?_⟩)) (hs _ _)
      rw [mkS_one]
      exact q.data S3 (.str _ ⟨fun z m => by rw [List.mem_singleton.mp m]; exact o.1 _ mc, by simp [LIM]⟩)
    · rename_i t kvs k
      split at ec
      · rename_i hk
        obtain ⟨d', e1, rfl⟩ := Option.map_eq_some_iff.mp ec
        have g := dic_get hu I2 S3.sub (Q := EP X pins σ Q) (E := X.xe) rx ry v v' hk e1 fun z u' s' I' rz rp => ⟨z, H2, I', rz, q.data S3 rp⟩
        exact tail_any g.1 PySem.F.slot_dict_getitem.lookup g.2 (hs _ _)
      · cases ec
    · cases ec
  have other : tR (cs cl X) RlB W ([] ++ A ++ A') F2 ρ2 (bind (dat ba) fun d => bind (dat bb) fun e => lift (iIx d e)) σ H2 Q → wpAny (model X.prog X.w) X.A (subscriptTail a b u w) (EP X pins σ Q) X.xe s2 := fun h2 => by
    obtain ⟨d, ed, h3⟩ := tR_dat h2
    obtain ⟨e, ee, h4⟩ := tR_dat h3
    exact plain d e ed ee h4
  cases ba with
  | sh d => exact other h2
  | ow o => exact other h2
  | pl i => exact other h2
  | tp bs =>
    obtain ⟨e, ee, h3⟩ := tR_dat h2
    cases e <;> first | exact tR_stuck h3 | skip
    rename_i j
    cases r1' with
    | @tp p xs _ _ g r =>
        have ry' : Rep (cs cl X) H2 y (.int j) := r2.dat S2 ee
        cases ry'
        have go : ∀ (z : V) (q : Q z H2), L2.atI xs j = some z → wpAny (model X.prog X.w) X.A (subscriptTail a b u w) (EP X pins σ Q) X.xe s2 := fun z q e => ix_seq a b pins s2 σ H2 _ _ u w Q I2 rx ry (.inr (.inl ⟨p, xs, j, z, rfl, rfl, S2.sub.sqT g, e, q⟩)) (hs _ _)
        have at_ : ∀ (c : SB), WF.atI bs j = some c → ∃ v, L2.atI xs j = some v ∧ ((∃ d, c = .sh d ∧ Rep (cs cl X) F2 v d) ∨ ∃ a o, c = .ow o ∧ v = .ref a ∧ a ∈ A ∧ ROb (cs cl X) F2 H2 a o) := fun c ec => by
          rw [atI_eq]
          have hl := r.length
          unfold WF.atI at ec ⊢
          rw [hl]
          split at ec
          · rename_i h0
            rw [if_pos h0]; exact rtp_at r ec
          · rename_i h0
            rw [if_neg h0]
            split at ec
            · rename_i h1'
              rw [if_pos h1']; exact rtp_at r ec
            · cases ec
        cases ec : WF.atI bs j with
        | none =>
          have h3 : tR (cs cl X) RlB W ([] ++ A ++ A') F2 ρ2 (match WF.atI bs j with | some (.sh d) => ret (.sh d) | some (.ow o) => ret (.ow o) | _ => stuck) σ H2 Q := h3
          rw [ec] at h3
          exact tR_stuck h3
        | some c =>
          have h3 : tR (cs cl X) RlB W ([] ++ A ++ A') F2 ρ2 (match WF.atI bs j with | some (.sh d) => ret (.sh d) | some (.ow o) => ret (.ow o) | _ => stuck) σ H2 Q := h3
          rw [ec] at h3
          obtain ⟨v, e1, q⟩ := at_ _ ec
          rcases q with ⟨d', rfl, rd⟩ | ⟨a', o', rfl, rfl, m, ro⟩
          · exact go v ((tR_ret h3).data S2 rd) e1
          · refine go _ (tR_ret h3 _ [a'] F2 H2 Tr.refl S2 (.ow ro) ⟨by simp, fun z mz => ?_, fun z mz => ?_, fun z mz => ?_⟩ fun z mz => ?_) e1
            · rw [List.mem_singleton.mp mz]; exact f.left.nf _ m
            · rw [List.mem_singleton.mp mz]; exact f.left.no _ m
            · rw [List.mem_singleton.mp mz]; exact f.left.th _ m
            · rw [List.mem_singleton.mp mz]; exact .inr (.inl (List.mem_append_left _ (List.mem_append_right _ m)))⟩
end
end WF

set_option Elab.async false
set_option linter.all false
set_option maxRecDepth 100000
set_option maxHeartbeats 4000000
/-! WFI: slices, chains, built-in functions and methods, a display of one pair. -/
namespace WF
open PySem PySem.Spec PyProof.Rows L2

section
variable {cl : Nat → Addr} {X : Cx} {C : Cs} {σ : St} {F H : Hp} {ρ : Env} {A A0 : List Addr}
/-! ### slices -/
theorem reps_take {F : Hp} : ∀ {xs : List V} {ds : List D} (n : Nat), Reps C F xs ds → Reps C F (xs.take n) (ds.take n)
  | _, _, 0, _ => .nil
  | _, _, _ + 1, .nil => .nil
  | _, _, n + 1, .cons r t => .cons r (reps_take n t)
theorem reps_drop {F : Hp} : ∀ {xs : List V} {ds : List D} (n : Nat), Reps C F xs ds → Reps C F (xs.drop n) (ds.drop n)
  | _, _, 0, r => r
  | _, _, _ + 1, .nil => .nil
  | _, _, n + 1, .cons _ t => reps_drop n t
theorem reps_rev {F : Hp} : ∀ {xs : List V} {ds : List D}, Reps C F xs ds → Reps C F xs.reverse ds.reverse
  | _, _, .nil => .nil
  | _, _, .cons r t => by
    rw [List.reverse_cons, List.reverse_cons]
    exact (reps_rev t).append (.cons r .nil)
abbrev RlO : Rl (Option Int) (Option Int) := ⟨fun _ _ _ _ v b A => v = b ∧ A = []⟩
/-- the part of a slice: not written, or an int -/
inductive SimO (cl : Nat → Addr) (X : Cx) : Option Expr → Option (M B) → Prop
  | none : SimO cl X none none
  | some {e : Expr} {m : M B} : SimE cl X e m → SimO cl X (some e) (some m)
theorem SimO.po {e : Option Expr} {m : Option (M B)} (h : SimO cl X e m) {W : WX} (tk : Takes X W) : PO X e (tM (cs cl X) RlO W (mEnd m)) := by
  cases h with
  | none => exact ⟨fun pins s σ H Q I ⟨F, ρ, S, h⟩ => po_none.run pins s σ H Q I (tR_ret h Option.none [] F H Tr.refl S ⟨rfl, rfl⟩ Fp.nil New.nil)⟩
  | some ha => exact ⟨fun pins s σ H Q I ⟨F, ρ, S, h⟩ => (po_some (ha W tk)).run pins s σ H Q I (one_bind S h fun x d F2 H2 ρ2 S2 v q => by
      cases d with
      | int i => exact ⟨i, v.int, tR_ret q (Option.some i) [] F2 H2 Tr.refl S2 ⟨rfl, rfl⟩ Fp.nil New.nil⟩
      | _ => exact tR_stuck q)⟩
def rSlD (K : PySem.W.Frag) : V → Option Int → Option Int → Hp → VK → Prop := fun x lo hi H Q => rSlL K x lo hi H Q ∨ rSlA K x lo hi H Q ∨ rSlS x lo hi H Q
theorem sl_D : SlR X (rSlD X.K) := sl_list.or (sl_tupA.or sl_str)
theorem six_eq (n d : Nat) (o : Option Int) : HT.sIx n d o = endI n d o := by cases o <;> rfl
theorem okT_cut {t : Txt} (o : okT t) (a b : Nat) : okT (cutL t a b) := by
  unfold cutL
  refine ⟨fun c m => o.1 c (List.mem_of_mem_drop (List.mem_of_mem_take m)), ?_⟩
  rw [List.length_take, List.length_drop]
  have := o.2
  omega
theorem cutL_all {α : Type} (xs : List α) : cutL xs 0 xs.length = xs := by
  unfold cutL
  simp
/-- what the rules of slices want, from the mirror -/
theorem sl_fin {x : V} {d : D} {lo hi : Option Int} {b : B} {Q : VK} (S : Stt C F H σ ρ) (v : Vw C F H x d) (e : iSl d lo hi = some b) (q : Fin C RlB A0 F ρ σ H Q b) : rSlD C.K x lo hi H Q := by
  unfold iSl at e
  split at e
  · rename_i xs
    cases e
    obtain ⟨p, vs, rfl, g, r⟩ := v.tup
    have hl := r.length
    refine .inr (.inl ⟨p, vs, rfl, S.sub.sqT g, fun w => ?_, fun w p' hp => ?_⟩)
    · rw [six_eq, six_eq, hl] at w
      rw [w.1, w.2, cutL_all] at q
      exact q.data S (.tup g r)
    · have := q.tup S (reps_take (endI xs.length xs.length hi - endI xs.length 0 lo) (reps_drop (endI xs.length 0 lo) r)) hp
      unfold cutV
      rw [six_eq, six_eq, hl]
      exact this
  · rename_i xs
    cases e
    obtain ⟨p, vs, rfl, g, r⟩ := v.lst S.sub
    have hl := r.length
    refine .inl ⟨p, vs, rfl, g, fun p' hp => ?_⟩
    have := q.lst S (reps_take (endI xs.length xs.length hi - endI xs.length 0 lo) (reps_drop (endI xs.length 0 lo) r)) hp
    unfold cutV
    rw [six_eq, six_eq, hl]
    exact this
  · rename_i xs
    cases e
    obtain ⟨rfl, o⟩ := v.str
    refine .inr (.inr ⟨mkS xs, rfl, by rw [mkS_len, ← lim_eq]; exact o.2, ?_⟩)
    have e1 : cutS (mkS xs) lo hi = mkS (cutL xs (endI xs.length 0 lo) (endI xs.length xs.length hi)) := by
      unfold cutS
      rw [six_eq, six_eq, mkS_get, mkS_len]; rfl
    rw [e1]
    exact q.data S (.str _ (okT_cut o _ _))
  · cases e
theorem sim_sl {a : Expr} {lo hi : Option Expr} {ma : M B} {ml mh : Option (M B)} {p2 pos : Pos} (ha : SimE cl X a ma) (hl : SimO cl X lo ml) (hh : SimO cl X hi mh) : SimE cl X (.Subscript a (.Slice lo hi none p2) pos) (mSl ma ml mh) := fun W tk =>
  PE.imp (pe_slice sl_D (ha W tk) (hl.po tk) (hh.po tk)) fun σ H Q ⟨F, ρ, S, h⟩ => by
    refine tM_bind (R1 := RlB) S h fun x a A F1 H1 ρ1 T1 S1 r1 f1 n1 h1 => ?_
    refine tM_bind (R1 := RlO) S1 h1 fun y l A2 F2 H2 ρ2 T2 S2 r2 f2 n2 h2 => ?_
    refine tM_bind (R1 := RlO) S2 h2 fun z u A3 F3 H3 ρ3 T3 S3 r3 f3 n3 h3 => ?_
    obtain ⟨rfl, rfl⟩ := r2
    obtain ⟨rfl, rfl⟩ := r3
    obtain ⟨d, ed, h4⟩ := tR_dat h3
    obtain ⟨b, eb, q⟩ := tR_end h4
    have r1' := (r1.mono (F' := F2) (H' := H2) T2.sub fun z m => f1.keep T2 m).mono (F' := F3) (H' := H3) T3.sub fun z m => (f1.tr T2).keep T3 m
    have f := (f1.tr T2).tr T3
    obtain ⟨S4, T4⟩ := share S3 f
    have v := r1'.view S3 (sub_addF f) (fun z m o q => by rw [addF_in m]; exact q) ed
    exact sl_fin S4 v eb (q.from_ (T4.hand fun a m => by simpa using m) (A1 := []) (fun _ z => nomatch z))
/-! ### a <= b <= c -/
theorem le_fin {x y : V} {d e : D} {b : B} (v : Vw C F H x d) (w : Vw C F H y e) (h : iLe d e = some b) : ∃ i j, x = .int i ∧ y = .int j ∧ d = .int i ∧ e = .int j ∧ b = boo (decide (i ≤ j)) := by
  unfold iLe at h
  split at h <;> cases h
  exact ⟨_, _, v.int, w.int, rfl, rfl, rfl⟩
theorem lele_core {ma mb mc : M B} {W : WX} {Q : VK} (h : tM C RlB W (mLeLe ma mb mc) σ H Q) : tChain (rI0 fun i j => .bl (decide (i ≤ j))) (rI0 fun i j => .bl (decide (i ≤ j))) (tM C RlB W ma) (tM C RlB W mb) (tM C RlB W mc) σ H Q := by
    obtain ⟨F, ρ, S, h⟩ := h
    refine two_bind S h fun x y d e F2 H2 ρ2 S2 v w q => ?_
    obtain ⟨r, er, q⟩ := tR_lift q
    obtain ⟨i, j, rfl, rfl, rfl, rfl, rfl⟩ := le_fin v w er
    refine ⟨i, j, rfl, rfl, decide (i ≤ j), rfl, ?_⟩
    cases hij : decide (i ≤ j) with
    | true =>
      rw [hij] at q
      refine iteT (one_bind S2 (tR_up q) fun z g F3 H3 ρ3 S3 v3 q3 => ?_)
      obtain ⟨b, eb, q3⟩ := tR_end q3
      obtain ⟨i', j', e1, rfl, e2, rfl, rfl⟩ := le_fin (F := F3) (H := H3) (x := .int j) (.sc (.int j)) v3 eb
      cases e1
      exact ⟨_, _, rfl, rfl, q3.data S3 (.bl _)⟩
    | false =>
      rw [hij] at q
      exact iteF ((tR_ret q).data S2 (.bl _))
theorem sim_lele {a b c : Expr} {ma mb mc : M B} {pos : Pos} (ha : SimE cl X a ma) (hb : SimE cl X b mb) (hc : SimE cl X c mc) : SimE cl X (.Compare a [.LtE, .LtE] [b, c] pos) (mLeLe ma mb mc) := fun W tk =>
  PE.imp (pe_chain op_le op_le (ha W tk) (hb W tk) (hc W tk) (hm := by show behindInMarks .LtE c = false; exact nomark c)) fun σ H Q h => lele_core h
theorem onlyB_lele {ma mb mc : M B} : OnlyB (mLeLe ma mb mc) := fun ρ b ρ' h => by
  obtain ⟨_, _, _, h⟩ := bind_ok h
  obtain ⟨_, _, _, h⟩ := bind_ok h
  obtain ⟨_, _, _, h⟩ := bind_ok h
  obtain ⟨_, _, _, h⟩ := bind_ok h
  obtain ⟨_, _, _, h⟩ := bind_ok h
  split at h
  · obtain ⟨_, _, _, h⟩ := bind_ok h
    obtain ⟨_, _, _, h⟩ := bind_ok h
    have h := lift_ok h
    unfold iLe at h
    split at h <;> cases h
    exact ⟨_, rfl⟩
  · cases h; exact ⟨_, rfl⟩
  · cases h
/-- a truth value as a test -/
theorem test_of {m : M B} {W : WX} {Q : Bool → Hp → Prop} (ob : OnlyB m) (h : tM C RlT W (tV m) σ H Q) : tM C RlB W m σ H fun x H1 => ∃ k, x = .bl k ∧ Q k H1 := by
  obtain ⟨F, ρ, S, r, ρ', e, q⟩ := h
  unfold tV bind at e
  split at e
  · cases e
  · rename_i c p ρ1 em
    cases e
    exact ⟨F, ρ, S, _, _, em, q⟩
  · rename_i b ρ1 em
    obtain ⟨c, rfl⟩ := ob _ _ _ em
    cases e
    refine ⟨F, ρ, S, _, _, em, fun v A F' H' T' S' rl fp nw => ?_⟩
    cases rl with
    | sh rl => cases rl; exact ⟨c, rfl, q c [] F' H' T' S' ⟨rfl, rfl⟩ Fp.nil New.nil⟩
theorem sim_leleT {a b c : Expr} {ma mb mc : M B} {pos : Pos} (ha : SimE cl X a ma) (hb : SimE cl X b mb) (hc : SimE cl X c mc) : SimT cl X (.Compare a [.LtE, .LtE] [b, c] pos) (tV (mLeLe ma mb mc)) := fun W tk =>
  PT.imp (pt_chain op_le op_le (ha W tk) (hb W tk) (hc W tk) (hm := by show behindInMarks .LtE c = false; exact nomark c)) fun σ H Q h => lele_core (test_of onlyB_lele h)
/-! ### built-ins of one value -/
def Od1 (C : Cs) (r : List V → Hp → VK → Prop) (f : D → Option B) : Prop := ∀ {σ : St} {F H : Hp} {ρ : Env} {A0 : List Addr} {x : V} {d : D} {b : B} {Q : VK}, Stt C F H σ ρ → Vw C F H x d → f d = some b → Fin C RlB A0 F ρ σ H Q b → r [x] H Q
theorem tM_un {r : List V → Hp → VK → Prop} {f : D → Option B} {m : M B} {W : WX} {Q : VK} (o : Od1 C r f) (h : tM C RlB W (mUn f m) σ H Q) : tCB r (tCons (tM C RlB W m) tNil) σ H Q := by
  obtain ⟨F, ρ, S, h⟩ := h
  exact one_bind S h fun x d F2 H2 ρ2 S2 v q => let ⟨b, eb, q⟩ := tR_end q; o S2 v eb q
theorem sim_b1 {x : Str} {id : String} {e : Expr} {p pos : Pos} {r : List V → Hp → VK → Prop} {f : D → Option B} {m : M B} (hc : CallR X (.builtin id) r) (o : Od1 (cs cl X) r f) (hg : Gl X x) (hm : X.mg x = none) (hv : bootBuiltins x = some (.builtin id))
    (ha : SimE cl X e m) (hn : x ≠ "__name__") (hdb : (x == ("__debug__" : Str)) = false) (he : starEach [e] X.env = (false, eval e X.env) :: starEach [] X.env) : SimE cl X (.Call (.Name x p) [e] [] pos) (mUn f m) :=
  fun W tk => PE.imp (pe_callB hc hg hm hv (pa_cons (ha W tk) pa_nil he) hn hdb he rfl) fun σ H Q h => tM_un o h
theorem sim_c1 {x : Str} {T : String} {e : Expr} {p pos : Pos} {r : List V → Hp → VK → Prop} {f : D → Option B} {m : M B} (hc : CallR X (.type T) r) (o : Od1 (cs cl X) r f) (hg : Gl X x) (hm : X.mg x = none) (hv : bootBuiltins x = some (.type T))
    (ha : SimE cl X e m) (hn : x ≠ "__name__") (hdb : (x == ("__debug__" : Str)) = false) (he : starEach [e] X.env = (false, eval e X.env) :: starEach [] X.env) : SimE cl X (.Call (.Name x p) [e] [] pos) (mUn f m) :=
  fun W tk => PE.imp (pe_callTy hc hg hm hv (pa_cons (ha W tk) pa_nil he) hn hdb he rfl) fun σ H Q h => tM_un o h
/-! len -/
theorem call_lenT : CallR X (.builtin "len") (fun xs H Q => ∃ (a : Addr) (F : Hp) (zs : List XT) (kvs : List (D × D)), xs = [.ref a] ∧ H a = some (dkT (cs cl X) a zs) ∧ RepT (cs cl X) F zs kvs ∧ Sub F H ∧ Q (.int zs.length) H) := by
  intro pins s σ H xs us Q I r h
  obtain ⟨a, F, zs, kvs, rfl, e, rt, sb, q⟩ := h
  obtain ⟨u, rfl, rx⟩ := vals1 r
  cases rx
  obtain ⟨ys, rel, dd, hz, hd, _⟩ := dk_at I e rt sb
  have hm : s.heap.DictKeyed (nestedKind X.prog X.w) a (pairsH ys) := ⟨ys, dd, rfl⟩
  have hl : (pairsH ys).length = zs.length := by
    rw [pairsH_length]
    have := congrArg List.length (relT_fst rel)
    simpa using this
  have hs : sizeLine = 16777216 := sizeLine_eq
  refine PyProof.Rows.call_len_slot (n := zs.length) hm.typeIs PySem.F.slot_dict_len (fun Q' hq => len_keyed hd hm ?_) (by omega) (by omega) ?_
  · rw [hl]; exact hq
  · exact ⟨.int zs.length, H, I.tok _, ⟨_, rfl⟩, q⟩
theorem CallR.or {f : Value} {r r' : List V → Hp → VK → Prop} (h : CallR X f r) (h' : CallR X f r') : CallR X f (fun xs H Q => r xs H Q ∨ r' xs H Q) := by
  intro pins s σ H xs us Q I rr q
  rcases q with q | q
  · exact h pins s σ H xs us Q I rr q
  · exact h' pins s σ H xs us Q I rr q

def rLen (cl : Nat → Addr) (X : Cx) : List V → Hp → VK → Prop := fun xs H Q => (∃ x n, xs = [x] ∧ LenV X.K x H n ∧ Q (.int n) H) ∨ (∃ a kvs, xs = [V.ref a] ∧ H a = some (.dK kvs) ∧ Q (.int kvs.length) H) ∨
  ∃ (a : Addr) (F : Hp) (zs : List XT) (kvs : List (D × D)), xs = [.ref a] ∧ H a = some (dkT (cs cl X) a zs) ∧ RepT (cs cl X) F zs kvs ∧ Sub F H ∧ Q (.int zs.length) H
theorem call_lenA : CallR X (.builtin "len") (rLen cl X) := call_len.or (call_lenD.or call_lenT)
theorem od_len : Od1 (cs cl X) (rLen cl X) iLen := by
  intro σ F H ρ A0 x d b Q S v e q
  unfold iLen dLen at e
  obtain ⟨n, e, rfl⟩ := Option.map_eq_some_iff.mp e
  split at e
  · cases e
    obtain ⟨a, xs, rfl, g, r⟩ := v.tup
    exact .inl ⟨_, _, rfl, .inr ⟨xs, S.sub.sqT g, r.length.symm⟩, q.data S (.int _)⟩
  · cases e
    obtain ⟨a, xs, rfl, g, r⟩ := v.lst S.sub
    exact .inl ⟨_, _, rfl, .inl ⟨xs, g, r.length.symm⟩, q.data S (.int _)⟩
  · cases e
    obtain ⟨rfl, o⟩ := v.str
    exact .inl ⟨_, _, rfl, ⟨by rw [mkS_len, ← lim_eq]; exact o.2, (mkS_len _).symm⟩, q.data S (.int _)⟩
  · rename_i t kvs _
    cases e
    cases t with
    | false =>
      obtain ⟨a, xs, rfl, g, r⟩ := v.dicS S.sub
      refine .inr (.inl ⟨a, xs, rfl, g, ?_⟩)
      rw [r.length]
      exact q.data S (.int _)
    | true =>
      obtain ⟨a, xs, rfl, g, r⟩ := v.dicT S.sub
      refine .inr (.inr ⟨a, F, xs, kvs, rfl, g, r, S.sub, ?_⟩)
      rw [r.length]
      exact q.data S (.int _)
  · cases e
/-- a built-in's name: free in the text -/
structure Bn (X : Cx) (x : Str) : Prop where
  gl : Gl X x
  mg : X.mg x = none
theorem sim_len {e : Expr} {p pos : Pos} {m : M B} (b : Bn X "len") (ha : SimE cl X e m) (he : starEach [e] X.env = (false, eval e X.env) :: starEach [] X.env) : SimE cl X (.Call (.Name "len" p) [e] [] pos) (mLen m) :=
  sim_b1 call_lenA od_len b.gl b.mg boot_len ha (by decide) (by decide) he
theorem od_int1 : Od1 C (fun xs H Q => (∃ i, xs = [.int i] ∧ Q (.int i) H) ∨ ∃ k, xs = [.bl k] ∧ Q (.int (if k then 1 else 0)) H) iInt := by
  intro σ F H ρ A0 x d b Q S v e q
  unfold iInt at e
  split at e
  · cases e
    exact .inl ⟨_, by rw [v.int], q.data S (.int _)⟩
  · cases e
    exact .inr ⟨_, by rw [v.bl], q.data S (.int _)⟩
  · cases e
theorem sim_int1 {e : Expr} {p pos : Pos} {m : M B} (b : Bn X "int") (ha : SimE cl X e m) (he : starEach [e] X.env = (false, eval e X.env) :: starEach [] X.env) : SimE cl X (.Call (.Name "int" p) [e] [] pos) (mInt m) :=
  sim_c1 call_int1 od_int1 b.gl b.mg (by decide +kernel) ha (by decide) (by decide) he
def rTupO (K : PySem.W.Frag) : List V → Hp → VK → Prop := fun xs H Q => ∃ p ys, xs = [.ref p] ∧ ((SqL K H p ys ∧ ∀ l, H l = none → Q (.ref l) (upd H l (.tup ys))) ∨ (SqT K H p ys ∧ Q (.ref p) H))
theorem od_tuple : Od1 C (rTupO C.K) iTuple := by
  intro σ F H ρ A0 x d b Q S v e q
  unfold iTuple at e
  split at e
  · cases e
    obtain ⟨a, xs, rfl, g, r⟩ := v.tup
    exact ⟨a, xs, rfl, .inr ⟨S.sub.sqT g, q.data S (.tup g r)⟩⟩
  · cases e
    obtain ⟨a, xs, rfl, g, r⟩ := v.lst S.sub
    exact ⟨a, xs, rfl, .inl ⟨g, fun l hl => q.tup S r hl⟩⟩
  · cases e
theorem sim_tuple {e : Expr} {p pos : Pos} {m : M B} (b : Bn X "tuple") (ha : SimE cl X e m) (he : starEach [e] X.env = (false, eval e X.env) :: starEach [] X.env) : SimE cl X (.Call (.Name "tuple" p) [e] [] pos) (mTuple m) :=
  sim_c1 call_tuple_of od_tuple b.gl b.mg (by decide +kernel) ha (by decide) (by decide) he
theorem bools_of {F : Hp} : ∀ {xs : List V} {ds : List D}, Reps C F xs ds → ∀ {bs : List Bool}, bools ds = some bs → xs = bs.map V.bl
  | _, _, .nil, bs, e => by cases e; rfl
  | _, d :: ds, .cons r t, bs, e => by
    cases d with
    | bl b =>
      obtain ⟨cs, e1, rfl⟩ := Option.map_eq_some_iff.mp (show (bools ds).map (fun bs => b :: bs) = some bs from e)
      cases r
      rw [bools_of t e1]; rfl
    | _ => cases e
theorem od_all : Od1 C (rAll C.K) iAll := by
  intro σ F H ρ A0 x d b Q S v e q
  unfold iAll at e
  split at e
  · obtain ⟨bs, e', rfl⟩ := Option.map_eq_some_iff.mp e
    obtain ⟨a, xs, rfl, g, r⟩ := v.lst S.sub
    have := bools_of r e'
    subst this
    exact ⟨a, bs, rfl, g, q.data S (.bl _)⟩
  · cases e
theorem od_any : Od1 C (rAny C.K) iAny := by
  intro σ F H ρ A0 x d b Q S v e q
  unfold iAny at e
  split at e
  · obtain ⟨bs, e', rfl⟩ := Option.map_eq_some_iff.mp e
    obtain ⟨a, xs, rfl, g, r⟩ := v.lst S.sub
    have := bools_of r e'
    subst this
    exact ⟨a, bs, rfl, g, q.data S (.bl _)⟩
  · cases e
theorem sim_all {e : Expr} {p pos : Pos} {m : M B} (b : Bn X "all") (hc : X.calm = true) (ha : SimE cl X e m) (he : starEach [e] X.env = (false, eval e X.env) :: starEach [] X.env) : SimE cl X (.Call (.Name "all" p) [e] [] pos) (mAll m) :=
  sim_b1 (cr_all hc) od_all b.gl b.mg (by decide +kernel) ha (by decide) (by decide) he
theorem sim_any {e : Expr} {p pos : Pos} {m : M B} (b : Bn X "any") (hc : X.calm = true) (ha : SimE cl X e m) (he : starEach [e] X.env = (false, eval e X.env) :: starEach [] X.env) : SimE cl X (.Call (.Name "any" p) [e] [] pos) (mAny m) :=
  sim_b1 (cr_any hc) od_any b.gl b.mg (by decide +kernel) ha (by decide) (by decide) he
/-! isinstance -/
def tyN : Ty → String | .bool => "bool" | .int => "int" | .str => "str" | .tuple => "tuple" | .list => "list"
theorem tyx_of {v : V} {d : D} (S : Sub F H) (h : Vw C F H v d) (n : ∀ t kvs, d ≠ .dic t kvs) : ∃ T : String, TyX C.K H v (.type T) ∧ ∀ t, PySem.W.kitOne C.K (.type T) (.type (tyN t)) = some (isA d t) := by
  cases d with
  | non => rw [h.non]; exact ⟨_, .base .non, fun t => by cases t <;> (simp only [isA, tyN]; exact kit_ty (by decide +kernel))⟩
  | bl b => rw [h.bl]; exact ⟨_, .base (.bl b), fun t => by cases t <;> (simp only [isA, tyN]; exact kit_ty (by decide +kernel))⟩
  | int i => rw [h.int]; exact ⟨_, .base (.int i), fun t => by cases t <;> (simp only [isA, tyN]; exact kit_ty (by decide +kernel))⟩
  | str s => rw [h.str.1]; exact ⟨_, .base (.str _), fun t => by cases t <;> (simp only [isA, tyN]; exact kit_ty (by decide +kernel))⟩
  | tup xs =>
    obtain ⟨a, vs, rfl, q, r⟩ := h.tup
    refine ⟨"tuple", ?_, fun t => by cases t <;> (simp only [isA, tyN]; exact kit_ty (by decide +kernel))⟩
    rcases S.sqT q with (q | ⟨o, q⟩) | ⟨o, its, n, e, c, _⟩
    · exact .base (.tup q)
    · exact .fTuple q
    · exact .kTuple e c
  | lst xs =>
    obtain ⟨a, vs, rfl, q, r⟩ := h.lst S
    refine ⟨"list", ?_, fun t => by cases t <;> (simp only [isA, tyN]; exact kit_ty (by decide +kernel))⟩
    rcases q with (q | ⟨o, q⟩) | ⟨o, its, n, e, c, _⟩
    · exact .base (.lst q)
    · exact .base (.frz q)
    · exact .kList e c
  | dic t kvs => exact absurd rfl (n t kvs)
theorem sim_isA {e : Expr} {p p2 pos : Pos} {m : M B} (t : Ty) {tn : Str} (htn : tn = Str.ofString (tyN t)) (b : Bn X "isinstance") (bt : Bn X tn) (hv : bootBuiltins tn = some (.type (tyN t))) (hn : tn ≠ "__name__") (hdb : (tn == ("__debug__" : Str)) = false) (ha : SimE cl X e m)
    (he : starEach [e, .Name tn p2] X.env = (false, eval e X.env) :: starEach [.Name tn p2] X.env) (he2 : starEach [.Name tn p2] X.env = (false, eval (.Name tn p2) X.env) :: starEach [] X.env) (hpl : (backTo pos (starEach [.Name tn p2] X.env)).any (·.1) = false) : SimE cl X (.Call (.Name "isinstance" p) [e, .Name tn p2] [] pos) (mIsA t m) :=
  fun W tk => PE.imp (pe_callB call_isi b.gl b.mg (by decide +kernel) (pa_cons (ha W tk) (pa_cons (pe_bltn (v := .ty (tyN t)) bt.gl bt.mg hv rfl hn hdb) pa_nil he2) he) (by decide) (by decide) he hpl) fun σ H Q ⟨F, ρ, S, h⟩ => by
    refine one_bind S h fun x d F2 H2 ρ2 S2 v q => ?_
    obtain ⟨c, ec, q⟩ := tR_end q
    have n : ∀ t kvs, d ≠ .dic t kvs := fun t' kvs z => by subst z; cases ec
    have ec' : c = boo (isA d t) := by
      cases d with
      | dic t' kvs => cases ec
      | _ => cases ec; rfl
    subst ec'
    obtain ⟨T, ty, k⟩ := tyx_of S2.sub v n
    exact ⟨x, .ty (tyN t), .type T, .type (tyN t), isA d t, rfl, .ty _, ty, k t, q.data S2 (.bl _)⟩
end
end WF

set_option Elab.async false
set_option linter.all false
set_option maxRecDepth 100000
set_option maxHeartbeats 4000000
/-! WFJ: statements. -/
namespace WF
open PySem PySem.Spec PyProof.Rows L2

/-- what is wanted behind a statement, from the state F ρ with A0 in hand -/
def tSR (C : Cs) (W : WX) (A0 : List Addr) (F : Hp) (ρ : Env) (m : S) (D : Ends) (σ : St) (H : Hp) : Prop := ∃ r ρ', m ρ = some (r, ρ') ∧
  match r with
  | .ok .nx => ∀ σ' F' H', Tr A0 σ F H ρ σ' F' H' ρ' → Stt C F' H' σ' ρ' → D.nx σ' H'
  | .ok .bk => ∀ σ' F' H', Tr A0 σ F H ρ σ' F' H' ρ' → Stt C F' H' σ' ρ' → D.bk σ' H'
  | .ok .ct => ∀ σ' F' H', Tr A0 σ F H ρ σ' F' H' ρ' → Stt C F' H' σ' ρ' → D.ct σ' H'
  | .ok (.rt b) => ∀ v A σ' F' H', Tr A0 σ F H ρ σ' F' H' ρ' → Stt C F' H' σ' ρ' → noPl b = true → RB C σ' F' H' v b A → Fp σ' F' H' ρ' A → New A0 σ H ρ A → D.rt v H'
  | .exc c p => ∀ cls d σ' F' H', Tr A0 σ F H ρ σ' F' H' ρ' → Stt C F' H' σ' ρ' → REx C F' c p cls d H' → W cls d σ' H'
def tS (C : Cs) (W : WX) (m : S) : TS := fun D σ H => ∃ F ρ, Stt C F H σ ρ ∧ tSR C W [] F ρ m D σ H
section
variable {C : Cs} {W : WX} {A0 A1 : List Addr} {F F1 H H1 : Hp} {ρ ρ1 : Env} {σ σ1 : St} {D : Ends} {m : S}
/-- the same from a later state -/
theorem tSR_from (T : Tr A0 σ F H ρ σ1 F1 H1 ρ1) (n : New A0 σ H ρ A1) (e : m ρ = m ρ1) (h : tSR C W A0 F ρ m D σ H) : tSR C W A1 F1 ρ1 m D σ1 H1 := by
  obtain ⟨r, ρ', e', h⟩ := h
  have up : ∀ {x : Addr}, x ∈ A1 → x ∈ A0 ++ A1 := fun z => List.mem_append_right _ z
  refine ⟨r, ρ', e ▸ e', ?_⟩
  cases r with
  | ok f =>
    cases f with
    | nx => exact fun σ' F' H' T' S => h σ' F' H' (T.trans n (T'.hand fun _ => up)) S
    | bk => exact fun σ' F' H' T' S => h σ' F' H' (T.trans n (T'.hand fun _ => up)) S
    | ct => exact fun σ' F' H' T' S => h σ' F' H' (T.trans n (T'.hand fun _ => up)) S
    | rt b => exact fun v A σ' F' H' T' S np rl fp nw => h v A σ' F' H' (T.trans n (T'.hand fun _ => up)) S np rl fp (New.trans T n fun x z => (nw x z).imp id fun q => q.imp up id)
  | exc c p => exact fun cls d σ' F' H' T' S x => h cls d σ' F' H' (T.trans n (T'.hand fun _ => up)) S x
theorem tSR_up (h : tSR C W A0 F ρ m D σ H) : tSR C W [] F ρ m D σ H := tSR_from Tr.refl (fun _ z => nomatch z) rfl h
theorem tSR_stuck {P : Prop} (h : tSR C W A0 F ρ (stuck : S) D σ H) : P := by
  obtain ⟨r, ρ', e, h⟩ := h
  cases e
/-- through an expression -/
theorem tSR_bind {α β : Type} {R : Rl β α} {e : M α} {k : α → S} {P : β → Hp → Prop} (S0 : Stt C F H σ ρ) (h : tSR C W A0 F ρ (bind e k) D σ H)
    (i : ∀ v a A F1 H1 ρ1, Tr [] σ F H ρ σ F1 H1 ρ1 → Stt C F1 H1 σ ρ1 → R.rel C σ F1 H1 v a A → Fp σ F1 H1 ρ1 A → New [] σ H ρ A → tSR C W (A0 ++ A) F1 ρ1 (k a) D σ H1 → P v H1) : tM C R W e σ H P := by
  obtain ⟨r, ρ', e', h⟩ := h
  have up : ∀ {A : List Addr}, New [] σ H ρ A → New A0 σ H ρ A := fun n a z => (n a z).imp id fun q => q.elim (fun q => nomatch q) .inr
  unfold bind at e'
  split at e'
  · cases e'
  · rename_i c p ρ1 em
    cases e'
    exact ⟨F, ρ, S0, _, _, em, fun cls d F' H' T S x => h cls d σ F' H' (T.hand fun _ z => nomatch z) S x⟩
  · rename_i a ρ1 em
    refine ⟨F, ρ, S0, _, _, em, fun v A F1 H1 T S rl fp nw => i v a A F1 H1 ρ1 T S rl fp nw ⟨r, ρ', e', ?_⟩⟩
    have T0 : Tr A0 σ F H ρ σ F1 H1 ρ1 := T.hand fun _ z => nomatch z
    cases r with
    | ok f =>
      cases f with
      | nx => exact fun σ' F' H' T' S => h σ' F' H' (T0.trans (up nw) T') S
      | bk => exact fun σ' F' H' T' S => h σ' F' H' (T0.trans (up nw) T') S
      | ct => exact fun σ' F' H' T' S => h σ' F' H' (T0.trans (up nw) T') S
      | rt b => exact fun v A σ' F' H' T' S np rl fp nw' => h v A σ' F' H' (T0.trans (up nw) T') S np rl fp (New.trans T0 (up nw) nw')
    | exc c p => exact fun cls d σ' F' H' T' S x => h cls d σ' F' H' (T0.trans (up nw) T') S x
/-- a step that neither fails nor turns anything -/
theorem tSR_step {α : Type} {e : M α} {k : α → S} (h : tSR C W A0 F ρ (bind e k) D σ H) (p : ∀ r ρ', e ρ = some (r, ρ') → ρ' = ρ ∧ ∃ a, r = .ok a) : ∃ a, e ρ = some (.ok a, ρ) ∧ tSR C W A0 F ρ (k a) D σ H := by
  obtain ⟨r, ρ', e', h⟩ := h
  unfold bind at e'
  split at e'
  · cases e'
  · rename_i c q ρ1 em
    obtain ⟨_, a, z⟩ := p _ _ em
    cases z
  · rename_i a ρ1 em
    obtain ⟨z, _⟩ := p _ _ em
    subst z
    exact ⟨a, em, r, ρ', e', h⟩
theorem tSR_nx (h : tSR C W A0 F ρ (ret .nx : S) D σ H) : ∀ σ' F' H', Tr A0 σ F H ρ σ' F' H' ρ → Stt C F' H' σ' ρ → D.nx σ' H' := by
  obtain ⟨r, ρ', e, h⟩ := h
  cases e
  exact h
end

section
variable (cl : Nat → Addr) (X : Cx)
/-- the statement st does what m does -/
def SimS (st : Stmt) (m : S) : Prop := ∀ W, Takes X W → PS X st (tS (cs cl X) W m)
def SimB (st : List Stmt) (m : S) : Prop := ∀ W, Takes X W → PSs X st (tS (cs cl X) W m)
end
theorem PS.imp {X : Cx} {st : Stmt} {t t' : TS} (h : PS X st t) (i : ∀ D σ H, t' D σ H → t D σ H) : PS X st t' := ⟨fun pins s σ H D I q => h.run pins s σ H D I (i D σ H q)⟩
theorem PSs.imp {X : Cx} {st : List Stmt} {t t' : TS} (h : PSs X st t) (i : ∀ D σ H, t' D σ H → t D σ H) : PSs X st t' := ⟨fun pins s σ H D I q => h.run pins s σ H D I (i D σ H q)⟩
section
variable {cl : Nat → Addr} {X : Cx} {C : Cs} {σ : St} {F H : Hp} {ρ : Env} {A A0 : List Addr}
theorem seq_imp {a b : S} {D : Ends} {W : WX} (h : tS C W (sSeq a b) D σ H) : tSeq (tS C W a) (tS C W b) D σ H := by
  obtain ⟨F, ρ, S0, r, ρ', e, h⟩ := h
  refine ⟨F, ρ, S0, ?_⟩
  unfold sSeq bind at e
  split at e
  · cases e
  · rename_i c p ρ1 em
    cases e
    exact ⟨_, _, em, h⟩
  · rename_i f ρ1 em
    refine ⟨_, _, em, ?_⟩
    cases f with
    | nx =>
      refine fun σ1 F1 H1 T1 S1 => ⟨F1, ρ1, S1, r, ρ', e, ?_⟩
      cases r with
      | ok f =>
        cases f with
        | nx => exact fun σ' F' H' T' S => h σ' F' H' (T1.trans0 T') S
        | bk => exact fun σ' F' H' T' S => h σ' F' H' (T1.trans0 T') S
        | ct => exact fun σ' F' H' T' S => h σ' F' H' (T1.trans0 T') S
        | rt b => exact fun v A σ' F' H' T' S np rl fp nw => h v A σ' F' H' (T1.trans0 T') S np rl fp (New.trans T1 (A1 := []) (fun _ z => nomatch z) nw)
      | exc c p => exact fun cls d σ' F' H' T' S x => h cls d σ' F' H' (T1.trans0 T') S x
    | bk => cases e; exact h
    | ct => cases e; exact h
    | rt b => cases e; exact h
theorem sim_seq {st : Stmt} {rest : List Stmt} {a b : S} (h1 : SimS cl X st a) (h2 : SimB cl X rest b) : SimB cl X (st :: rest) (sSeq a b) := fun W tk => PSs.imp (pss_cons (h1 W tk) (h2 W tk)) fun D σ H h => seq_imp h
theorem sim_one {st : Stmt} {a : S} (h1 : SimS cl X st a) : SimB cl X [st] a := fun W tk => pss_one (h1 W tk)
theorem sim_pnil : SimB cl X [] sPass := fun W _ => PSs.imp pss_nil fun D σ H ⟨F, ρ, S, h⟩ => tSR_nx h σ F H Tr.refl S
theorem sim_pass {pos : Pos} : SimS cl X (.Pass pos) sPass := fun W _ => PS.imp ps_pass fun D σ H ⟨F, ρ, S, h⟩ => tSR_nx h σ F H Tr.refl S
theorem sim_drop {e : Expr} {m : M B} {pos : Pos} (ha : SimE cl X e m) (hs : swapsWith e none pos.line X.env = pure false) : SimS cl X (.Expr e pos) (sDrop m) := fun W tk => PS.imp (ps_expr (ha W tk) hs) fun D σ H ⟨F, ρ, S, h⟩ =>
  tSR_bind (R := RlB) S h fun v a A F1 H1 ρ1 T S1 rl fp nw q => tSR_nx q σ F1 H1 Tr.refl S1
theorem sim_ifS {c : Expr} {a b : List Stmt} {t : M Bool} {ma mb : S} {pos : Pos} (hc : SimT cl X c t) (ha : SimB cl X a ma) (hb : SimB cl X b mb) : SimS cl X (.If c a b pos) (sIf t ma mb) := fun W tk => PS.imp (ps_if (hc W tk) (ha W tk) (hb W tk)) fun D σ H ⟨F, ρ, S, h⟩ =>
  tSR_bind (R := RlT) S h fun v a A F1 H1 ρ1 T S1 rl fp nw q => by
    obtain ⟨rfl, rfl⟩ := rl
    cases v with
    | true => exact iteT ⟨F1, ρ1, S1, tSR_up q⟩
    | false => exact iteF ⟨F1, ρ1, S1, tSR_up q⟩
theorem RB.chg {σ' : St} {v : V} {b : B} (h : RB C σ F H v b A) (n : noPl b = true) : RB C σ' F H v b A := by
  cases h with
  | sh r => exact .sh r
  | ow r => exact .ow r
  | pl q => cases n
  | tp q r => exact .tp q r
theorem sim_ret {e : Expr} {m : M B} {pos : Pos} (ha : SimE cl X e m) : SimS cl X (.Return (some e) pos) (sRet m) := fun W tk => PS.imp (ps_ret (ha W tk)) fun D σ H ⟨F, ρ, S, h⟩ =>
  tSR_bind (R := RlB) S h fun v a A F1 H1 ρ1 T S1 rl fp nw q => by
    have go : noPl a = true → tSR (cs cl X) W ([] ++ A) F1 ρ1 (ret (.rt a)) D σ H1 → D.rt v H1 := fun n q => by
      obtain ⟨r, ρ', e, q⟩ := q
      cases e
      exact q v A σ F1 H1 Tr.refl S1 n rl fp fun z m => .inr (.inl (by rw [List.nil_append]; exact m))
    cases a with
    | pl i => exact tSR_stuck q
    | sh d => exact go rfl q
    | ow o => exact go rfl q
    | tp bs => exact go rfl q

/-! ### names bound -/
theorem put_at_set {ρ ρ1 : Env} {i : Nat} {b : SB} (h : putS ρ i b = some ρ1) : i < ρ.length ∧ (∀ o, ρ.at i ≠ some (.io o)) ∧ ρ1 = ρ.set i (some b) := by
  unfold putS at h
  split at h
  · rename_i hl
    split at h
    · cases h
    · rename_i n
      cases h
      exact ⟨hl, fun o e => n o e, rfl⟩
  · cases h
/-- a name is bound to a value: data, or a new object -/
theorem bind_slot {i : Nat} {b : SB} {v : V} {ρ1 : Env} (S : Stt C F H σ ρ) (h : putS ρ i b = some ρ1) (nio : ∀ o, b ≠ .io o) (r : RSB C F H v b) (f : ∀ a, b.obj.isSome = true → v = .ref a → ¬ Owns σ ρ a ∧ a ∈ A ∧ H a ≠ none) :
    Stt C F H (σ.set i (some v)) ρ1 ∧ Tr A σ F H ρ (σ.set i (some v)) F H ρ1 := by
  obtain ⟨hl, n, rfl⟩ := put_at_set h
  have hlσ : i < σ.length := by rw [← S.len]; exact hl
  have sig : ∀ {j : Nat} {c : SB}, Env.at (ρ.set i (some b)) j = some c → (j = i ∧ c = b) ∨ (j ≠ i ∧ ρ.at j = some c ∧ (σ.set i (some v))[j]? = σ[j]?) := fun {j c} e => by
    rcases at_set e with ⟨rfl, e1, _⟩ | ⟨nj, e1⟩
    · cases e1; exact .inl ⟨rfl, rfl⟩
    · exact .inr ⟨nj, e1, List.getElem?_set_ne (Ne.symm nj)⟩
  have own : ∀ {a : Addr}, Owns (σ.set i (some v)) (ρ.set i (some b)) a → Owns σ ρ a ∨ (b.obj.isSome = true ∧ v = .ref a) := fun {a} ⟨j, c, h1, h2, h3⟩ => by
    rcases sig h1 with ⟨rfl, rfl⟩ | ⟨nj, e1, e2⟩
    · rw [List.getElem?_set_self hlσ] at h3
      cases h3
      exact .inr ⟨h2, rfl⟩
    · rw [e2] at h3
      exact .inl ⟨j, c, e1, h2, h3⟩
  refine ⟨⟨S.sub, by rw [List.length_set, List.length_set]; exact S.len, fun j c e => ?_, fun j k c d a h1 h2 h3 h4 h5 h6 => ?_⟩, ⟨Sub.refl _, fun a o e _ _ => e, fun a _ _ _ z => z, fun a e => e, fun a q => ?_, fun j o q => ?_, fun j o q => ?_⟩⟩
  · rcases sig e with ⟨rfl, rfl⟩ | ⟨nj, e1, e2⟩
    · exact ⟨v, List.getElem?_set_self hlσ, r⟩
    · rw [e2]; exact S.sl j c e1
  · rcases sig h1 with ⟨rfl, rfl⟩ | ⟨nj, e1, e2⟩
    · rw [List.getElem?_set_self hlσ] at h5
      cases h5
      rcases sig h3 with ⟨rfl, rfl⟩ | ⟨nk, e3, e4⟩
      · rfl
      · rw [e4] at h6
        exact absurd ⟨k, d, e3, h4, h6⟩ (f a h2 rfl).1
    · rw [e2] at h5
      rcases sig h3 with ⟨rfl, rfl⟩ | ⟨nk, e3, e4⟩
      · rw [List.getElem?_set_self hlσ] at h6
        cases h6
        exact absurd ⟨j, c, e1, h2, h5⟩ (f a h4 rfl).1
      · rw [e4] at h6
        exact S.dis j k c d a e1 h2 e3 h4 h5 h6
  · rcases own q with z | ⟨z1, z2⟩
    · exact .inl z
    · exact .inr (.inl (f a z1 z2).2.1)
  · by_cases e : i = j
    · subst e; exact absurd q (n o)
    · refine ⟨⟨o, by rw [at_set_ne e]; exact q⟩, List.getElem?_set_ne e⟩
  · rcases sig q with ⟨rfl, e⟩ | ⟨nj, e1, e2⟩
    · exact absurd e.symm (nio o)
    · exact ⟨o, e1⟩
/-- what a name is bound to, from what an expression gives -/
theorem own_rel {v : V} {x : B} {b : SB} {ρ2 : Env} (S : Stt C F H σ ρ) (rl : RB C σ F H v x A) (fp : Fp σ F H ρ A) (e : ownB x ρ = some (.ok b, ρ2)) :
    ρ2 = ρ ∧ ∃ F1, Stt C F1 H σ ρ ∧ Tr A σ F H ρ σ F1 H ρ ∧ RSB C F1 H v b ∧ (∀ o, b ≠ .io o) ∧ ∀ a, b.obj.isSome = true → v = .ref a → ¬ Owns σ ρ a ∧ a ∈ A ∧ H a ≠ none := by
  cases x with
  | sh d =>
    cases e
    cases rl with
    | sh r => exact ⟨rfl, F, S, Tr.refl, .sh r, fun o z => (nomatch z), fun a z => (nomatch z)⟩
  | ow o =>
    cases e
    cases rl with
    | ow r => exact ⟨rfl, F, S, Tr.refl, .ow r (fp.nf _ (by simp)), fun o z => (nomatch z), fun a _ z => by cases z; exact ⟨fp.no _ (by simp), by simp, fp.th _ (by simp)⟩⟩
  | pl i => cases e
  | tp bs =>
    obtain ⟨z, _⟩ := lift_pure e
    subst z
    have e := lift_ok e
    obtain ⟨ds, e1, rfl⟩ := Option.map_eq_some_iff.mp e
    obtain ⟨S1, T1⟩ := share S fp
    cases rl with
    | tp q r =>
      exact ⟨rfl, _, S1, T1, .sh (.tup ((sub_addF fp).sqT q) (rtp_in r (sub_addF fp) (fun a m o q => by rw [addF_in m]; exact q) e1)), fun o z => (nomatch z), fun a z => (nomatch z)⟩
theorem bindS_go {W : WX} {D : Ends} {i : Nat} {b : SB} {v : V} (S0 : Stt C F H σ ρ) (h : tSR C W A0 F ρ (bindS i b) D σ H) (nio : ∀ o, b ≠ .io o) (r : RSB C F H v b) (f : ∀ a, b.obj.isSome = true → v = .ref a → ¬ Owns σ ρ a ∧ a ∈ A0 ∧ H a ≠ none) : D.nx (σ.set i (some v)) H := by
  obtain ⟨r', ρ', e, h⟩ := h
  unfold bindS at e
  split at e
  · rename_i ρ1 e1
    cases e
    obtain ⟨S1, T1⟩ := bind_slot S0 e1 nio r f
    exact h _ F H T1 S1
  · cases e
theorem sim_set {i : Nat} {x : Str} {e : Expr} {m : M B} {pos pos' : Pos} (hN : X.N.Nodup) (hi : X.N[i]? = some x) (hx : Loc X.env.scope x) (ha : SimE cl X e m) (hs : swapsWith e (some (.Name x pos')) pos.line X.env = pure false) (hf : X.fn x = true ∨ X.env.scope.names.lookup x = some .local) :
    SimS cl X (.Assign [.Name x pos'] e pos) (sSet i m) := fun W tk => PS.imp (ps_set hN hi hx (ha W tk) hs hf) fun D σ H ⟨F, ρ, S, h⟩ =>
  tSR_bind (R := RlB) S h fun v a A F1 H1 ρ1 T S1 rl fp nw q => by
    obtain ⟨b, eb, q⟩ := tSR_step q fun r ρ' e => by
      cases a with
      | pl i => cases e
      | sh d => cases e; exact ⟨rfl, _, rfl⟩
      | ow o => cases e; exact ⟨rfl, _, rfl⟩
      | tp bs => exact lift_pure e
    obtain ⟨_, F2, S2, T2, r, nio, f⟩ := own_rel S1 rl fp eb
    exact bindS_go (A0 := A) S2 (tSR_from (T2.hand fun z m => by rw [List.nil_append]; exact m) (fun z m => .inr (.inl (by rw [List.nil_append]; exact m))) rfl q) nio r f
end
end WF

set_option Elab.async false
set_option linter.all false
set_option maxRecDepth 100000
set_option maxHeartbeats 4000000
/-! WFK: defs and their calls. -/
namespace WF
open PySem PySem.Spec PyProof.Rows L2

def isIns : B → Bool | .ow (.ins _ _) => true | _ => false
section
variable {cl : Nat → Addr} {X : Cx} {C : Cs} {σ : St} {F H F' H' : Hp} {ρ : Env} {A A0 : List Addr} {vs : List V} {bs : List B} {sbs : List SB} {os : Env}
/-- arguments: data and new data (A1); new instances (A2) -/
structure Split (C : Cs) (σ : St) (F H : Hp) (vs : List V) (bs : List B) (A A1 A2 : List Addr) : Prop where
  mem : ∀ a, a ∈ A ↔ a ∈ A1 ∨ a ∈ A2
  dj : A.Nodup → A1.Nodup ∧ ∀ a ∈ A2, a ∉ A1
  ins : ∀ (j : Nat) b v, bs[j]? = some b → vs[j]? = some v → isIns b = true → ∃ a o, v = .ref a ∧ b = .ow o ∧ a ∈ A2 ∧ ROb C F H a o
  oth : ∀ (j : Nat) b v, bs[j]? = some b → vs[j]? = some v → isIns b = false → ∃ Aj, (∀ a ∈ Aj, a ∈ A1) ∧ RB C σ F H v b Aj
  uni : A.Nodup → ∀ (j k : Nat) b c a, bs[j]? = some b → bs[k]? = some c → isIns b = true → isIns c = true → vs[j]? = some (.ref a) → vs[k]? = some (.ref a) → j = k
theorem split_of (r : RBs C σ F H vs bs A) : ∃ A1 A2, Split C σ F H vs bs A A1 A2 := by
  induction r with
  | nil => exact ⟨[], [], fun a => by simp, fun _ => by simp, fun j b v e => by simp at e, fun j b v e => by simp at e, fun _ j k b c a e => by simp at e⟩
  | @cons v b vs bs A A' r t ih =>
    obtain ⟨A1, A2, S⟩ := ih
    cases hi : isIns b with
    | false =>
      refine ⟨A ++ A1, A2, fun a => ?_, fun nd => ?_, fun j c u e1 e2 e3 => ?_, fun j c u e1 e2 e3 => ?_, fun nd j k c c' a e1 e2 e3 e4 e5 e6 => ?_⟩
      · rw [List.mem_append, List.mem_append, S.mem a, or_assoc]
      · obtain ⟨n1, n2, n3⟩ := List.nodup_append.mp nd
        obtain ⟨m1, m2⟩ := S.dj n2
        refine ⟨List.nodup_append.mpr ⟨n1, m1, fun a h b h' => n3 a h b ((S.mem b).mpr (.inl h'))⟩, fun a h h' => ?_⟩
        rcases List.mem_append.mp h' with z | z
        · exact n3 a z a ((S.mem a).mpr (.inr h)) rfl
        · exact m2 a h z
      · cases j with
        | zero => simp at e1; subst e1; rw [hi] at e3; cases e3
        | succ j => exact S.ins j c u (by simpa using e1) (by simpa using e2) e3
      · cases j with
        | zero =>
          simp at e1 e2
          subst e1; subst e2
          exact ⟨A, fun a m => List.mem_append_left _ m, r⟩
        | succ j =>
          obtain ⟨Aj, h1, h2⟩ := S.oth j c u (by simpa using e1) (by simpa using e2) e3
          exact ⟨Aj, fun a m => List.mem_append_right _ (h1 a m), h2⟩
      · cases j with
        | zero => simp at e1; subst e1; rw [hi] at e3; cases e3
        | succ j =>
          cases k with
          | zero => simp at e2; subst e2; rw [hi] at e4; cases e4
          | succ k => rw [S.uni (List.nodup_append.mp nd).2.1 j k c c' a (by simpa using e1) (by simpa using e2) e3 e4 (by simpa using e5) (by simpa using e6)]
    | true =>
      cases r with
      | sh r => cases hi
      | pl r => cases hi
      | tp q r => cases hi
      | @ow a0 o r =>
      refine ⟨A1, a0 :: A2, fun a => ?_, fun nd => ?_, fun j c u e1 e2 e3 => ?_, fun j c u e1 e2 e3 => ?_, fun nd j k c c' a e1 e2 e3 e4 e5 e6 => ?_⟩
      · rw [List.mem_append, S.mem a, List.mem_singleton, List.mem_cons]
        constructor
        · rintro (z | z | z)
          · exact .inr (.inl z)
          · exact .inl z
          · exact .inr (.inr z)
        · rintro (z | z | z)
          · exact .inr (.inl z)
          · exact .inl z
          · exact .inr (.inr z)
      · obtain ⟨n1, n2, n3⟩ := List.nodup_append.mp nd
        obtain ⟨m1, m2⟩ := S.dj n2
        refine ⟨m1, fun a h h' => ?_⟩
        rcases List.mem_cons.mp h with z | z
        · subst z; exact n3 a (by simp) a ((S.mem a).mpr (.inl h')) rfl
        · exact m2 a z h'
      · cases j with
        | zero =>
          simp at e1 e2
          subst e1; subst e2
          exact ⟨a0, o, rfl, rfl, List.mem_cons_self, r⟩
        | succ j =>
          obtain ⟨a, o, h1, h2, h3, h4⟩ := S.ins j c u (by simpa using e1) (by simpa using e2) e3
          exact ⟨a, o, h1, h2, List.mem_cons_of_mem _ h3, h4⟩
      · cases j with
        | zero => simp at e1; subst e1; rw [hi] at e3; cases e3
        | succ j => exact S.oth j c u (by simpa using e1) (by simpa using e2) e3
      · obtain ⟨n1, n2, n3⟩ := List.nodup_append.mp nd
        have no : ∀ (j : Nat) b, bs[j]? = some b → isIns b = true → vs[j]? = some (V.ref a0) → False := fun j b e1 e2 e3 => by
          obtain ⟨a', o', h1, h2, h3, h4⟩ := S.ins j b _ e1 e3 e2
          cases h1
          exact n3 a0 (by simp) a0 ((S.mem a0).mpr (.inr h3)) rfl
        cases j with
        | zero =>
          cases k with
          | zero => rfl
          | succ k =>
            simp at e5
            subst e5
            exact (no k c' (by simpa using e2) e4 (by simpa using e6)).elim
        | succ j =>
          cases k with
          | zero =>
            simp at e6
            subst e6
            exact (no j c (by simpa using e1) e3 (by simpa using e5)).elim
          | succ k => rw [S.uni n2 j k c c' a (by simpa using e1) (by simpa using e2) e3 e4 (by simpa using e5) (by simpa using e6)]
theorem handL_get : ∀ {bs : List B} {sbs : List SB}, handL ρ bs = some sbs → sbs.length = bs.length ∧ ∀ (j : Nat) x, sbs[j]? = some x → ∃ b, bs[j]? = some b ∧ handB ρ b = some x
  | [], sbs, e => by cases e; exact ⟨rfl, fun j x e => by simp at e⟩
  | b :: r, sbs, e => by
    unfold handL at e
    split at e
    · rename_i x xs e1 e2
      cases e
      obtain ⟨l, h⟩ := handL_get e2
      refine ⟨by simp [l], fun j y ey => ?_⟩
      cases j with
      | zero => simp at ey; subst ey; exact ⟨b, rfl, e1⟩
      | succ j => obtain ⟨c, h1, h2⟩ := h j y (by simpa using ey); exact ⟨c, by simpa using h1, h2⟩
    · cases e
theorem handB_dat {b : B} {x : SB} (h : handB ρ b = some x) (n : noPl b = true) (i : isIns b = false) : ∃ d, x = .sh d ∧ b.dat ρ = some d := by
  cases b with
  | sh d => cases h; exact ⟨_, rfl, rfl⟩
  | ow o =>
    cases o with
    | ins c fs => cases i
    | lst xs => cases h; exact ⟨_, rfl, rfl⟩
    | dic t kvs => cases h; exact ⟨_, rfl, rfl⟩
  | pl i => cases n
  | tp bs =>
    obtain ⟨ds, e, rfl⟩ := Option.map_eq_some_iff.mp (show (sbsD bs).map (fun ds => SB.sh (.tup ds)) = some x from h)
    refine ⟨_, rfl, ?_⟩
    show (match sbsD bs with | some ds => some (D.tup ds) | none => none) = _
    rw [e]
theorem handB_io {b : B} {x : SB} (h : handB ρ b = some x) : (∃ d, x = .sh d) ∨ ∃ o, x = .io o := by
  cases b with
  | sh d => cases h; exact .inl ⟨_, rfl⟩
  | ow o =>
    cases o with
    | ins c fs => cases h; exact .inr ⟨_, rfl⟩
    | lst xs => cases h; exact .inl ⟨_, rfl⟩
    | dic t kvs => cases h; exact .inl ⟨_, rfl⟩
  | pl i =>
    have h : (match ρ.at i with | some (.sh d) => some (SB.sh d) | some (.ow o) => some (.io o) | some (.io o) => some (.io o) | none => none) = some x := h
    split at h <;> cases h
    · exact .inl ⟨_, rfl⟩
    · exact .inr ⟨_, rfl⟩
    · exact .inr ⟨_, rfl⟩
  | tp bs =>
    obtain ⟨ds, e, rfl⟩ := Option.map_eq_some_iff.mp (show (sbsD bs).map (fun ds => SB.sh (.tup ds)) = some x from h)
    exact .inl ⟨_, rfl⟩
theorem lent_of : ∀ {bs : List B} {j i : Nat}, bs[j]? = some (.pl i) → i ∈ lent bs
  | [], j, i, e => by simp at e
  | b :: r, 0, i, e => by simp at e; subst e; exact List.mem_cons_self
  | b :: r, j + 1, i, e => by
    have := lent_of (bs := r) (j := j) (i := i) (by simpa using e)
    cases b <;> first | exact List.mem_cons_of_mem _ this | exact this
theorem nodupN_cons {a : Nat} {r : List Nat} (h : nodupN (a :: r) = true) : a ∉ r ∧ nodupN r = true := by
  have h : (!(r.elem a) && nodupN r) = true := h
  rw [Bool.and_eq_true] at h
  refine ⟨fun m => ?_, h.2⟩
  have : r.elem a = true := List.elem_eq_true_of_mem m
  rw [this] at h
  exact absurd h.1 (by decide)
theorem lent_tail {b : B} {r : List B} (h : nodupN (lent (b :: r)) = true) : nodupN (lent r) = true := by
  cases b <;> first | exact (nodupN_cons h).2 | exact h
theorem lent_inj : ∀ {bs : List B}, nodupN (lent bs) = true → ∀ {j k i : Nat}, bs[j]? = some (.pl i) → bs[k]? = some (.pl i) → j = k
  | [], _, j, k, i, e, _ => by simp at e
  | b :: r, h, 0, 0, i, _, _ => rfl
  | b :: r, h, 0, k + 1, i, e, e' => by simp at e; subst e; exact absurd (lent_of (bs := r) (j := k) (by simpa using e')) (nodupN_cons h).1
  | b :: r, h, j + 1, 0, i, e, e' => by simp at e'; subst e'; exact absurd (lent_of (bs := r) (j := j) (by simpa using e)) (nodupN_cons h).1
  | b :: r, h, j + 1, k + 1, i, e, e' => by rw [lent_inj (bs := r) (lent_tail h) (j := j) (k := k) (i := i) (by simpa using e) (by simpa using e')]
theorem at_map {sbs : List SB} {i : Nat} {b : SB} : Env.at (sbs.map some) i = some b ↔ sbs[i]? = some b := by
  show (sbs.map some).getD i none = some b ↔ _
  rw [List.getD_eq_getElem?_getD, List.getElem?_map]
  cases sbs[i]? <;> simp
theorem get_map {vs : List V} {i : Nat} {v : V} : ((vs.map some : St)[i]? = some (some v)) ↔ vs[i]? = some v := by
  rw [List.getElem?_map]
  cases vs[i]? <;> simp
/-! ### what comes back -/
theorem backB_ne {b : B} {o : Option SB} {i : Nat} (h : b ≠ .pl i) : (backB ρ b o).at i = ρ.at i := by
  cases b with
  | pl k =>
    show (Env.at (match ρ.at k, o with | some c, some (.io o) => ρ.set k (some (c.put o)) | _, _ => ρ) i) = _
    split
    · exact at_set_ne fun z => h (by rw [z])
    · rfl
  | _ => rfl
theorem backL_ne : ∀ {bs : List B} {os ρ : Env} {i : Nat}, i ∉ lent bs → (backL ρ bs os).at i = ρ.at i
  | [], _, _, _, _ => by unfold backL; rfl
  | _ :: _, [], _, _, _ => rfl
  | b :: r, o :: os, ρ, i, h => by
    have h1 : b ≠ .pl i := fun e => by subst e; exact h List.mem_cons_self
    have h2 : i ∉ lent r := fun m => h (by cases b <;> first | exact List.mem_cons_of_mem _ m | exact m)
    show (backL (backB ρ b o) r os).at i = _
    rw [backL_ne h2, backB_ne h1]
theorem backB_io {o : O} {i : Nat} {c : SB} (h : ρ.at i = some c) : (backB ρ (.pl i) (some (.io o))).at i = some (c.put o) := by
  show (Env.at (match ρ.at i, some (SB.io o) with | some c, some (.io o) => ρ.set i (some (c.put o)) | _, _ => ρ) i) = _
  rw [h]
  exact at_set_same (get_of_at h).1
theorem backB_no {o : Option SB} {i : Nat} (h : ∀ u, o ≠ some (.io u)) : backB ρ (.pl i) o = ρ := by
  show (match ρ.at i, o with | some c, some (.io o) => ρ.set i (some (c.put o)) | _, _ => ρ) = _
  split
  · exact absurd rfl (h _)
  · rfl
theorem backL_io : ∀ {bs : List B} {os ρ : Env}, nodupN (lent bs) = true → ∀ {j i : Nat} {o : O} {c : SB}, bs[j]? = some (.pl i) → os[j]? = some (some (.io o)) → ρ.at i = some c → (backL ρ bs os).at i = some (c.put o)
  | [], _, _, _, j, i, o, c, e, _, _ => by simp at e
  | _ :: _, [], _, _, j, i, o, c, _, e, _ => by simp at e
  | b :: r, u :: os, ρ, nd, 0, i, o, c, e1, e2, e3 => by
    simp at e1 e2
    subst e1; subst e2
    show (backL (backB ρ (.pl i) (some (.io o))) r os).at i = _
    rw [backL_ne (nodupN_cons nd).1, backB_io e3]
  | b :: r, u :: os, ρ, nd, j + 1, i, o, c, e1, e2, e3 => by
    have e1 : r[j]? = some (.pl i) := by simpa using e1
    have hb : b ≠ .pl i := fun e => by subst e; exact (nodupN_cons nd).1 (lent_of e1)
    show (backL (backB ρ b u) r os).at i = _
    exact backL_io (lent_tail nd) e1 (by simpa using e2) (by rw [backB_ne hb]; exact e3)
theorem backL_no : ∀ {bs : List B} {os ρ : Env}, nodupN (lent bs) = true → ∀ {j i : Nat}, bs[j]? = some (.pl i) → (∀ u, os[j]? ≠ some (some (.io u))) → (backL ρ bs os).at i = ρ.at i
  | [], _, _, _, j, i, e, _ => by simp at e
  | _ :: _, [], _, _, j, i, _, e => rfl
  | b :: r, u :: os, ρ, nd, 0, i, e1, e2 => by
    simp at e1
    subst e1
    show (backL (backB ρ (.pl i) u) r os).at i = _
    rw [backL_ne (nodupN_cons nd).1, backB_no fun o z => e2 o (by simp [z])]
  | b :: r, u :: os, ρ, nd, j + 1, i, e1, e2 => by
    have e1 : r[j]? = some (.pl i) := by simpa using e1
    have hb : b ≠ .pl i := fun e => by subst e; exact (nodupN_cons nd).1 (lent_of e1)
    show (backL (backB ρ b u) r os).at i = _
    rw [backL_no (lent_tail nd) e1 (fun o => by simpa using e2 o), backB_ne hb]
theorem backB_len {b : B} {o : Option SB} : (backB ρ b o).length = ρ.length := by
  cases b with
  | pl k =>
    show List.length (match ρ.at k, o with | some c, some (.io o) => ρ.set k (some (c.put o)) | _, _ => ρ) = _
    split
    · rw [List.length_set]
    · rfl
  | _ => rfl
theorem backL_len : ∀ {bs : List B} {os ρ : Env}, (backL ρ bs os).length = ρ.length
  | [], _, _ => by unfold backL; rfl
  | _ :: _, [], _ => rfl
  | b :: r, o :: os, ρ => by
    show (backL (backB ρ b o) r os).length = _
    rw [backL_len, backB_len]
theorem mem_lent : ∀ {bs : List B} {i : Nat}, i ∈ lent bs → ∃ j : Nat, bs[j]? = some (.pl i)
  | [], i, h => nomatch h
  | b :: r, i, h => by
    have go : i ∈ lent r → ∃ j : Nat, (b :: r)[j]? = some (.pl i) := fun m => let ⟨j, e⟩ := mem_lent m; ⟨j + 1, by simpa using e⟩
    cases b with
    | pl k =>
      rcases List.mem_cons.mp h with z | z
      · subst z; exact ⟨0, rfl⟩
      · exact go z
    | _ => exact go h
end

/-! ### over to the callee, and back -/
structure Back (C : Cs) (σ : St) (F H : Hp) (ρ : Env) (A : List Addr) (vs : List V) (sbs : List SB) (bs : List B) (F' H' : Hp) (os : Env) : Prop where
  tr : Tr A σ F H ρ σ F' H' (backL ρ bs os)
  st : Stt C F' H' σ (backL ρ bs os)
  new : ∀ A2, Fp (vs.map some) F' H' os A2 → New [] (vs.map some) H (sbs.map some) A2 → Fp σ F' H' (backL ρ bs os) A2 ∧ New A σ H ρ A2
section
variable {C : Cs} {σ : St} {F H : Hp} {ρ : Env} {A : List Addr} {vs : List V} {bs : List B} {sbs : List SB}
theorem hand_over (S : Stt C F H σ ρ) (r : RBs C σ F H vs bs A) (f : Fp σ F H ρ A) (nd : nodupN (lent bs) = true) (hl : handL ρ bs = some sbs) :
    ∃ F1, Stt C F1 H (vs.map some) (sbs.map some) ∧ ∀ F' H' os, Tr [] (vs.map some) F1 H (sbs.map some) (vs.map some) F' H' os → Stt C F' H' (vs.map some) os → Back C σ F H ρ A vs sbs bs F' H' os := by
  obtain ⟨A1, A2, P⟩ := split_of r
  obtain ⟨lenB, get⟩ := handL_get hl
  have lenV := r.length
  have fp1 : Fp σ F H ρ A1 := ⟨(P.dj f.nd).1, fun a m => f.nf a ((P.mem a).mpr (.inl m)), fun a m => f.no a ((P.mem a).mpr (.inl m)), fun a m => f.th a ((P.mem a).mpr (.inl m))⟩
  obtain ⟨S1, T1⟩ := share S fp1
  -- an argument with an object: of a slot, or a new instance
  have objs : ∀ (j : Nat) x a, sbs[j]? = some x → x.obj.isSome = true → vs[j]? = some (V.ref a) → (∃ i c, bs[j]? = some (.pl i) ∧ ρ.at i = some c ∧ c.obj.isSome = true ∧ σ[i]? = some (some (.ref a))) ∨ ∃ b, bs[j]? = some b ∧ isIns b = true ∧ a ∈ A2 := fun j x a ex ox ev => by
    obtain ⟨b, eb, hb⟩ := get j x ex
    cases hi : isIns b with
    | true =>
      obtain ⟨a', o, e1, e2, e3, e4⟩ := P.ins j b _ eb ev hi
      cases e1
      exact .inr ⟨b, eb, hi, e3⟩
    | false =>
      cases b with
      | pl i =>
        obtain ⟨Aj, m, rb⟩ := P.oth j _ _ eb ev hi
        cases rb with
        | pl q =>
          have hb : (match ρ.at i with | some (.sh d) => some (SB.sh d) | some (.ow o) => some (.io o) | some (.io o) => some (.io o) | none => none) = some x := hb
          split at hb <;> cases hb
          · cases ox
          · rename_i o ho; exact .inl ⟨i, _, eb, ho, rfl, q⟩
          · rename_i o ho; exact .inl ⟨i, _, eb, ho, rfl, q⟩
      | sh d => obtain ⟨d, rfl, _⟩ := handB_dat hb rfl hi; cases ox
      | ow o => obtain ⟨d, rfl, _⟩ := handB_dat hb rfl hi; cases ox
      | tp bs => obtain ⟨d, rfl, _⟩ := handB_dat hb rfl hi; cases ox
  have own0 : ∀ a, Owns (vs.map some) (sbs.map some) a → Owns σ ρ a ∨ a ∈ A2 := fun a ⟨j, x, h1, h2, h3⟩ => by
    rcases objs j x a (at_map.mp h1) h2 (get_map.mp h3) with ⟨i, c, _, e1, e2, e3⟩ | ⟨b, _, _, m⟩
    · exact .inl ⟨i, c, e1, e2, e3⟩
    · exact .inr m
  have inA : ∀ a, a ∈ A2 → a ∈ A := fun a m => (P.mem a).mpr (.inr m)
  refine ⟨addF F H A1, ⟨S1.sub, by simp [lenB, lenV], fun j x e => ?_, fun j k x y a h1 h2 h3 h4 h5 h6 => ?_⟩, fun F' H' os T S' => ?_⟩
  · have e := at_map.mp e
    obtain ⟨b, eb, hb⟩ := get j x e
    have jl : j < vs.length := by
      have := (List.getElem?_eq_some_iff.mp eb).1
      omega
    obtain ⟨v, ev⟩ : ∃ v, vs[j]? = some v := ⟨_, List.getElem?_eq_getElem jl⟩
    refine ⟨v, get_map.mpr ev, ?_⟩
    cases hi : isIns b with
    | true =>
      obtain ⟨a, o, rfl, rfl, m, ro⟩ := P.ins j b v eb ev hi
      have ex : x = .io o := by
        cases o with
        | ins c fs => cases hb; rfl
        | lst xs => cases hi
        | dic t kvs => cases hi
      subst ex
      exact .io (ro.mono T1.sub fun _ z => z) (by rw [addF_out ((P.dj f.nd).2 a m)]; exact f.nf a (inA a m))
    | false =>
      obtain ⟨Aj, m, rb⟩ := P.oth j b v eb ev hi
      have plain : noPl b = true → RSB C (addF F H A1) H v x := fun np => by
        obtain ⟨d, rfl, ed⟩ := handB_dat hb np hi
        exact .sh (rb.in_ (sub_addF fp1) (fun a q o z => by rw [addF_in (m a q)]; exact z) np ed)
      cases b with
      | pl i =>
        cases rb with
        | pl q =>
          have hb : (match ρ.at i with | some (.sh d) => some (SB.sh d) | some (.ow o) => some (.io o) | some (.io o) => some (.io o) | none => none) = some x := hb
          split at hb
          · rename_i d hd
            cases hb
            obtain ⟨v', e1, r1⟩ := S1.sl i _ hd
            rw [q] at e1; cases e1
            cases r1 with | sh r1 => exact .sh r1
          · rename_i o hd
            cases hb
            obtain ⟨v', e1, r1⟩ := S1.sl i _ hd
            rw [q] at e1; cases e1
            cases r1 with | ow r1 g => exact .io r1 g
          · rename_i o hd
            cases hb
            obtain ⟨v', e1, r1⟩ := S1.sl i _ hd
            rw [q] at e1; cases e1
            cases r1 with | io r1 g => exact .io r1 g
          · cases hb
      | sh d => exact plain rfl
      | ow o => exact plain rfl
      | tp bs => exact plain rfl
  · rcases objs j x a (at_map.mp h1) h2 (get_map.mp h5) with ⟨i, c, q1, q2, q3, q4⟩ | ⟨b, q1, q2, q3⟩
    · rcases objs k y a (at_map.mp h3) h4 (get_map.mp h6) with ⟨i', c', p1, p2, p3, p4⟩ | ⟨b', p1, p2, p3⟩
      · have := S.dis i i' c c' a q2 q3 p2 p3 q4 p4
        subst this
        exact lent_inj nd q1 p1
      · exact absurd ⟨i, c, q2, q3, q4⟩ (f.no a (inA a p3))
    · rcases objs k y a (at_map.mp h3) h4 (get_map.mp h6) with ⟨i', c', p1, p2, p3, p4⟩ | ⟨b', p1, p2, p3⟩
      · exact absurd ⟨i', c', p2, p3, p4⟩ (f.no a (inA a q3))
      · exact P.uni f.nd j k b b' a q1 p1 q2 p2 (get_map.mp h5) (get_map.mp h6)
  · -- each slot behind the call
    have slot : ∀ i c', (backL ρ bs os).at i = some c' → ρ.at i = some c' ∧ (i ∈ lent bs → ∃ d, c' = .sh d) ∨ ∃ j c o, bs[j]? = some (.pl i) ∧ ρ.at i = some c ∧ c.obj.isSome = true ∧ os.at j = some (.io o) ∧ c' = c.put o := fun i c' e => by
      by_cases hm : i ∈ lent bs
      · obtain ⟨j, ej⟩ := mem_lent hm
        by_cases hu : ∃ u, os[j]? = some (some (.io u))
        · obtain ⟨u, eu⟩ := hu
          have hat : os.at j = some (.io u) := at_of_get eu
          obtain ⟨u0, h0⟩ := T.oi j u hat
          have h0 := at_map.mp h0
          obtain ⟨b, eb, hb⟩ := get j _ h0
          rw [ej] at eb; cases eb
          have hb : (match ρ.at i with | some (.sh d) => some (SB.sh d) | some (.ow o) => some (.io o) | some (.io o) => some (.io o) | none => none) = some (.io u0) := hb
          split at hb
          · cases hb
          · rename_i o ho
            rw [backL_io nd ej eu ho] at e
            cases e
            exact .inr ⟨j, _, u, ej, ho, rfl, hat, rfl⟩
          · rename_i o ho
            rw [backL_io nd ej eu ho] at e
            cases e
            exact .inr ⟨j, _, u, ej, ho, rfl, hat, rfl⟩
          · cases hb
        · have hu : ∀ u, os[j]? ≠ some (some (.io u)) := fun u z => hu ⟨u, z⟩
          rw [backL_no nd ej hu] at e
          refine .inl ⟨e, fun _ => ?_⟩
          -- the slot held data: else it had come back
          have jl : j < sbs.length := by
            have := (List.getElem?_eq_some_iff.mp ej).1
            omega
          obtain ⟨x, ex⟩ : ∃ x, sbs[j]? = some x := ⟨_, List.getElem?_eq_getElem jl⟩
          obtain ⟨b, eb, hb⟩ := get j x ex
          rw [ej] at eb; cases eb
          have io : ∀ o, x = .io o → False := fun o z => by
            subst z
            obtain ⟨⟨o', h'⟩, _⟩ := T.io j o (at_map.mpr ex)
            exact hu o' (get_of_at h').2
          have hb : (match ρ.at i with | some (.sh d) => some (SB.sh d) | some (.ow o) => some (.io o) | some (.io o) => some (.io o) | none => none) = some x := hb
          rw [e] at hb
          cases c' with
          | sh d => exact ⟨d, rfl⟩
          | ow o => cases hb; exact (io _ rfl).elim
          | io o => cases hb; exact (io _ rfl).elim
      · rw [backL_ne hm] at e
        exact .inl ⟨e, fun z => absurd z hm⟩
    have put_io : ∀ (c : SB) o u, c.put o = .io u → ∃ u', c = .io u' := fun c o u e => by cases c <;> cases e; exact ⟨_, rfl⟩
    have obj_put : ∀ (c : SB) o, (c.put o).obj.isSome = true → c.obj.isSome = true := fun c o h => by cases c <;> first | exact h | rfl
    have ownB : ∀ a, Owns σ (backL ρ bs os) a → Owns σ ρ a := fun a ⟨i, c, h1, h2, h3⟩ => by
      rcases slot i c h1 with ⟨e, _⟩ | ⟨j, c0, o, e1, e2, e3, e4, rfl⟩
      · exact ⟨i, c, e, h2, h3⟩
      · exact ⟨i, c0, e2, e3, h3⟩
    have nown0 : ∀ a, ¬ Owns σ ρ a → a ∉ A → ¬ Owns (vs.map some) (sbs.map some) a := fun a n m q => (own0 a q).elim n fun z => m (inA a z)
    -- where a lent slot's value stands
    have atj : ∀ (i j : Nat) (v : V), bs[j]? = some (B.pl i) → σ[i]? = some (some v) → vs[j]? = some v := fun i j v ej es => by
      have jl : j < vs.length := by
        have := (List.getElem?_eq_some_iff.mp ej).1
        omega
      obtain ⟨u, eu⟩ : ∃ u, vs[j]? = some u := ⟨_, List.getElem?_eq_getElem jl⟩
      obtain ⟨Aj, m, rb⟩ := P.oth j _ u ej eu rfl
      cases rb with
      | pl q =>
        rw [es] at q
        cases q
        exact eu
    refine ⟨⟨T1.sub.trans T.sub, fun a o e n m => T.keep a o e (nown0 a n m) (fun z => nomatch z), fun a e n m z => T.nofz a e (nown0 a n m) (fun z => nomatch z) ?_, T.there, fun a q => .inl (ownB a q), fun i o e => ⟨?_, rfl⟩, fun i o e => ?_⟩,
      ⟨S'.sub, by rw [backL_len]; exact S.len, fun i c e => ?_, fun i k b c a h1 h2 h3 h4 h5 h6 => ?_⟩, fun A3 fp nw => ⟨⟨fp.nd, fp.nf, fun a m q => ?_, fp.th⟩, fun a m => ?_⟩⟩
    · rw [addF_out fun q => m ((P.mem a).mpr (.inl q))]; exact z
    · -- lent stays lent
      by_cases hm : i ∈ lent bs
      · obtain ⟨j, ej⟩ := mem_lent hm
        by_cases hu : ∃ u, os[j]? = some (some (.io u))
        · obtain ⟨u, eu⟩ := hu
          exact ⟨u, by rw [backL_io nd ej eu e]; rfl⟩
        · exact ⟨o, by rw [backL_no nd ej fun u z => hu ⟨u, z⟩]; exact e⟩
      · exact ⟨o, by rw [backL_ne hm]; exact e⟩
    · rcases slot i _ e with ⟨e', _⟩ | ⟨j, c0, u, e1, e2, e3, e4, e5⟩
      · exact ⟨o, e'⟩
      · obtain ⟨u', rfl⟩ := put_io _ _ _ e5.symm
        exact ⟨u', e2⟩
    · rcases slot i c e with ⟨e', hs⟩ | ⟨j, c0, u, e1, e2, e3, e4, rfl⟩
      · obtain ⟨v, ev, rv⟩ := S1.sl i c e'
        refine ⟨v, ev, ?_⟩
        -- an object that was not lent
        have nol : ∀ a, v = .ref a → c.obj.isSome = true → ¬ Owns (vs.map some) (sbs.map some) a := fun a e1 oc ⟨j, x, h1, h2, h3⟩ => by
          subst e1
          rcases objs j x a (at_map.mp h1) h2 (get_map.mp h3) with ⟨i', c', q1, q2, q3, q4⟩ | ⟨b, q1, q2, q3⟩
          · have := S.dis i i' c c' a e' oc q2 q3 ev q4
            subst this
            obtain ⟨d, rfl⟩ := hs (lent_of q1)
            cases oc
          · exact f.no a (inA a q3) ⟨i, c, e', oc, ev⟩
        cases rv with
        | sh r => exact .sh (r.mono T.sub)
        | ow r g =>
          have n := nol _ rfl rfl
          obtain ⟨w, hw⟩ := r.some
          exact .ow (r.mono T.sub fun o z => T.keep _ o z n (fun z => nomatch z)) (T.nofz _ (by rw [hw]; simp) n (fun z => nomatch z) g)
        | io r g =>
          have n := nol _ rfl rfl
          obtain ⟨w, hw⟩ := r.some
          exact .io (r.mono T.sub fun o z => T.keep _ o z n (fun z => nomatch z)) (T.nofz _ (by rw [hw]; simp) n (fun z => nomatch z) g)
      · obtain ⟨v, ev, rv⟩ := S'.sl j _ e4
        cases rv with
        | io r g =>
          rename_i a
          obtain ⟨v0, ev0, rv0⟩ := S.sl i c0 e2
          have := atj i j v0 e1 ev0
          have ev := get_map.mp ev
          rw [this] at ev
          cases ev
          refine ⟨_, ev0, ?_⟩
          cases c0 with
          | sh d => cases e3
          | ow o0 => exact .ow r g
          | io o0 => exact .io r g
    · have up : ∀ i b, (backL ρ bs os).at i = some b → b.obj.isSome = true → ∃ b0, ρ.at i = some b0 ∧ b0.obj.isSome = true := fun i b e ob => by
        rcases slot i b e with ⟨e', _⟩ | ⟨j, c0, u, e1, e2, e3, e4, rfl⟩
        · exact ⟨b, e', ob⟩
        · exact ⟨c0, e2, e3⟩
      obtain ⟨b0, q1, q2⟩ := up i b h1 h2
      obtain ⟨c0, q3, q4⟩ := up k c h3 h4
      exact S.dis i k b0 c0 a q1 q2 q3 q4 h5 h6
    · rcases nw a m with z | z | z
      · obtain ⟨j, x, h1, h2, h3⟩ := z
        have ex := at_map.mp h1
        obtain ⟨b, eb, hb⟩ := get j x ex
        rcases handB_io hb with ⟨d, rfl⟩ | ⟨o, rfl⟩
        · cases h2
        · obtain ⟨⟨o', h'⟩, _⟩ := T.io j o h1
          exact fp.no a m ⟨j, _, h', rfl, h3⟩
      · exact nomatch z
      · exact S.own_some (ownB a q) z
    · rcases nw a m with z | z | z
      · exact (own0 a z).imp id fun q => .inl (inA a q)
      · exact nomatch z
      · exact .inr (.inr z)
end

/-! ### a def's promise -/
def FSp (C : Cs) (f : Fn) : Sp := fun vs H Q E => ∃ F sbs r os, f sbs = some (r, os) ∧ Stt C F H (vs.map some) (sbs.map some) ∧
  match r with
  | .ok b => ∀ v A F' H', Tr [] (vs.map some) F H (sbs.map some) (vs.map some) F' H' os → Stt C F' H' (vs.map some) os → noPl b = true → RB C (vs.map some) F' H' v b A → Fp (vs.map some) F' H' os A → New [] (vs.map some) H (sbs.map some) A → Q v H'
  | .exc c p => ∀ cls d F' H', Tr [] (vs.map some) F H (sbs.map some) (vs.map some) F' H' os → Stt C F' H' (vs.map some) os → REx C F' c p cls d H' → E cls d H'
section
variable {cl : Nat → Addr} {X : Cx} {C : Cs} {σ : St} {F H : Hp} {ρ : Env} {A A0 : List Addr} {W : WX} {Q : VK}
theorem call_sp {f : Fn} {args : M (List B)} (h : tM C RlB W (mCall f args) σ H Q) : tM C RlL W args σ H fun vs H1 => FSp C f vs H1 Q (WE W σ) := by
  obtain ⟨F, ρ, S, h⟩ := h
  refine tM_bind (R1 := RlL) S h fun vs bs A F1 H1 ρ1 T1 S1 r1 f1 n1 h1 => ?_
  obtain ⟨r, ρ', e, h1⟩ := h1
  unfold callF at e
  split at e
  · rename_i nd
    split at e
    · cases e
    · rename_i sbs hl
      split at e
      · cases e
      · rename_i r' os hf
        cases e
        obtain ⟨F2, S2, back⟩ := hand_over S1 r1 f1 nd hl
        refine ⟨F2, sbs, r, os, hf, S2, ?_⟩
        cases r with
        | ok b =>
          intro v A2 F' H' T S' np rb fp nw
          obtain ⟨tr, st, new⟩ := back F' H' os T S'
          obtain ⟨fp', nw'⟩ := new A2 fp nw
          exact h1 v A2 F' H' (tr.hand fun a m => by simpa using m) st (rb.chg np) fp' fun a m => (nw' a m).imp id fun z => z.imp (fun z => by simpa using z) id
        | exc c p =>
          intro cls d F' H' T S' x
          obtain ⟨tr, st, new⟩ := back F' H' os T S'
          exact h1 cls d F' H' (tr.hand fun a m => by simpa using m) st x
  · cases e
/-- f(e, ..) -/
theorem sim_call {f : Fn} {fa : Addr} {fd : FuncData} {k : Nat} {ps : List Str} {x : Str} {p pos : Pos} {e : Expr} {es : List Expr} {args : M (List B)} (F : FnOk X.prog X.w X.K X.mg X.base (L2.CX X.prog X.w) k fa fd ps (FSp (cs cl X) f)) (hr : Room k X.A) (hm : X.mg x = some (.ref fa))
    (hk : PySem.W.keepIn X.K (.ref fa) = true) (hb : Binds X.K fd ps []) (ha : SimA cl X (e :: es) args) (hg : Gl X x) (hdb : (x == ("__debug__" : Str)) = false) (he : starEach (e :: es) X.env = (false, eval e X.env) :: starEach es X.env)
    (hpl : (backTo pos (starEach es X.env)).any (·.1) = false) : SimE cl X (.Call (.Name x p) (e :: es) [] pos) (mCall f args) := fun W tk =>
  PE.imp (pe_callS F hr hg hm hk hb (fun σ => passAt tk σ) (ha W tk) hdb he hpl) fun σ H Q h => call_sp h
/-! ### a def, from its body -/
theorem start_map {N : List Str} {vs : List V} {j : Nat} {v : V} (h : (vs.map some : St)[j]? = some (some v)) : (start N vs)[j]? = some (some v) := by
  unfold L2.start
  rw [List.getElem?_append_left (List.getElem?_eq_some_iff.mp h).1]
  exact h
theorem start_rev {N : List Str} {vs : List V} {j : Nat} {v : V} (h : (start N vs)[j]? = some (some v)) : (vs.map some : St)[j]? = some (some v) := by
  unfold L2.start at h
  by_cases hl : j < (vs.map some : St).length
  · rw [List.getElem?_append_left hl] at h; exact h
  · rw [List.getElem?_append_right (by omega)] at h
    have := List.mem_replicate.mp (List.mem_of_getElem? h)
    cases this.2
theorem pad_at {sbs : List SB} {n j : Nat} {b : SB} : Env.at (sbs.map some ++ List.replicate n none) j = some b ↔ Env.at (sbs.map some) j = some b := by
  show (sbs.map some ++ List.replicate n none).getD j none = some b ↔ (sbs.map some).getD j none = some b
  rw [List.getD_eq_getElem?_getD, List.getD_eq_getElem?_getD]
  by_cases hl : j < (sbs.map (some : SB → Option SB)).length
  · rw [List.getElem?_append_left hl]
  · rw [List.getElem?_append_right (by omega), List.getElem?_eq_none (by omega : (sbs.map some).length ≤ j)]
    cases e : (List.replicate n (none : Option SB))[j - (sbs.map some).length]? with
    | none => exact Iff.rfl
    | some u =>
      have := (List.mem_replicate.mp (List.mem_of_getElem? e)).2
      subst this
      exact Iff.rfl
theorem outs_at {np j : Nat} {b : SB} {ρ : Env} : (outs np ρ).at j = some b ↔ j < np ∧ ∃ o, b = .io o ∧ ρ.at j = some (.io o) := by
  unfold outs
  show List.getD _ j none = some b ↔ _
  rw [List.getD_eq_getElem?_getD, List.getElem?_map]
  by_cases hj : j < np
  · rw [List.getElem?_range hj]
    rw [Option.map_some, Option.getD_some]
    generalize ρ.at j = u
    cases u with
    | none => exact ⟨fun h => (nomatch h), fun ⟨_, o, _, h⟩ => (nomatch h)⟩
    | some c =>
      cases c with
      | sh d => exact ⟨fun h => (nomatch h), fun ⟨_, o, _, h⟩ => (nomatch h)⟩
      | ow o => exact ⟨fun h => (nomatch h), fun ⟨_, o, _, h⟩ => (nomatch h)⟩
      | io o => exact ⟨fun h => by cases h; exact ⟨hj, _, rfl, rfl⟩, fun ⟨_, o', e, h⟩ => by cases h; rw [e]⟩
  · rw [List.getElem?_eq_none (by simp; omega)]
    simp [hj]
theorem fn_spec {np n : Nat} {N : List Str} {body : S} {vs : List V} {E : XK} (hN : N.length = n) (hnp : np ≤ n) (h : FSp C (mkFn np n body) vs H Q E) : vs.length = np ∧ tS C (fun cls d _ H' => E cls d H') body { nx := fun _ H' => Q .non H', rt := Q } (start N vs) H := by
  obtain ⟨F, sbs, r, os, hf, S, h⟩ := h
  have hl : sbs.length = vs.length := by simpa using S.len
  unfold mkFn at hf
  split at hf
  rotate_left
  · cases hf
  rename_i hnp'
  have hv : vs.length = np := by rw [← hl]; exact hnp'
  refine ⟨hv, F, sbs.map some ++ List.replicate (n - np) none, ?_, ?_⟩
  · refine ⟨S.sub, ?_, fun i b e => ?_, fun i k b c a h1 h2 h3 h4 h5 h6 => ?_⟩
    · unfold L2.start
      simp [hl, hv, hN]
    · obtain ⟨v, e1, r1⟩ := S.sl i b (pad_at.mp e)
      exact ⟨v, start_map e1, r1⟩
    · exact S.dis i k b c a (pad_at.mp h1) h2 (pad_at.mp h3) h4 (start_rev h5) (start_rev h6)
  · have own_up : ∀ a, Owns (start N vs) (sbs.map some ++ List.replicate (n - np) none) a ↔ Owns (vs.map some) (sbs.map some) a := fun a =>
      ⟨fun ⟨i, b, h1, h2, h3⟩ => ⟨i, b, pad_at.mp h1, h2, start_rev h3⟩, fun ⟨i, b, h1, h2, h3⟩ => ⟨i, b, pad_at.mpr h1, h2, start_map h3⟩⟩
    -- what the caller sees
    have seen : ∀ σ' F' H' ρ', Tr [] (start N vs) F H (sbs.map some ++ List.replicate (n - np) none) σ' F' H' ρ' → Stt C F' H' σ' ρ' →
        Tr [] (vs.map some) F H (sbs.map some) (vs.map some) F' H' (outs np ρ') ∧ Stt C F' H' (vs.map some) (outs np ρ') ∧ ∀ A, Fp σ' F' H' ρ' A → New [] (start N vs) H (sbs.map some ++ List.replicate (n - np) none) A → Fp (vs.map some) F' H' (outs np ρ') A ∧ New [] (vs.map some) H (sbs.map some) A := fun σ' F' H' ρ' T S' => by
      have len' : (outs np ρ').length = (vs.map some : St).length := by
        unfold outs
        simp [hv]
      -- a parameter that is lent
      have lentIn : ∀ j o, (outs np ρ').at j = some (.io o) → ρ'.at j = some (.io o) ∧ ∃ o0, Env.at (sbs.map some) j = some (.io o0) ∧ σ'[j]? = (vs.map some : St)[j]? := fun j o e => by
        obtain ⟨hj, o', e1, e2⟩ := outs_at.mp e
        cases e1
        obtain ⟨o0, h0⟩ := T.oi j o e2
        obtain ⟨_, h1⟩ := T.io j o0 h0
        refine ⟨e2, o0, pad_at.mp h0, h1.trans ?_⟩
        unfold L2.start
        rw [List.getElem?_append_left (by simp; omega)]
      have isio : ∀ j b, (outs np ρ').at j = some b → ∃ o, b = .io o := fun j b e => let ⟨_, o, e1, _⟩ := outs_at.mp e; ⟨o, e1⟩
      have ownO : ∀ a, Owns (vs.map some) (outs np ρ') a → Owns σ' ρ' a ∧ Owns (vs.map some) (sbs.map some) a := fun a ⟨j, b, h1, h2, h3⟩ => by
        obtain ⟨o, rfl⟩ := isio j b h1
        obtain ⟨e2, o0, e3, e4⟩ := lentIn j o h1
        exact ⟨⟨j, _, e2, rfl, e4.trans h3⟩, j, _, e3, rfl, h3⟩
      have nw0 : ∀ a, ¬ Owns (vs.map some) (sbs.map some) a → ¬ Owns (L2.start N vs) (sbs.map some ++ List.replicate (n - np) none) a := fun a n q => n ((own_up a).mp q)
      refine ⟨⟨T.sub, fun a o e n1 _ => T.keep a o e (nw0 a n1) (fun z => nomatch z), fun a e n1 _ z => T.nofz a e (nw0 a n1) (fun z => nomatch z) z, T.there, fun a q => .inl (ownO a q).2, fun j o e => ⟨?_, rfl⟩, fun j o e => ?_⟩,
        ⟨S'.sub, len', fun j b e => ?_, fun i k b c a h1 h2 h3 h4 h5 h6 => ?_⟩, fun A fp nw => ⟨⟨fp.nd, fp.nf, fun a m q => fp.no a m (ownO a q).1, fp.th⟩, fun a m => (nw a m).imp (own_up a).mp id⟩⟩
      · obtain ⟨⟨o', h'⟩, _⟩ := T.io j o (pad_at.mpr e)
        refine ⟨o', outs_at.mpr ⟨?_, o', rfl, h'⟩⟩
        have := (List.getElem?_eq_some_iff.mp (at_map.mp e)).1
        omega
      · obtain ⟨_, o0, e3, _⟩ := lentIn j o e
        exact ⟨o0, e3⟩
      · obtain ⟨o, rfl⟩ := isio j b e
        obtain ⟨e2, o0, e3, e4⟩ := lentIn j o e
        obtain ⟨v, h1, h2⟩ := S'.sl j _ e2
        exact ⟨v, by rw [← e4]; exact h1, h2⟩
      · obtain ⟨o, rfl⟩ := isio i b h1
        obtain ⟨o', rfl⟩ := isio k c h3
        obtain ⟨e2, _, _, e4⟩ := lentIn i o h1
        obtain ⟨p2, _, _, p4⟩ := lentIn k o' h3
        exact S'.dis i k _ _ a e2 rfl p2 rfl (e4.trans h5) (p4.trans h6)
    unfold tSR
    split at hf
    · cases hf
    · rename_i b ρ' hb
      cases hf
      refine ⟨_, _, hb, fun v A σ' F' H' T S' np rb fp nw => ?_⟩
      obtain ⟨t1, s1, x⟩ := seen σ' F' H' ρ' T S'
      obtain ⟨f1, n1⟩ := x A fp nw
      exact h v A F' H' t1 s1 np (rb.chg np) f1 n1
    · rename_i ρ' hb
      cases hf
      refine ⟨_, _, hb, fun σ' F' H' T S' => ?_⟩
      obtain ⟨t1, s1, x⟩ := seen σ' F' H' ρ' T S'
      exact h .non [] F' H' t1 s1 rfl (.sh .non) Fp.nil New.nil
    · cases hf
    · rename_i c p ρ' hb
      cases hf
      refine ⟨_, _, hb, fun cls d σ' F' H' T S' x => ?_⟩
      obtain ⟨t1, s1, _⟩ := seen σ' F' H' ρ' T S'
      exact h cls d F' H' t1 s1 x
/-- a def that may raise, its body done -/
theorem fn_ok {P : Program} {w : World} {K : PySem.W.Frag} {mg : Str → Option Value} {base : Heap} {x qual : Str} {st : Stmt} {f : Addr} {fd : FuncData} {N ps : List Str} {k np n : Nat} {body : S} (cl : Nat → Addr) (Fu : Fun K x qual st f fd) (Sc : FnScope N ps (defScope st)) (hN : N.length = n) (hps : ps.length = np) (hnp : np ≤ n)
    (hb : ∀ (cdv : Value) (A : Around) (outer : List PySem.Env) (s : Shared) (H : Hp) (E : XK), Room k (A.deeper (envOfC qual (defScope st) s.heap.objs.size f cdv)) → SimB cl (cxOf (L2.CX P w) P w K mg base N qual (defScope st) f cdv A outer s H E) (defBody st) body) :
    FnOk P w K mg base (L2.CX P w) (k + 1) f fd ps (FSp ⟨P, w, K, cl⟩ (mkFn np n body)) := by
  refine Fu.okX Sc (fun vs H Q E h => ?_) (fun cdv A outer s H vs Q E hr h => ⟨_, hb cdv A outer s H E hr (fun cls d _ H => E cls d H) (takes_of rfl rfl rfl rfl), ?_⟩)
  · rw [hps]; exact (fn_spec (N := N) hN hnp h).1
  · exact (fn_spec (N := N) hN hnp h).2
end
end WF

set_option Elab.async false
set_option linter.all false
set_option maxRecDepth 100000
set_option maxHeartbeats 4000000
/-! WFL: what is walked; targets; for, while; comprehensions. -/
namespace WF
open PySem PySem.Spec PyProof.Rows L2

/-- J brings the data ds, one by one, while F stands -/
structure Gives (C : Cs) (F : Hp) (J : It) (ds : List D) : Prop where
  goes : ∀ i H, i < ds.length → Sub F H → J.go i H
  stops : ∀ H, Sub F H → J.stop ds.length H
  yields : ∀ i H v H', i < ds.length → Sub F H → J.yld i H v H' → ∃ d, ds[i]? = some d ∧ ((H' = H ∧ Rep C F v d) ∨ ∃ (T : Addr) (xs : List V) (es : List D), v = .ref T ∧ H T = none ∧ H' = upd H T (.tup xs) ∧ d = .tup es ∧ Reps C F xs es)
abbrev RlI : Rl It (List D) := ⟨fun C _ F _ J ds A => Gives C F J ds ∧ A = []⟩
section
variable (cl : Nat → Addr) (X : Cx)
def SimI (tg iter : Expr) (m : M (List D)) : Prop := ∀ W, Takes X W → PI X tg iter (tM (cs cl X) RlI W m)
end
theorem PI.imp {X : Cx} {tg e : Expr} {t t' : TI} (h : PI X tg e t) (i : ∀ σ H R, t' σ H R → t σ H R) : PI X tg e t' := ⟨fun pins s σ H R I q => h.run pins s σ H R I (i σ H R q)⟩
section
variable {cl : Nat → Addr} {X : Cx} {C : Cs} {σ : St} {F H F1 : Hp} {ρ ρ1 : Env} {A A0 : List Addr} {W : WX}
/-- what J brings at turn i, shared -/
theorem Gives.take {J : It} {ds : List D} (g : Gives C F1 J ds) {i : Nat} {v : V} {H' : Hp} (hi : i < ds.length) (S : Stt C F H σ ρ) (s : Sub F1 F) (y : J.yld i H v H') :
    ∃ d F', ds[i]? = some d ∧ Stt C F' H' σ ρ ∧ Tr [] σ F H ρ σ F' H' ρ ∧ Rep C F' v d := by
  obtain ⟨d, ed, q⟩ := g.yields i H v H' hi (s.trans S.sub) y
  rcases q with ⟨rfl, r⟩ | ⟨T, xs, es, rfl, hT, rfl, rfl, r⟩
  · exact ⟨d, F, ed, S, Tr.refl, r.mono s⟩
  · obtain ⟨S1, T1⟩ := new_sh (o := .tup xs) S hT
    exact ⟨_, _, ed, S1, T1, .tup (.inl (.inl upd_same)) ((r.mono s).mono T1.sub)⟩
/-! ### lists, tuples -/
theorem len_idx {α : Type} {xs : List α} {n i : Nat} (h : xs.length = n) (hi : i < n) : ∃ x, xs[i]? = some x := ⟨_, List.getElem?_eq_getElem (by omega)⟩
theorem reps_idx {F : Hp} : ∀ {xs : List V} {ds : List D}, Reps C F xs ds → ∀ {j : Nat} {v : V}, xs[j]? = some v → ∃ d, ds[j]? = some d ∧ Rep C F v d
  | _, _, .nil, _, _, e => by simp at e
  | _, _, .cons r t, 0, _, e => by simp at e; subst e; exact ⟨_, rfl, r⟩
  | _, _, .cons r t, j + 1, _, e => by
    obtain ⟨d, h1, h2⟩ := reps_idx t (j := j) (by simpa using e)
    exact ⟨d, by simpa using h1, h2⟩
theorem gives_list {a : Addr} {xs : List V} {ds : List D} (h : SqL C.K F a xs) (r : Reps C F xs ds) : Gives C F (Itl C.K a) ds := by
  have hl := r.length
  refine ⟨fun i H hi s => ?_, fun H s => ?_, fun i H v H' hi s y => ?_⟩
  · obtain ⟨x, ex⟩ := len_idx hl hi
    exact ⟨xs, x, s.sqL h, ex⟩
  · exact ⟨xs, s.sqL h, by omega⟩
  · obtain ⟨rfl, q⟩ := y
    obtain ⟨d, e1, e2⟩ := reps_idx r (q xs (s.sqL h))
    exact ⟨d, e1, .inl ⟨rfl, e2⟩⟩
theorem gives_tup {a : Addr} {xs : List V} {ds : List D} (h : SqT C.K F a xs) (r : Reps C F xs ds) : Gives C F (Itt C.K a) ds := by
  have hl := r.length
  refine ⟨fun i H hi s => ?_, fun H s => ?_, fun i H v H' hi s y => ?_⟩
  · obtain ⟨x, ex⟩ := len_idx hl hi
    exact ⟨xs, x, s.sqT h, ex⟩
  · exact ⟨xs, s.sqT h, by omega⟩
  · obtain ⟨rfl, q⟩ := y
    obtain ⟨d, e1, e2⟩ := reps_idx r (q xs (s.sqT h))
    exact ⟨d, e1, .inl ⟨rfl, e2⟩⟩
theorem iter_l {pins : List (Addr × Obj)} {s : Shared} {tg : Expr} {E : Value → Shared → Prop} {R : It → Hp → Prop} {a : Addr} {xs : List V} (I : Inv X pins σ H s) (h : SqL X.K H a xs) (q : R (Itl X.K a) H) : wpAny (model X.prog X.w) X.A (pyIter (.ref a)) (PIE X pins σ tg R) E s := by
  obtain ⟨us, ru, is, _⟩ := I.list h
  refine wpAny_pyIter_list is.isList ⟨s.heap.objs.size, [s.heap.objs.size], _, _, H, rfl, I.kept (t' := s.toks) fun _ _ z => Heap.get?_push_of_some _ z, turn_list a _, ?_, fun c m => ?_, q⟩
  · exact ⟨_, Heap.get?_push_size _ rfl, rfl, rfl⟩
  · rw [List.mem_singleton.mp m]
    exact I.fpOk (Nat.le_refl _) (I.hok.fresh (Nat.le_refl _))
theorem iter_t {pins : List (Addr × Obj)} {s : Shared} {tg : Expr} {E : Value → Shared → Prop} {R : It → Hp → Prop} {a : Addr} {xs : List V} (I : Inv X pins σ H s) (h : SqT X.K H a xs) (q : R (Itt X.K a) H) : wpAny (model X.prog X.w) X.A (pyIter (.ref a)) (PIE X pins σ tg R) E s := by
  obtain ⟨us, ru, is, _⟩ := I.tuple h
  refine wpAny_pyIter_tuple (show s.heap.IsTuple a us.toArray from is) ⟨s.heap.objs.size, [s.heap.objs.size], _, _, H, rfl, I.kept (t' := s.toks) fun _ _ z => Heap.get?_push_of_some _ z, turn_tuple a _, ?_, fun c m => ?_, q⟩
  · exact ⟨_, Heap.get?_push_size _ rfl, rfl, rfl⟩
  · rw [List.mem_singleton.mp m]
    exact I.fpOk (Nat.le_refl _) (I.hok.fresh (Nat.le_refl _))
/-- a list or a tuple, walked -/
def rIt (K : PySem.W.Frag) (x : V) (H : Hp) (R : It → Hp → Prop) : Prop := ∃ a, x = .ref a ∧ ((∃ xs, SqL K H a xs) ∧ R (Itl K a) H ∨ (∃ xs, SqT K H a xs) ∧ R (Itt K a) H)
theorem pi_lt {tg l : Expr} {tl : TE} (hl : PE X l tl) : PI X tg l (fun σ H R => tl σ H fun x H1 => rIt X.K x H1 R) := ⟨fun pins s σ H R I h =>
  thn (hl.run pins s σ H _ I h) fun v s1 ⟨x, H1, I1, r1, a, e, q⟩ => by
    subst e
    cases r1
    rcases q with ⟨⟨xs, g⟩, q⟩ | ⟨⟨xs, g⟩, q⟩
    · exact iter_l I1 g q
    · exact iter_t I1 g q⟩
theorem kept1 {α β : Type} {R : Rl β α} {Q : β → Hp → Prop} {x : V} {b : B} {k : List D → M α} (S : Stt C F H σ ρ) (r : RB C σ F H x b A) (f : Fp σ F H ρ A) (h : tR C R W (A0 ++ A) F ρ (bind (kept [b]) k) σ H Q) :
    ∃ d F1, Stt C F1 H σ ρ ∧ Rep C F1 x d ∧ Sub F F1 ∧ tR C R W A0 F1 ρ (k [d]) σ H Q := by
  have rs : RBs C σ F H [x] [b] (A ++ []) := .cons r .nil
  obtain ⟨ds, F1, e, n, S1, rd, sb, h1⟩ := tR_kept S rs (by rw [List.append_nil]; exact f) (by rw [List.append_nil]; exact h)
  cases rd with
  | cons r1 t => cases t; exact ⟨_, F1, S1, r1, sb, h1⟩
theorem sim_items {tg l : Expr} {m : M B} (ha : SimE cl X l m) : SimI cl X tg l (items m) := fun W tk => PI.imp (pi_lt (ha W tk)) fun σ H R ⟨F, ρ, S, h⟩ =>
  tM_bind (R1 := RlB) S h fun x b A F1 H1 ρ1 T1 S1 r1 f1 n1 h1 => by
    obtain ⟨d, F2, S2, rd, sb, h2⟩ := kept1 S1 r1 f1 h1
    obtain ⟨ds, e, q⟩ := tR_end h2
    unfold dItems at e
    split at e
    · cases e
      cases rd with
      | tup g r => exact ⟨_, rfl, .inr ⟨⟨_, S2.sub.sqT g⟩, q _ [] F2 H1 Tr.refl S2 ⟨gives_tup g r, rfl⟩ Fp.nil New.nil⟩⟩
    · cases e
      cases rd with
      | lst g r => exact ⟨_, rfl, .inl ⟨⟨_, S2.sub.sqL g⟩, q _ [] F2 H1 Tr.refl S2 ⟨gives_list g r, rfl⟩ Fp.nil New.nil⟩⟩
    · cases e
/-! ### range -/
theorem gives_range {F : Hp} (lo : Int) (n : Nat) : Gives C F (Itr lo n) ((List.range n).map fun (i : Nat) => D.int (lo + i)) := by
  refine ⟨fun i H hi _ => ?_, fun H _ => ?_, fun i H v H' hi _ y => ?_⟩
  · show i < n
    simpa using hi
  · show n ≤ _
    simp
  · obtain ⟨rfl, rfl⟩ := y
    have hi : i < n := by simpa using hi
    exact ⟨.int (lo + i), by simp [hi], .inl ⟨rfl, .int _⟩⟩
theorem upto_eq (n : Nat) : upto n = (List.range n).map fun (i : Nat) => D.int (0 + i) := by
  unfold upto
  simp
theorem dec_and {p q : Prop} [Decidable p] [Decidable q] (h : (decide p && decide q) = true) : p ∧ q := by
  rw [Bool.and_eq_true] at h
  exact ⟨of_decide_eq_true h.1, of_decide_eq_true h.2⟩
theorem sim_range {tg a : Expr} {p pos : Pos} {m : M B} (b : Bn X "range") (ha : SimE cl X a m) (hs : starEach [a] X.env = [(false, eval a X.env)]) (he : starEach [a] X.env = (false, eval a X.env) :: starEach [] X.env) : SimI cl X tg (.Call (.Name "range" p) [a] [] pos) (itRange m) :=
  fun W tk => PI.imp (pi_range1 b.gl b.mg (pa_cons (ha W tk) pa_nil he) hs) fun σ H R ⟨F, ρ, S, h⟩ => one_bind S h fun x d F2 H2 ρ2 S2 v q => by
    cases d with
    | int n =>
      obtain ⟨hc, q⟩ := tR_if q
      obtain ⟨h1, h2⟩ := dec_and hc
      refine ⟨n, by rw [v.int], h2, h1, tR_ret q _ [] F2 H2 Tr.refl S2 ⟨?_, rfl⟩ Fp.nil New.nil⟩
      rw [upto_eq]
      exact gives_range 0 n.toNat
    | _ => exact tR_stuck q
theorem sim_range2 {tg a c : Expr} {p pos : Pos} {m mc : M B} (b : Bn X "range") (ha : SimE cl X a m) (hc : SimE cl X c mc) (hs : starEach [a, c] X.env = [(false, eval a X.env), (false, eval c X.env)]) (hs2 : starEach [c] X.env = [(false, eval c X.env)])
    (he : starEach [a, c] X.env = (false, eval a X.env) :: starEach [c] X.env) (he2 : starEach [c] X.env = (false, eval c X.env) :: starEach [] X.env) : SimI cl X tg (.Call (.Name "range" p) [a, c] [] pos) (itRange2 m mc) :=
  fun W tk => PI.imp (pi_range2 b.gl b.mg (pa_cons (ha W tk) (pa_cons (hc W tk) pa_nil he2) he) hs hs2) fun σ H R ⟨F, ρ, S, h⟩ => two_bind S h fun x y d e F2 H2 ρ2 S2 v w q => by
    cases d with
    | int l =>
      cases e with
      | int n =>
        obtain ⟨hc, q⟩ := tR_if q
        rw [Bool.and_eq_true, Bool.and_eq_true, Bool.and_eq_true] at hc
        have h1 := of_decide_eq_true hc.1.1.1
        have h2 := of_decide_eq_true hc.1.1.2
        have h3 := of_decide_eq_true hc.1.2
        have h4 := of_decide_eq_true hc.2
        exact ⟨l, n, by rw [v.int, w.int], ⟨h4, h3, h2, h1⟩, tR_ret q _ [] F2 H2 Tr.refl S2 ⟨gives_range l _, rfl⟩ Fp.nil New.nil⟩
      | _ => exact tR_stuck q
    | _ => exact tR_stuck q
/-! ### zip -/
theorem zipD_len : ∀ (xs ys : List D), (zipD xs ys).length = min xs.length ys.length
  | [], ys => by simp [zipD]
  | _ :: _, [] => by simp [zipD]
  | x :: xs, y :: ys => by simp [zipD, zipD_len xs ys]
theorem zipD_get : ∀ {xs ys : List D} {i : Nat} {x y : D}, xs[i]? = some x → ys[i]? = some y → (zipD xs ys)[i]? = some (.tup [x, y])
  | [], _, _, _, _, e, _ => by simp at e
  | _ :: _, [], _, _, _, _, e => by simp at e
  | a :: xs, b :: ys, 0, x, y, e1, e2 => by simp at e1 e2; subst e1; subst e2; rfl
  | a :: xs, b :: ys, i + 1, x, y, e1, e2 => zipD_get (xs := xs) (ys := ys) (i := i) (by simpa using e1) (by simpa using e2)
theorem gives_zip {F : Hp} {a b : Addr} {xs ys : List V} {ds es : List D} (h1 : SqL C.K F a xs) (h2 : SqL C.K F b ys) (r1 : Reps C F xs ds) (r2 : Reps C F ys es) : Gives C F (Itz C.K a b) (zipD ds es) := by
  have l1 := r1.length
  have l2 := r2.length
  refine ⟨fun i H hi s => ?_, fun H s => ?_, fun i H v H' hi s y => ?_⟩
  · rw [zipD_len] at hi
    obtain ⟨x, ex⟩ := len_idx (i := i) l1 (by omega)
    obtain ⟨z, ez⟩ := len_idx (i := i) l2 (by omega)
    exact ⟨xs, ys, x, z, s.sqL h1, s.sqL h2, ex, ez⟩
  · rw [zipD_len]
    exact ⟨xs, ys, s.sqL h1, s.sqL h2, by omega⟩
  · obtain ⟨T, x, z, e1, e2, e3, e4, e5⟩ := y
    obtain ⟨d, p1, p2⟩ := reps_idx r1 (e4 xs (s.sqL h1))
    obtain ⟨e, p3, p4⟩ := reps_idx r2 (e5 ys (s.sqL h2))
    exact ⟨_, zipD_get p1 p3, .inr ⟨T, [x, z], [d, e], e1, e2, e3, rfl, .cons p2 (.cons p4 .nil)⟩⟩
theorem gives_zipT {F : Hp} {a b : Addr} {xs ys : List V} {ds es : List D} (h1 : SqT C.K F a xs) (h2 : SqT C.K F b ys) (r1 : Reps C F xs ds) (r2 : Reps C F ys es) : Gives C F (RZ.ItzT C.K a b) (zipD ds es) := by
  have l1 := r1.length
  have l2 := r2.length
  refine ⟨fun i H hi s => ?_, fun H s => ?_, fun i H v H' hi s y => ?_⟩
  · rw [zipD_len] at hi
    obtain ⟨x, ex⟩ := len_idx (i := i) l1 (by omega)
    obtain ⟨z, ez⟩ := len_idx (i := i) l2 (by omega)
    exact ⟨xs, ys, x, z, s.sqT h1, s.sqT h2, ex, ez⟩
  · rw [zipD_len]
    exact ⟨xs, ys, s.sqT h1, s.sqT h2, by omega⟩
  · obtain ⟨T, x, z, e1, e2, e3, e4, e5⟩ := y
    obtain ⟨d, p1, p2⟩ := reps_idx r1 (e4 xs (s.sqT h1))
    obtain ⟨e, p3, p4⟩ := reps_idx r2 (e5 ys (s.sqT h2))
    exact ⟨_, zipD_get p1 p3, .inr ⟨T, [x, z], [d, e], e1, e2, e3, rfl, .cons p2 (.cons p4 .nil)⟩⟩
theorem kept2 {α β : Type} {R : Rl β α} {Q : β → Hp → Prop} {x y : V} {b c : B} {A' : List Addr} {k : List D → M α} (S : Stt C F H σ ρ) (r : RB C σ F H x b A) (r' : RB C σ F H y c A') (f : Fp σ F H ρ (A ++ A')) (h : tR C R W (A0 ++ (A ++ A')) F ρ (bind (kept [b, c]) k) σ H Q) :
    ∃ d e F1, Stt C F1 H σ ρ ∧ Rep C F1 x d ∧ Rep C F1 y e ∧ Sub F F1 ∧ tR C R W A0 F1 ρ (k [d, e]) σ H Q := by
  have rs : RBs C σ F H [x, y] [b, c] (A ++ (A' ++ [])) := .cons r (.cons r' .nil)
  obtain ⟨ds, F1, e, n, S1, rd, sb, h1⟩ := tR_kept S rs (by rw [List.append_nil]; exact f) (by rw [List.append_nil]; exact h)
  cases rd with
  | cons r1 t =>
    cases t with
    | cons r2 t => cases t; exact ⟨_, _, F1, S1, r1, r2, sb, h1⟩
theorem sim_zip {elts : List Expr} {kk : Nat} {tpos : Pos} {a c : Expr} {p pos : Pos} {m mc : M B} (b : Bn X "zip") (ha : SimE cl X a m) (hc : SimE cl X c mc) (hs : starEach [a, c] X.env = (false, eval a X.env) :: starEach [c] X.env) (he2 : starEach [c] X.env = (false, eval c X.env) :: starEach [] X.env)
    (hpl : (backTo pos (starEach [c] X.env)).any (·.1) = false) : SimI cl X (.Tuple elts kk tpos) (.Call (.Name "zip" p) [a, c] [] pos) (itZip m mc) :=
  fun W tk => PI.imp (RZ.pi_zipA b.gl b.mg (pa_cons (ha W tk) (pa_cons (hc W tk) pa_nil he2) hs) hs hpl) fun σ H R ⟨F, ρ, S, h⟩ => by
    refine tM_bind (R1 := RlB) S h fun x b A F1 H1 ρ1 T1 S1 r1 f1 n1 h1 => ?_
    refine tM_bind (R1 := RlB) S1 h1 fun y c A' F2 H2 ρ2 T2 S2 r2 f2 n2 h2 => ?_
    rw [List.append_assoc] at h2
    obtain ⟨d, e, F3, S3, rd, re, sb, h3⟩ := kept2 S2 (r1.mono (F' := F2) (H' := H2) T2.sub fun z m => f1.keep T2 m) r2 (f1.append T2 f2 n2) h2
    obtain ⟨zs, ez, q⟩ := tR_end h3
    unfold iZip2 at ez
    split at ez
    · cases ez
      cases rd with
      | tup g1 q1 => cases re with | tup g2 q2 => exact ⟨_, _, _, _, rfl, .inr ⟨S3.sub.sqT g1, S3.sub.sqT g2, q _ [] F3 H2 Tr.refl S3 ⟨gives_zipT g1 g2 q1 q2, rfl⟩ Fp.nil New.nil⟩⟩
    · cases ez
      cases rd with
      | lst g1 q1 => cases re with | lst g2 q2 => exact ⟨_, _, _, _, rfl, .inl ⟨S3.sub.sqL g1, S3.sub.sqL g2, q _ [] F3 H2 Tr.refl S3 ⟨gives_zip g1 g2 q1 q2, rfl⟩ Fp.nil New.nil⟩⟩
    · cases ez

/-! ### targets -/
structure SimG (C : Cs) (X : Cx) (tg : Expr) (t : Tg) : Prop where
  ex : ∃ g : TG, PG X tg g ∧ ∀ {σ : St} {F H : Hp} {ρ ρ1 : Env} {v : V} {d : D} {Q : St → Hp → Prop}, Stt C F H σ ρ → Rep C F v d → putTg ρ t d = some ρ1 →
    (∀ σ2, Stt C F H σ2 ρ1 → Tr [] σ F H ρ σ2 F H ρ1 → (∀ ks : List Nat, (∀ i ∈ t.slots, i ∈ ks) → wipe σ2 ks = wipe σ ks) → Q σ2 H) → g v σ H Q
theorem set_comm_none {σ : St} {i j : Nat} {v : Option V} : (σ.set i v).set j none = if i = j then σ.set j none else (σ.set j none).set i v := by
  by_cases e : i = j
  · subst e; rw [if_pos rfl, List.set_set]
  · rw [if_neg e, List.set_comm _ _ e]
theorem wipe_set {σ : St} {i : Nat} {v : Option V} : ∀ {ks : List Nat}, i ∈ ks → wipe (σ.set i v) ks = wipe σ ks
  | [], h => nomatch h
  | k :: ks, h => by
    have out : ∀ ks : List Nat, wipe (σ.set i v) ks = if i ∈ ks then wipe σ ks else (wipe σ ks).set i v := fun ks => by
      induction ks with
      | nil => simp [wipe]
      | cons k ks ih =>
        show (wipe (σ.set i v) ks).set k none = _
        rw [ih]
        by_cases m : i ∈ ks
        · rw [if_pos m, if_pos (List.mem_cons_of_mem _ m)]; rfl
        · rw [if_neg m, set_comm_none]
          by_cases e : i = k
          · subst e
            rw [if_pos rfl, if_pos List.mem_cons_self]; rfl
          · rw [if_neg e, if_neg (fun z => (List.mem_cons.mp z).elim e m)]; rfl
    rw [out, if_pos h]
theorem put_sh {i : Nat} {v : V} {d : D} (S : Stt C F H σ ρ) (r : Rep C F v d) (e : putS ρ i (.sh d) = some ρ1) : Stt C F H (σ.set i (some v)) ρ1 ∧ Tr [] σ F H ρ (σ.set i (some v)) F H ρ1 :=
  bind_slot (A := []) S e (fun o z => (nomatch z)) (.sh r) fun a z => (nomatch z)
theorem simG_one {i : Nat} {x : Str} {pos : Pos} (hN : X.N.Nodup) (hi : X.N[i]? = some x) (hx : Loc X.env.scope x) (hf : X.fn x = true ∨ X.env.scope.names.lookup x = some .local) : SimG C X (.Name x pos) (.one i) :=
  ⟨gName i, pg_name hN hi hx hf, fun {σ F H ρ ρ1 v d Q} S r e k => by
    obtain ⟨S1, T1⟩ := put_sh S r (show putS ρ i (.sh d) = some ρ1 from e)
    exact k _ S1 T1 fun ks h => wipe_set (h i (by simp [Tg.slots]))⟩
/-- names, one after another -/
def gSlots : List Nat → TGs
  | [] => gNil
  | i :: is => gCons (gName i) (gSlots is)
theorem pgs_one {i : Nat} {is : List Nat} {x : Str} {pos : Pos} {es : List Expr} (hN : X.N.Nodup) (hi : X.N[i]? = some x) (hx : Loc X.env.scope x) (hf : X.fn x = true ∨ X.env.scope.names.lookup x = some .local) (h : PGs X es (gSlots is))
    (hs : (assignEach (.Name x pos :: es) X.env).map (·.2) = assign (.Name x pos) X.env :: (assignEach es X.env).map (·.2)) : PGs X (.Name x pos :: es) (gSlots (i :: is)) := pgs_cons (pg_name hN hi hx hf) h hs
theorem slots_go {Q : St → Hp → Prop} : ∀ {is : List Nat} {vs : List V} {ds : List D} {σ : St} {ρ : Env}, Stt C F H σ ρ → Reps C F vs ds → putSs ρ is ds = some ρ1 →
    (∀ σ2, Stt C F H σ2 ρ1 → Tr [] σ F H ρ σ2 F H ρ1 → (∀ ks : List Nat, (∀ i ∈ is, i ∈ ks) → wipe σ2 ks = wipe σ ks) → Q σ2 H) → gSlots is vs σ H Q
  | [], _, _, σ, ρ, S, .nil, e, k => by
    cases e
    exact ⟨rfl, k _ S Tr.refl fun _ _ => rfl⟩
  | [], _, _, _, _, _, .cons _ _, e, _ => by cases e
  | _ :: _, _, _, _, _, _, .nil, e, _ => by cases e
  | i :: is, v :: vs, d :: ds, σ, ρ, S, .cons r t, e, k => by
    have e : (match putS ρ i (.sh d) with | some ρ2 => putSs ρ2 is ds | none => none) = some ρ1 := e
    split at e
    · rename_i ρ2 e2
      obtain ⟨S1, T1⟩ := put_sh S r e2
      refine ⟨v, vs, rfl, slots_go S1 t e fun σ2 S2 T2 w => k σ2 S2 (T1.trans (A1 := []) (fun _ z => nomatch z) T2) fun ks h => ?_⟩
      rw [w ks fun j m => h j (List.mem_cons_of_mem _ m), wipe_set (h i List.mem_cons_self)]
    · cases e
theorem simG_tup {is : List Nat} {es : List Expr} {kk : Nat} {pos : Pos} {n : Nat} (hc : X.calm = true) (h : PGs X es (gSlots is)) (hl : is.length = n) (hn : (assignEach es X.env).length = n) (hst : (assignEach es X.env).findIdx? (·.1) = none) (hK : C.K = X.K) : SimG C X (.Tuple es kk pos) (.tup is) :=
  ⟨_, pg_tup hc h hn hst, fun {σ F H ρ ρ1 v d Q} S r e k => by
    cases d with
    | tup ds =>
      have e : (if is.length = ds.length then putSs ρ is ds else none) = some ρ1 := e
      split at e
      · rename_i hl'
        cases r with
        | tup g rs => exact ⟨_, _, rfl, by rw [← hK]; exact S.sub.sqT g, by rw [rs.length, ← hl', hl], slots_go S rs e fun σ2 S2 T2 w => k σ2 S2 T2 fun ks hh => w ks hh⟩
      · cases e
    | _ => cases e⟩

/-! ### for, while -/
/-- the body of a loop, and what follows it -/
theorem loop_turn {body k : S} {D : Ends} (S : Stt C F H σ ρ) (h : tSR C W A0 F ρ (bind body (fun f => match f with | .nx => k | .ct => k | .bk => ret .nx | .rt b => ret (.rt b))) D σ H) {N : St → Hp → Prop}
    (hN : ∀ σ' F' H' ρ', Stt C F' H' σ' ρ' → Sub F F' → tSR C W [] F' ρ' k D σ' H' → N σ' H') : tS C W body { D with nx := N, ct := N, bk := D.nx } σ H := by
  obtain ⟨r, ρ', e, h⟩ := h
  refine ⟨F, ρ, S, ?_⟩
  have on : ∀ ρ1, k ρ1 = some (r, ρ') → ∀ σ1 F1 H1, Tr [] σ F H ρ σ1 F1 H1 ρ1 → Stt C F1 H1 σ1 ρ1 → N σ1 H1 := fun ρ1 e σ1 F1 H1 T1 S1 => by
    have T0 : Tr A0 σ F H ρ σ1 F1 H1 ρ1 := T1.hand fun _ z => nomatch z
    have nn : New A0 σ H ρ [] := fun _ z => nomatch z
    refine hN σ1 F1 H1 ρ1 S1 T1.sub ⟨r, ρ', e, ?_⟩
    cases r with
    | ok f =>
      cases f with
      | nx => exact fun σ' F' H' T' S' => h σ' F' H' (T0.trans nn (T'.hand fun _ z => nomatch z)) S'
      | bk => exact fun σ' F' H' T' S' => h σ' F' H' (T0.trans nn (T'.hand fun _ z => nomatch z)) S'
      | ct => exact fun σ' F' H' T' S' => h σ' F' H' (T0.trans nn (T'.hand fun _ z => nomatch z)) S'
      | rt b => exact fun v A σ' F' H' T' S' np rl fp nw => h v A σ' F' H' (T0.trans nn (T'.hand fun _ z => nomatch z)) S' np rl fp (New.trans T0 nn fun x z => (nw x z).imp id fun q => q.elim (fun z => nomatch z) .inr)
    | exc c p => exact fun cls d σ' F' H' T' S' x => h cls d σ' F' H' (T0.trans nn (T'.hand fun _ z => nomatch z)) S' x
  unfold bind at e
  split at e
  · cases e
  · rename_i c p ρ1 em
    cases e
    exact ⟨_, _, em, fun cls d σ' F' H' T' S' x => h cls d σ' F' H' (T'.hand fun _ z => nomatch z) S' x⟩
  · rename_i f ρ1 em
    refine ⟨_, _, em, ?_⟩
    cases f with
    | nx => exact fun σ1 F1 H1 T1 S1 => on ρ1 e σ1 F1 H1 T1 S1
    | ct => exact fun σ1 F1 H1 T1 S1 => on ρ1 e σ1 F1 H1 T1 S1
    | bk =>
      cases e
      exact fun σ1 F1 H1 T1 S1 => h σ1 F1 H1 (T1.hand fun _ z => nomatch z) S1
    | rt b =>
      cases e
      exact fun v A σ1 F1 H1 T1 S1 np rl fp nw => h v A σ1 F1 H1 (T1.hand fun _ z => nomatch z) S1 np rl fp fun x z => (nw x z).imp id fun q => q.elim (fun z => nomatch z) .inr
theorem sim_for {tg iter : Expr} {body : List Stmt} {pos : Pos} {t : Tg} {it : M (List D)} {mb : S} (hp : PassesOwn (model X.prog X.w) X.A X.env X.xe) (hc : X.calm = true) (hi : SimI cl X tg iter it) (hg : SimG (cs cl X) X tg t) (hb : SimB cl X body mb)
    (hs : ∀ x, foldedSetIterable iter X.env x = pure x) : SimS cl X (.For tg iter body [] pos) (sFor t it mb) := fun W tk => by
  obtain ⟨g, pg, hgo⟩ := hg.ex
  refine PS.imp (ps_for hp hc (hi W tk) pg (hb W tk) hs) fun D σ H ⟨F, ρ, S, h⟩ => ?_
  refine tSR_bind (R := RlI) S h fun J ds A F1 H1 ρ1 T1 S1 r1 f1 n1 q => ?_
  obtain ⟨gv, rfl⟩ := r1
  refine ⟨fun i m σ H => m = ds.length - i ∧ i ≤ ds.length ∧ ∃ F ρ, Stt (cs cl X) F H σ ρ ∧ Sub F1 F ∧ tSR (cs cl X) W [] F ρ (forGo t mb (ds.drop i)) D σ H, ⟨ds.length, by simp, Nat.zero_le _, F1, ρ1, S1, Sub.refl _, tSR_up q⟩, ?_⟩
  rintro i m σ H ⟨rfl, hi, F, ρ, S, sb, q⟩
  by_cases hlt : i < ds.length
  · refine .inr ⟨gv.goes i H hlt (sb.trans S.sub), fun σ' H' => ∃ F ρ, Stt (cs cl X) F H' σ' ρ ∧ Sub F1 F ∧ tSR (cs cl X) W [] F ρ (forGo t mb (ds.drop (i + 1))) D σ' H', fun σ' H' w => ⟨ds.length - (i + 1), by omega, rfl, hlt, w⟩, fun x H' y => ?_⟩
    obtain ⟨d, F2, ed, S2, T2, rd⟩ := gv.take hlt S sb y
    have q := tSR_from T2 (A1 := []) (fun _ z => nomatch z) rfl q
    rw [List.drop_eq_getElem_cons hlt] at q
    have ed' : ds[i] = d := Option.some.inj ((List.getElem?_eq_getElem hlt).symm.trans ed)
    rw [ed'] at q
    obtain ⟨r, ρ', e, h⟩ := q
    unfold forGo at e
    split at e
    · cases e
    · rename_i ρ3 ep
      refine hgo S2 rd ep fun σ2 S3 T3 _ => ?_
      have q : tSR (cs cl X) W [] F2 ρ (fun _ => bind mb (fun f => match f with | .nx => forGo t mb (ds.drop (i + 1)) | .ct => forGo t mb (ds.drop (i + 1)) | .bk => ret .nx | .rt b => ret (.rt b)) ρ3) D σ H' := ⟨r, ρ', e, h⟩
      have q : tSR (cs cl X) W [] F2 ρ3 (bind mb (fun f => match f with | .nx => forGo t mb (ds.drop (i + 1)) | .ct => forGo t mb (ds.drop (i + 1)) | .bk => ret .nx | .rt b => ret (.rt b))) D σ2 H' := by
        obtain ⟨r2, ρ'2, e2, h2⟩ := tSR_from (A1 := []) T3 (fun _ z => nomatch z) rfl q
        exact ⟨r2, ρ'2, e2, h2⟩
      exact loop_turn (A0 := []) S3 q fun σ' F' H'' ρ'' S4 s4 q4 => ⟨F', ρ'', S4, (sb.trans T2.sub).trans s4, q4⟩
  · have e : i = ds.length := by omega
    subst e
    rw [List.drop_length] at q
    exact .inl ⟨gv.stops H (sb.trans S.sub), tSR_nx q σ F H Tr.refl S⟩
theorem sim_while {c : Expr} {body : List Stmt} {pos : Pos} {t : M Bool} {mb : S} (hp : PassesOwn (model X.prog X.w) X.A X.env X.xe) (hc : SimT cl X c t) (hb : SimB cl X body mb) : SimS cl X (.While c body [] pos) (sWhile t mb) := fun W tk =>
  PS.imp (ps_while hp (hc W tk) (hb W tk)) fun D σ H ⟨F, ρ, S, h⟩ => by
    refine ⟨fun m σ H => ∃ F ρ, Stt (cs cl X) F H σ ρ ∧ tSR (cs cl X) W [] F ρ (whGo t mb m) D σ H, ⟨TURNS, F, ρ, S, h⟩, ?_⟩
    rintro m σ H ⟨F, ρ, S, q⟩
    cases m with
    | zero => exact tSR_stuck q
    | succ m =>
      refine tSR_bind (R := RlT) S q fun b b' A F1 H1 ρ1 T1 S1 r1 f1 n1 q => ?_
      obtain ⟨rfl, rfl⟩ := r1
      cases b with
      | false => exact iteF (tSR_nx q σ F1 H1 Tr.refl S1)
      | true => exact iteT ⟨fun σ' H' => ∃ F ρ, Stt (cs cl X) F H' σ' ρ ∧ tSR (cs cl X) W [] F ρ (whGo t mb m) D σ' H', fun σ' H' w => ⟨m, Nat.lt_succ_self m, w⟩, loop_turn S1 q fun σ' F' H'' ρ'' S4 s4 q4 => ⟨F', ρ'', S4, q4⟩⟩
end

/-! ### comprehensions -/
section
variable {cl : Nat → Addr} {X : Cx} {C : Cs} {σ : St} {F H F1 H1 : Hp} {ρ ρ1 : Env} {A A0 : List Addr} {is : List Nat}
theorem clr_len : ∀ {is : List Nat}, (clr ρ is).length = ρ.length
  | [] => rfl
  | i :: is => by show ((clr ρ is).set i none).length = _; rw [List.length_set, clr_len]
theorem clr_at {j : Nat} {b : SB} : ∀ {is : List Nat}, (clr ρ is).at j = some b ↔ j ∉ is ∧ ρ.at j = some b
  | [] => ⟨fun h => ⟨fun z => (nomatch z), h⟩, fun h => h.2⟩
  | i :: is => by
    constructor
    · intro h
      rcases at_set (show Env.at ((clr ρ is).set i none) j = some b from h) with ⟨_, e, _⟩ | ⟨n, e⟩
      · cases e
      · obtain ⟨m, e⟩ := clr_at.mp e
        exact ⟨fun z => (List.mem_cons.mp z).elim n m, e⟩
    · rintro ⟨m, e⟩
      show Env.at ((clr ρ is).set i none) j = some b
      rw [at_set_ne fun z => m (by rw [z]; exact List.mem_cons_self)]
      exact clr_at.mpr ⟨fun z => m (List.mem_cons_of_mem _ z), e⟩
theorem wipe_at {j : Nat} (h : j ∉ is) : (wipe σ is)[j]? = σ[j]? := wipe_out h
/-- the block's own names forgotten, none of them lent -/
theorem wipe_clr (S : Stt C F H σ ρ) (n : ∀ i ∈ is, ∀ o, ρ.at i ≠ some (.io o)) : Stt C F H (wipe σ is) (clr ρ is) ∧ Tr [] σ F H ρ (wipe σ is) F H (clr ρ is) := by
  have own : ∀ a, Owns (wipe σ is) (clr ρ is) a → Owns σ ρ a := fun a ⟨i, b, h1, h2, h3⟩ => by
    obtain ⟨m, e⟩ := clr_at.mp h1
    rw [wipe_at m] at h3
    exact ⟨i, b, e, h2, h3⟩
  refine ⟨⟨S.sub, by rw [clr_len, wipe_length]; exact S.len, fun i b e => ?_, fun i j b c a h1 h2 h3 h4 h5 h6 => ?_⟩, ⟨Sub.refl _, fun a o e _ _ => e, fun a _ _ _ z => z, fun a e => e, fun a q => .inl (own a q), fun i o e => ?_, fun i o e => ⟨o, (clr_at.mp e).2⟩⟩⟩
  · obtain ⟨m, e⟩ := clr_at.mp e
    rw [wipe_at m]
    exact S.sl i b e
  · obtain ⟨m, e⟩ := clr_at.mp h1
    obtain ⟨m', e'⟩ := clr_at.mp h3
    rw [wipe_at m] at h5
    rw [wipe_at m'] at h6
    exact S.dis i j b c a e h2 e' h4 h5 h6
  · have m : i ∉ is := fun m => n i m o e
    exact ⟨⟨o, clr_at.mpr ⟨m, e⟩⟩, wipe_at m⟩
theorem back_len {ρ1 : Env} : ∀ {is : List Nat}, (back ρ ρ1 is).length = ρ1.length
  | [] => rfl
  | i :: is => by show ((back ρ ρ1 is).set i _).length = _; rw [List.length_set, back_len]
theorem back_at {j : Nat} {b : SB} : ∀ {is : List Nat}, (∀ i ∈ is, i < ρ1.length) → ((back ρ ρ1 is).at j = some b ↔ (j ∈ is ∧ ρ.at j = some b) ∨ (j ∉ is ∧ ρ1.at j = some b))
  | [], _ => ⟨fun h => .inr ⟨fun z => (nomatch z), h⟩, fun h => h.elim (fun z => nomatch z.1) fun z => z.2⟩
  | i :: is, hl => by
    have ih := back_at (j := j) (b := b) (is := is) fun k m => hl k (List.mem_cons_of_mem _ m)
    have e0 : Env.at (back ρ ρ1 (i :: is)) j = Env.at ((back ρ ρ1 is).set i (ρ.at i)) j := rfl
    rw [e0]
    by_cases e : i = j
    · subst e
      rw [at_set_same (by rw [back_len]; exact hl i List.mem_cons_self)]
      exact ⟨fun h => .inl ⟨List.mem_cons_self, h⟩, fun h => h.elim (fun z => z.2) fun z => absurd List.mem_cons_self z.1⟩
    · rw [at_set_ne e, ih]
      refine ⟨fun h => h.imp (fun z => ⟨List.mem_cons_of_mem _ z.1, z.2⟩) fun z => ⟨fun m => (List.mem_cons.mp m).elim (fun q => e q.symm) z.1, z.2⟩, fun h => h.imp (fun z => ⟨(List.mem_cons.mp z.1).resolve_left fun q => e q.symm, z.2⟩) fun z => ⟨fun m => z.1 (List.mem_cons_of_mem _ m), z.2⟩⟩
theorem free_of (h : free ρ is = true) : ∀ i ∈ is, i < ρ.length ∧ (ρ.at i = none ∨ ∃ d, ρ.at i = some (.sh d)) := fun i m => by
  have := List.all_eq_true.mp h i m
  split at this
  · rename_i e; exact ⟨of_decide_eq_true this, .inl e⟩
  · rename_i d e; exact ⟨(get_of_at e).1, .inr ⟨d, e⟩⟩
  · cases this
/-- behind the block -/
theorem unwipe {F' H' : Hp} {ρ' : Env} (S : Stt C F H σ ρ) (h : free ρ is = true) (T : Tr [] (wipe σ is) F H (clr ρ is) (wipe σ is) F' H' (clr ρ' is)) (S' : Stt C F' H' (wipe σ is) (clr ρ' is)) :
    Tr [] σ F H ρ σ F' H' (back ρ ρ' is) ∧ Stt C F' H' σ (back ρ ρ' is) ∧ ∀ a, Owns σ (back ρ ρ' is) a → Owns (wipe σ is) (clr ρ' is) a := by
  have fr := free_of h
  have lenr : ρ'.length = ρ.length := by
    have := S'.len
    rw [clr_len, wipe_length] at this
    rw [this, S.len]
  have hl : ∀ i ∈ is, i < ρ'.length := fun i m => by rw [lenr]; exact (fr i m).1
  have noio : ∀ i ∈ is, ∀ b, ρ.at i = some b → b.obj = none := fun i m b e => by
    rcases (fr i m).2 with z | ⟨d, z⟩
    · rw [z] at e; cases e
    · rw [z] at e; cases e; rfl
  have look : ∀ i b, (back ρ ρ' is).at i = some b → (i ∈ is ∧ ρ.at i = some b) ∨ (i ∉ is ∧ (clr ρ' is).at i = some b) := fun i b e => ((back_at hl).mp e).imp id fun z => ⟨z.1, clr_at.mpr z⟩
  have obj : ∀ i b, (back ρ ρ' is).at i = some b → b.obj.isSome = true → i ∉ is ∧ (clr ρ' is).at i = some b := fun i b e o => by
    rcases look i b e with z | z
    · rw [noio i z.1 b z.2] at o; cases o
    · exact z
  have own' : ∀ a, Owns σ (back ρ ρ' is) a → Owns (wipe σ is) (clr ρ' is) a := fun a ⟨i, b, h1, h2, h3⟩ => by
    obtain ⟨m, e⟩ := obj i b h1 h2
    exact ⟨i, b, e, h2, by rw [wipe_at m]; exact h3⟩
  have own : ∀ a, Owns (wipe σ is) (clr ρ is) a ↔ Owns σ ρ a := fun a => ⟨fun ⟨i, b, h1, h2, h3⟩ => by
      obtain ⟨m, e⟩ := clr_at.mp h1
      rw [wipe_at m] at h3
      exact ⟨i, b, e, h2, h3⟩, fun ⟨i, b, h1, h2, h3⟩ => by
      have m : i ∉ is := fun m => by rw [noio i m b h1] at h2; cases h2
      exact ⟨i, b, clr_at.mpr ⟨m, h1⟩, h2, by rw [wipe_at m]; exact h3⟩⟩
  refine ⟨⟨T.sub, fun a o e n m => T.keep a o e (fun q => n ((own a).mp q)) m, fun a e n m z => T.nofz a e (fun q => n ((own a).mp q)) m z, T.there, fun a q => ?_, fun i o e => ?_, fun i o e => ?_⟩, ⟨S'.sub, by rw [back_len, lenr]; exact S.len, fun i b e => ?_, fun i j b c a h1 h2 h3 h4 h5 h6 => ?_⟩, own'⟩
  · exact (T.own a (own' a q)).imp (own a).mp id
  · have m : i ∉ is := fun m => by have := noio i m _ e; cases this
    obtain ⟨⟨o', h'⟩, _⟩ := T.io i o (clr_at.mpr ⟨m, e⟩)
    exact ⟨⟨o', (back_at hl).mpr (.inr ⟨m, (clr_at.mp h').2⟩)⟩, rfl⟩
  · obtain ⟨m, e⟩ := obj i _ e rfl
    obtain ⟨o', h'⟩ := T.oi i o e
    exact ⟨o', (clr_at.mp h').2⟩
  · rcases look i b e with ⟨m, e⟩ | ⟨m, e⟩
    · obtain ⟨v, e1, r1⟩ := S.sl i b e
      refine ⟨v, e1, ?_⟩
      have := noio i m b e
      cases r1 with
      | sh r => exact .sh (r.mono T.sub)
      | ow r g => cases this
      | io r g => cases this
    · obtain ⟨v, e1, r1⟩ := S'.sl i b e
      rw [wipe_at m] at e1
      exact ⟨v, e1, r1⟩
  · obtain ⟨m, e⟩ := obj i b h1 h2
    obtain ⟨m', e'⟩ := obj j c h3 h4
    exact S'.dis i j b c a e h2 e' h4 (by rw [wipe_at m]; exact h5) (by rw [wipe_at m']; exact h6)
/-- what a target's names hold is not lent -/
theorem putSs_at : ∀ {is : List Nat} {ds : List D} {ρ ρ1 : Env}, putSs ρ is ds = some ρ1 → ∀ i o, ρ1.at i = some (.io o) → i ∉ is ∧ ρ.at i = some (.io o)
  | [], [], ρ, ρ1, e, i, o, h => by cases e; exact ⟨fun z => (nomatch z), h⟩
  | [], _ :: _, _, _, e, _, _, _ => by cases e
  | _ :: _, [], _, _, e, _, _, _ => by cases e
  | k :: is, d :: ds, ρ, ρ1, e, i, o, h => by
    have e : (match putS ρ k (.sh d) with | some ρ2 => putSs ρ2 is ds | none => none) = some ρ1 := e
    split at e
    · rename_i ρ2 e2
      obtain ⟨m, h2⟩ := putSs_at e i o h
      obtain ⟨hl, _, rfl⟩ := put_at_set e2
      rcases at_set h2 with ⟨_, z, _⟩ | ⟨n, z⟩
      · cases z
      · exact ⟨fun q => (List.mem_cons.mp q).elim n m, z⟩
    · cases e
theorem putTg_at {t : Tg} {d : D} (e : putTg ρ t d = some ρ1) : ∀ i o, ρ1.at i = some (.io o) → i ∉ t.slots ∧ ρ.at i = some (.io o) := by
  cases t with
  | one k =>
    intro i o h
    obtain ⟨hl, _, rfl⟩ := put_at_set (show putS ρ k (.sh d) = some ρ1 from e)
    rcases at_set h with ⟨_, z, _⟩ | ⟨n, z⟩
    · cases z
    · exact ⟨fun q => n (by simpa [Tg.slots] using q), z⟩
  | tup is =>
    cases d with
    | tup ds =>
      have e : (if is.length = ds.length then putSs ρ is ds else none) = some ρ1 := e
      split at e
      · exact putSs_at e
      · cases e
    | _ => cases e
theorem wipe_wipe {ks : List Nat} : ∀ {is : List Nat}, (∀ i ∈ is, i ∈ ks) → wipe (wipe σ is) ks = wipe σ ks
  | [], _ => rfl
  | i :: is, h => by
    show wipe ((wipe σ is).set i none) ks = _
    rw [wipe_set (h i List.mem_cons_self), wipe_wipe fun j m => h j (List.mem_cons_of_mem _ m)]
/-- the new list of a comprehension, grown -/
theorem grow {p : Addr} {o : HO} (S : Stt C F H σ ρ) (f : F p = none) (n : ¬ Owns σ ρ p) (th : H p ≠ none) : Stt C F (upd H p o) σ ρ ∧ Tr [p] σ F H ρ σ F (upd H p o) ρ := by
  have ne : ∀ {a : Addr} {u : HO}, F a = some u → a ≠ p := fun e z => by rw [z, f] at e; cases e
  refine ⟨⟨fun a u e => by rw [upd_ne (ne e)]; exact S.sub _ _ e, S.len, fun i b e => ?_, S.dis⟩, ⟨Sub.refl _, fun a u e n1 m => ?_, fun a _ _ _ z => z, fun a e => ?_, fun a q => .inl q, fun i b q => ⟨⟨b, q⟩, rfl⟩, fun i b q => ⟨b, q⟩⟩⟩
  · obtain ⟨v, e1, r⟩ := S.sl i b e
    refine ⟨v, e1, ?_⟩
    have k : ∀ a, b.obj.isSome = true → v = .ref a → ∀ u, H a = some u → upd H p o a = some u := fun a ob ev u z => by
      subst ev
      rw [upd_ne fun q => n (by rw [← q]; exact ⟨i, b, e, ob, e1⟩)]; exact z
    cases r with
    | sh r => exact .sh r
    | ow r g => exact .ow (r.mono (Sub.refl _) (k _ rfl rfl)) g
    | io r g => exact .io (r.mono (Sub.refl _) (k _ rfl rfl)) g
  · rw [upd_ne fun q => m (by rw [q]; exact List.mem_cons_self)]; exact e
  · by_cases q : a = p
    · subst q; rw [upd_same]; simp
    · rw [upd_ne q]; exact e
theorem compGo_len {t : Tg} {c : M Bool} {e : M B} : ∀ {ds acc vs : List D} {ρ ρ' : Env}, compGo t c e ds acc ρ = some (.ok vs, ρ') → acc.length ≤ vs.length
  | [], acc, vs, ρ, ρ', h => by cases h; exact Nat.le_refl _
  | d :: ds, acc, vs, ρ, ρ', h => by
    unfold compGo at h
    split at h
    · cases h
    · obtain ⟨k, ρ2, _, h⟩ := bind_ok h
      cases k with
      | false => exact compGo_len h
      | true =>
        obtain ⟨x, ρ3, _, h⟩ := bind_ok h
        obtain ⟨v, ρ4, _, h⟩ := bind_ok h
        have := compGo_len h
        rw [List.length_append] at this
        omega
theorem kept_ok {bs : List B} {ds : List D} {ρ ρ' : Env} (h : kept bs ρ = some (.ok ds, ρ')) : ρ' = ρ ∧ bs.all noPl = true ∧ datsL ρ bs = some ds := by
  unfold kept at h
  split at h
  · rename_i n
    unfold dats at h
    split at h
    · cases h
    · rename_i e; cases h; exact ⟨rfl, n, e⟩
  · cases h
end
section
variable {cl : Nat → Addr} {X : Cx}
/-- the tests of a comprehension -/
def SimTs (cl : Nat → Addr) (X : Cx) (ifs : List Expr) (m : M Bool) : Prop := ∀ W, Takes X W → PTs X ifs (tM (cs cl X) RlT W m)
theorem PTs.imp {es : List Expr} {t t' : TT} (h : PTs X es t) (i : ∀ σ H Q, t' σ H Q → t σ H Q) : PTs X es t' := ⟨fun pins s σ H Q I q => h.run pins s σ H Q I (i σ H Q q)⟩
theorem simTs_nil : SimTs cl X [] yes := fun W _ => PTs.imp pts_nil fun σ H Q ⟨F, ρ, S, h⟩ => (tR_ret h).bool S
theorem simTs_one {e : Expr} {m : M Bool} (h : SimT cl X e m) : SimTs cl X [e] m := fun W tk => pts_one (h W tk)
abbrev blkX (X : Cx) (scope : Scope) (s : Shared) (H : Hp) (c : Addr) (cells : List (Str × Addr)) (fp : List Addr) : Cx := X.blk s H scope (compEnvC scope cells c X.env) fp
theorem no_takes {s : Shared} {H : Hp} {scope : Scope} {c : Addr} {cells : List (Str × Addr)} {fp : List Addr} : Takes (blkX X scope s H c cells fp) (fun _ _ _ _ => False) := takes0
theorem lc_read {C : Cs} {t : Tg} {it : M (List D)} {mc : M Bool} {me : M B} {g : TG} {W : WX} {σ : St} {H : Hp} {Q : VK} (hgo : ∀ {σ : St} {F H : Hp} {ρ ρ1 : Env} {v : V} {d : D} {Q : St → Hp → Prop}, Stt C F H σ ρ → Rep C F v d → putTg ρ t d = some ρ1 →
      (∀ σ2, Stt C F H σ2 ρ1 → Tr [] σ F H ρ σ2 F H ρ1 → (∀ ks : List Nat, (∀ i ∈ t.slots, i ∈ ks) → wipe σ2 ks = wipe σ ks) → Q σ2 H) → g v σ H Q) (h : tM C RlB W (mComp t it mc me) σ H Q) :
    tLc (tM C RlI W it) g (tM C RlT (fun _ _ _ _ => False) mc) (tM C RlB (fun _ _ _ _ => False) me) t.slots σ H Q := by
  obtain ⟨F, ρ, S, h⟩ := h
  refine tM_bind (R1 := RlI) S h fun J ds A F1 H1 ρ1 T1 S1 r1 f1 n1 q => ?_
  obtain ⟨gv, rfl⟩ := r1
  intro p hp
  obtain ⟨r, ρ', e, q⟩ := q
  have e : (if free ρ1 t.slots = true then match noExc (compGo t mc me ds []) ρ1 with
      | some (.ok vs, ρ2) => if vs.length ≤ LIM then some (Res.ok (B.ow (.lst vs)), back ρ1 ρ2 t.slots) else none
      | _ => none else none) = some (r, ρ') := e
  split at e
  rotate_left
  · cases e
  rename_i hfree
  split at e
  rotate_left
  · cases e
  rename_i vs ρe en
  split at e
  rotate_left
  · cases e
  rename_i hlen
  cases e
  -- all turns end well
  have en : compGo t mc me ds [] ρ1 = some (.ok vs, ρe) := by
    unfold noExc at en
    split at en
    · rename_i a ρa ea; cases en; exact ea
    · cases en
  have noio1 : ∀ i ∈ t.slots, ∀ o, ρ1.at i ≠ some (.io o) := fun i m o z => by
    rcases (free_of hfree i m).2 with q | ⟨d, q⟩
    · rw [q] at z; cases z
    · rw [q] at z; cases z
  obtain ⟨S1w, T1w⟩ := wipe_clr (is := t.slots) S1 noio1
  have Fp1 : F1 p = none := by
    cases z : F1 p with
    | none => rfl
    | some u => rw [S1.sub _ _ z] at hp; cases hp
  -- what holds ahead of turn i
  let Pv : Nat → Hp → Prop := fun i H => ∃ F ρ acc xs, Stt C F H (wipe σ t.slots) (clr ρ t.slots) ∧ Tr [] (wipe σ t.slots) F1 H1 (clr ρ1 t.slots) (wipe σ t.slots) F H (clr ρ t.slots) ∧ H p = some (.lst xs) ∧ F p = none ∧ ¬ Owns (wipe σ t.slots) (clr ρ t.slots) p ∧ Reps C F xs acc ∧
    compGo t mc me (ds.drop i) acc ρ = some (.ok vs, ρe)
  have notO : ¬ Owns (wipe σ t.slots) (clr ρ1 t.slots) p := fun z => S1w.own_some z hp
  have start : Pv 0 (upd H1 p (.lst [])) := by
    obtain ⟨Sn, Tn, fn, nn⟩ := new_own (o := .lst []) S1w hp
    exact ⟨F1, ρ1, [], [], Sn, Tn, upd_same, Fp1, notO, .nil, en⟩
  refine ⟨fun i m H => m = ds.length - i ∧ i ≤ ds.length ∧ Pv i H, ⟨ds.length, by simp, Nat.zero_le _, start⟩, ?_⟩
  rintro i m H ⟨rfl, hi, F, ρ, acc, xs, S2, T2, hpx, fpx, npx, rx, ec⟩
  by_cases hlt : i < ds.length
  · refine .inr ⟨gv.goes i H hlt (T2.sub.trans S2.sub), Pv (i + 1), fun H' w => ⟨ds.length - (i + 1), by omega, rfl, hlt, w⟩, fun x H' y => ?_⟩
    obtain ⟨d, F3, ed, S3, T3, rd⟩ := gv.take hlt S2 T2.sub y
    rw [List.drop_eq_getElem_cons hlt] at ec
    have ed' : ds[i] = d := Option.some.inj ((List.getElem?_eq_getElem hlt).symm.trans ed)
    rw [ed'] at ec
    unfold compGo at ec
    split at ec
    · cases ec
    rename_i ρ3 ep
    refine hgo S3 rd ep fun σ2 S4 T4 w => ?_
    have w : wipe σ2 t.slots = wipe σ t.slots := (w t.slots fun _ m => m).trans (wipe_wipe fun _ m => m)
    refine ⟨w, ?_⟩
    obtain ⟨k, ρ4, e4, ec⟩ := bind_ok ec
    have T24 : Tr [] (wipe σ t.slots) F H (clr ρ t.slots) σ2 F3 H' ρ3 := T3.trans (A1 := []) (fun _ z => nomatch z) T4
    have noio3 : ∀ i ∈ t.slots, ∀ o, ρ3.at i ≠ some (.io o) := fun i m o z => (putTg_at ep i o z).1 m
    -- the state behind an expression of the block
    have close : ∀ {F5 H5 ρ5}, Stt C F5 H5 σ2 ρ5 → Tr [] σ2 F3 H' ρ3 σ2 F5 H5 ρ5 → Stt C F5 H5 (wipe σ t.slots) (clr ρ5 t.slots) ∧ Tr [] (wipe σ t.slots) F H (clr ρ t.slots) (wipe σ t.slots) F5 H5 (clr ρ5 t.slots) := fun {F5 H5 ρ5} S5 T5 => by
      obtain ⟨S6, T6⟩ := wipe_clr (is := t.slots) S5 fun i m o z => by
        obtain ⟨o', z'⟩ := T5.oi i o z
        exact noio3 i m o' z'
      rw [w] at S6 T6
      exact ⟨S6, (T24.trans (A1 := []) (fun _ z => nomatch z) T5).trans (A1 := []) (fun _ z => nomatch z) T6⟩
    have stay : ∀ {F5 H5 ρ5}, Tr [] (wipe σ t.slots) F H (clr ρ t.slots) (wipe σ t.slots) F5 H5 (clr ρ5 t.slots) → H5 p = some (.lst xs) ∧ F5 p = none ∧ ¬ Owns (wipe σ t.slots) (clr ρ5 t.slots) p := fun {F5 H5 ρ5} T5 =>
      ⟨T5.keep p _ hpx npx (fun z => nomatch z), T5.nofz p (by rw [hpx]; simp) npx (fun z => nomatch z) fpx, fun z => by
        rcases T5.own p z with z | z | z
        · exact npx z
        · exact nomatch z
        · rw [hpx] at z; cases z⟩
    refine ⟨F3, ρ3, S4, .ok k, ρ4, e4, fun b A F4 H4 T5 S5 rl f5 n5 => ?_⟩
    obtain ⟨rfl, rfl⟩ := rl
    cases b with
    | false =>
      refine iteF ?_
      obtain ⟨S6, T6⟩ := close S5 T5
      obtain ⟨q1, q2, q3⟩ := stay T6
      exact ⟨F4, ρ4, acc, xs, S6, T2.trans (A1 := []) (fun _ z => nomatch z) T6, q1, q2, q3, rx.mono T6.sub, ec⟩
    | true =>
      refine iteT ?_
      obtain ⟨x5, ρ5, e5, ec⟩ := bind_ok ec
      obtain ⟨v5, ρ6, e6, ec⟩ := bind_ok ec
      obtain ⟨rfl, n6, e6⟩ := kept_ok e6
      refine ⟨F4, ρ4, S5, .ok x5, ρ6, e5, fun y A F5 H5 T6 S6 rb f6 n6' => ?_⟩
      obtain ⟨S7, T7⟩ := share S6 f6
      have T57 : Tr [] σ2 F3 H' ρ3 σ2 (addF F5 H5 A) H5 ρ6 := (T5.trans (A1 := []) (fun _ z => nomatch z) T6).trans (New.trans T5 (A1 := []) (fun _ z => nomatch z) n6') T7
      obtain ⟨S8, T8⟩ := close S7 T57
      obtain ⟨q1, q2, q3⟩ := stay T8
      have dv : ∃ d5, v5 = [d5] ∧ x5.dat ρ6 = some d5 := by
        have e6 : (match x5.dat ρ6, datsL ρ6 [] with | some d, some ds => some (d :: ds) | _, _ => none) = some v5 := e6
        split at e6
        · rename_i h1 h2; cases e6; cases h2; exact ⟨_, rfl, h1⟩
        · cases e6
      obtain ⟨d5, rfl, e7⟩ := dv
      have np5 : noPl x5 = true := by simpa using n6
      have ry : Rep C (addF F5 H5 A) y d5 := rb.in_ (sub_addF f6) (fun a m o z => by rw [addF_in m]; exact z) np5 e7
      have hl : xs.length < sizeLine := by
        have h1 := compGo_len ec
        rw [List.length_append] at h1
        have h2 := rx.length
        rw [← lim_eq]
        have : ([d5] : List D).length = 1 := rfl
        omega
      obtain ⟨S9, T9⟩ := grow (o := .lst (xs ++ [y])) S8 q2 q3 (by rw [q1]; simp)
      have T0 := T2.trans (A1 := []) (fun _ z => nomatch z) T8
      exact ⟨xs, q1, hl, addF F5 H5 A, ρ6, acc ++ [d5], xs ++ [y], S9, T0.trans (A1 := [p]) (fun a m => by rw [List.mem_singleton.mp m]; exact .inr (.inr hp)) T9, upd_same, q2, q3, (rx.mono T8.sub).append (.cons ry .nil), ec⟩
  · have e : i = ds.length := by omega
    subst e
    refine .inl ⟨gv.stops H (T2.sub.trans S2.sub), ?_⟩
    rw [List.drop_length] at ec
    cases ec
    obtain ⟨Te, Se, ow⟩ := unwipe (is := t.slots) S1 hfree T2 S2
    exact q (.ref p) [p] F H (Te.hand fun _ z => nomatch z) Se (.ow (.lst hpx rx)) ⟨by simp, fun a m => by rw [List.mem_singleton.mp m]; exact fpx, fun a m z => by rw [List.mem_singleton.mp m] at z; exact npx (ow _ z), fun a m => by rw [List.mem_singleton.mp m, hpx]; simp⟩ fun a m => by rw [List.mem_singleton.mp m]; exact .inr (.inr hp)
/-- [e for t in it if c] -/
theorem sim_comp {elt tg iter : Expr} {ifs : List Expr} {scope : Scope} {own : List (Str × Nat)} {pos : Pos} {t : Tg} {it : M (List D)} {mc : M Bool} {me : M B} (hc : X.calm = true) (hN : X.N.Nodup) (hi : SimI cl X tg iter it) (ok : BlkOk X.N X.env.scope scope own) (ho : own.map (·.2) = t.slots)
    (hg : ∃ g : TG, (∀ s H c cells fp, PG (blkX X scope s H c cells fp) tg g) ∧ ∀ {σ : St} {F H : Hp} {ρ ρ1 : Env} {v : V} {d : D} {Q : St → Hp → Prop}, Stt (cs cl X) F H σ ρ → Rep (cs cl X) F v d → putTg ρ t d = some ρ1 →
      (∀ σ2, Stt (cs cl X) F H σ2 ρ1 → Tr [] σ F H ρ σ2 F H ρ1 → (∀ ks : List Nat, (∀ i ∈ t.slots, i ∈ ks) → wipe σ2 ks = wipe σ ks) → Q σ2 H) → g v σ H Q)
    (ht : ∀ s H c cells fp, SimTs cl (blkX X scope s H c cells fp) ifs mc) (he : ∀ s H c cells fp, SimE cl (blkX X scope s H c cells fp) elt me) (hs : ∀ x, foldedSetIterable iter X.env x = pure x) : SimE cl X (.ListComp elt [⟨tg, iter, ifs, 0⟩] scope pos) (mComp t it mc me) := fun W tk => by
  obtain ⟨g, pg, hgo⟩ := hg
  refine PE.imp (pe_lc (own := own) (tt := tM (cs cl X) RlT (fun _ _ _ _ => False) mc) (te := tM (cs cl X) RlB (fun _ _ _ _ => False) me) hc hN (hi W tk) ok pg (fun s H c cells fp => ht s H c cells fp _ no_takes) (fun s H c cells fp => he s H c cells fp _ no_takes) hs) fun σ H Q h => ?_
  rw [ho]
  exact lc_read hgo h
end
end WF

set_option Elab.async false
set_option linter.all false
set_option maxRecDepth 100000
set_option maxHeartbeats 4000000
/-! WFM: more statements: several names, places set, append, raise, try. -/
namespace WF
open PySem PySem.Spec PyProof.Rows L2
section
variable {cl : Nat → Addr} {X : Cx} {C : Cs} {σ : St} {F H : Hp} {ρ ρ1 : Env} {A A0 : List Addr} {W : WX} {G : Ends}
theorem ownB_pure {x : B} {r : Res SB} {ρ' : Env} (e : ownB x ρ = some (r, ρ')) : ρ' = ρ ∧ ∃ b, r = .ok b := by
  cases x with
  | pl i => cases e
  | sh d => cases e; exact ⟨rfl, _, rfl⟩
  | ow o => cases e; exact ⟨rfl, _, rfl⟩
  | tp bs => exact lift_pure e
theorem set_core {i : Nat} {m : M B} (h : tS C W (sSet i m) G σ H) : tM C RlB W m σ H fun x H1 => gName i x σ H1 G.nx := by
  obtain ⟨F, ρ, S, h⟩ := h
  refine tSR_bind (R := RlB) S h fun v a A F1 H1 ρ1 T S1 rl fp nw q => ?_
  obtain ⟨b, eb, q⟩ := tSR_step q fun _ _ => ownB_pure
  obtain ⟨_, F2, S2, T2, r, nio, f⟩ := own_rel S1 rl fp eb
  exact bindS_go (A0 := A) S2 (tSR_from (T2.hand fun z m => by rw [List.nil_append]; exact m) (fun z m => .inr (.inl (by rw [List.nil_append]; exact m))) rfl q) nio r f
/-- x = [e for t in it if c] -/
theorem sim_setLc {i : Nat} {y : Str} {py : Pos} {elt tg iter : Expr} {ifs : List Expr} {scope : Scope} {own : List (Str × Nat)} {pos spos : Pos} {t : Tg} {it : M (List D)} {mc : M Bool} {me : M B} (hc : X.calm = true) (hN : X.N.Nodup) (hy : X.N[i]? = some y) (hyl : X.env.scope.names.lookup y = some .local)
    (hsw : swapsWith (.ListComp elt [⟨tg, iter, ifs, 0⟩] scope pos) (some (.Name y py)) spos.line X.env = pure true) (hi : SimI cl X tg iter it) (ok : BlkOk X.N X.env.scope scope own) (ho : own.map (·.2) = t.slots)
    (hg : ∃ g : TG, (∀ s H c cells fp, PG (blkX X scope s H c cells fp) tg g) ∧ ∀ {σ : St} {F H : Hp} {ρ ρ1 : Env} {v : V} {d : D} {Q : St → Hp → Prop}, Stt (cs cl X) F H σ ρ → Rep (cs cl X) F v d → putTg ρ t d = some ρ1 →
      (∀ σ2, Stt (cs cl X) F H σ2 ρ1 → Tr [] σ F H ρ σ2 F H ρ1 → (∀ ks : List Nat, (∀ i ∈ t.slots, i ∈ ks) → wipe σ2 ks = wipe σ ks) → Q σ2 H) → g v σ H Q)
    (ht : ∀ s H c cells fp, SimTs cl (blkX X scope s H c cells fp) ifs mc) (he : ∀ s H c cells fp, SimE cl (blkX X scope s H c cells fp) elt me) (hs : ∀ x, foldedSetIterable iter X.env x = pure x) :
    SimS cl X (.Assign [.Name y py] (.ListComp elt [⟨tg, iter, ifs, 0⟩] scope pos) spos) (sSet i (mComp t it mc me)) := fun W tk => by
  obtain ⟨g, pg, hgo⟩ := hg
  refine PS.imp (ps_setLc (own := own) (tt := tM (cs cl X) RlT (fun _ _ _ _ => False) mc) (te := tM (cs cl X) RlB (fun _ _ _ _ => False) me) hc hN hy hyl hsw (hi W tk) ok pg (fun s H c cells fp => ht s H c cells fp _ no_takes) (fun s H c cells fp => he s H c cells fp _ no_takes) hs) fun D σ H h => ?_
  show tLc _ _ _ _ _ σ H _
  rw [ho]
  exact lc_read hgo (set_core h)
/-! ### a name's own object changed -/
theorem put_own {i : Nat} {a : Addr} {u : HO} {c : SB} {o o' : O} (S : Stt C F H σ ρ) (hc : ρ.at i = some c) (ho : c.obj = some o) (hs : σ[i]? = some (some (.ref a))) (f : F a = none) (th : H a ≠ none) (r : ROb C F (upd H a u) a o') :
    Stt C F (upd H a u) σ (ρ.set i (some (c.put o'))) ∧ Tr [] σ F H ρ σ F (upd H a u) (ρ.set i (some (c.put o'))) := by
  have ow : Owns σ ρ a := ⟨i, c, hc, by rw [ho]; rfl, hs⟩
  have il := (get_of_at hc).1
  have obj : (c.put o').obj.isSome = true := by cases c <;> first | (cases ho; done) | rfl
  have sl : ∀ {j : Nat} {b : SB}, Env.at (ρ.set i (some (c.put o'))) j = some b → (j = i ∧ b = c.put o') ∨ (j ≠ i ∧ ρ.at j = some b) := fun {j b} e => by
    rcases at_set e with ⟨rfl, e1, _⟩ | z
    · cases e1; exact .inl ⟨rfl, rfl⟩
    · exact .inr z
  have ownB : ∀ x, Owns σ (ρ.set i (some (c.put o'))) x → Owns σ ρ x := fun x ⟨j, b, h1, h2, h3⟩ => by
    rcases sl h1 with ⟨rfl, rfl⟩ | ⟨n, e⟩
    · exact ⟨j, c, hc, by rw [ho]; rfl, h3⟩
    · exact ⟨j, b, e, h2, h3⟩
  have ne : ∀ {x : Addr} {w : HO}, F x = some w → x ≠ a := fun e z => by rw [z, f] at e; cases e
  refine ⟨⟨fun x w e => by rw [upd_ne (ne e)]; exact S.sub _ _ e, by rw [List.length_set]; exact S.len, fun j b e => ?_, fun j k b d x h1 h2 h3 h4 h5 h6 => ?_⟩, ⟨Sub.refl _, fun x w e n _ => ?_, fun _ _ _ _ z => z, fun x e => ?_, fun x q => .inl (ownB x q), fun j w e => ?_, fun j w e => ?_⟩⟩
  · rcases sl e with ⟨rfl, rfl⟩ | ⟨n, e⟩
    · refine ⟨_, hs, ?_⟩
      cases c with
      | sh d => cases ho
      | ow o0 => exact .ow r f
      | io o0 => exact .io r f
    · obtain ⟨v, e1, q⟩ := S.sl j b e
      refine ⟨v, e1, ?_⟩
      have k : ∀ x, v = .ref x → b.obj.isSome = true → ∀ w, H x = some w → upd H a u x = some w := fun x ev ob w z => by
        subst ev
        rw [upd_ne fun q => n (by rw [q] at e1; exact S.dis j i b c a e ob hc (by rw [ho]; rfl) e1 hs)]; exact z
      cases q with
      | sh q => exact .sh q
      | ow q g => exact .ow (q.mono (Sub.refl _) (k _ rfl rfl)) g
      | io q g => exact .io (q.mono (Sub.refl _) (k _ rfl rfl)) g
  · have back : ∀ {j : Nat} {b : SB}, Env.at (ρ.set i (some (c.put o'))) j = some b → b.obj.isSome = true → ∃ b0, ρ.at j = some b0 ∧ b0.obj.isSome = true := fun {j b} e ob => by
      rcases sl e with ⟨rfl, rfl⟩ | ⟨n, e⟩
      · exact ⟨c, hc, by rw [ho]; rfl⟩
      · exact ⟨b, e, ob⟩
    obtain ⟨b0, q1, q2⟩ := back h1 h2
    obtain ⟨d0, q3, q4⟩ := back h3 h4
    exact S.dis j k b0 d0 x q1 q2 q3 q4 h5 h6
  · rw [upd_ne fun q => n (by rw [q]; exact ow)]; exact e
  · by_cases q : x = a
    · subst q; rw [upd_same]; simp
    · rw [upd_ne q]; exact e
  · by_cases q : i = j
    · subst q
      rw [hc] at e
      cases e
      exact ⟨⟨o', by rw [at_set_same il]; rfl⟩, rfl⟩
    · exact ⟨⟨w, by rw [at_set_ne q]; exact e⟩, rfl⟩
  · rcases sl e with ⟨rfl, q⟩ | ⟨n, q⟩
    · cases c with
      | sh d => cases ho
      | ow o0 => cases q
      | io o0 => exact ⟨o0, hc⟩
    · exact ⟨w, q⟩
theorem has_pure {i : Nat} {r : Res O} {ρ' : Env} (e : mHas i ρ = some (r, ρ')) : ρ' = ρ ∧ ∃ o, r = .ok o := by
  unfold mHas at e
  split at e
  · split at e
    · cases e; exact ⟨rfl, _, rfl⟩
    · cases e
  · cases e
theorem has_of {i : Nat} {o : O} (S : Stt C F H σ ρ) (e : mHas i ρ = some (.ok o, ρ)) : ∃ a, σ[i]? = some (some (.ref a)) ∧ ROb C F H a o ∧ F a = none := by
  unfold mHas at e
  split at e
  · rename_i c hc
    split at e
    · rename_i o' ho
      cases e
      obtain ⟨v, e1, r⟩ := S.sl i c hc
      cases r with
      | sh r => cases ho
      | ow r f => cases ho; exact ⟨_, e1, r, f⟩
      | io r f => cases ho; exact ⟨_, e1, r, f⟩
    · cases e
  · cases e
theorem putO_ok {i : Nat} {f : O → Option O} {r : Res Unit} {ρ' : Env} (e : putO i f ρ = some (r, ρ')) : ∃ c o o1, ρ.at i = some c ∧ c.obj = some o ∧ f o = some o1 ∧ r = .ok () ∧ ρ' = ρ.set i (some (c.put o1)) := by
  unfold putO at e
  split at e
  · rename_i c hc
    split at e
    · rename_i o ho
      split at e
      · rename_i o1 h1
        cases e
        exact ⟨c, o, o1, hc, ho, h1, rfl, rfl⟩
      · cases e
    · cases e
  · cases e
/-- what is behind a change of a name's object -/
theorem put_go {i : Nat} {f : O → Option O} {a : Addr} {k : S} (S : Stt C F H σ ρ) (hs : σ[i]? = some (some (.ref a))) (h : tSR C W A0 F ρ (bind (putO i f) fun _ => k) G σ H) :
    ∃ o o1, ROb C F H a o ∧ F a = none ∧ f o = some o1 ∧ ∀ u, ROb C F (upd H a u) a o1 → ∃ ρ', Stt C F (upd H a u) σ ρ' ∧ Tr [] σ F H ρ σ F (upd H a u) ρ' ∧ tSR C W A0 F ρ' k G σ (upd H a u) := by
  obtain ⟨r, ρ', e, h⟩ := h
  unfold bind at e
  split at e
  · cases e
  · rename_i em
    obtain ⟨_, _, _, _, _, _, z, _⟩ := putO_ok em
    cases z
  · rename_i x ρ2 em
    obtain ⟨c, o, o1, hc, ho, hf, _, rfl⟩ := putO_ok em
    obtain ⟨v, e1, r1⟩ := S.sl i c hc
    rw [hs] at e1
    cases e1
    have rr : ROb C F H a o ∧ F a = none := by
      cases r1 with
      | sh q => cases ho
      | ow q g => cases ho; exact ⟨q, g⟩
      | io q g => cases ho; exact ⟨q, g⟩
    refine ⟨o, o1, rr.1, rr.2, hf, fun u ru => ?_⟩
    obtain ⟨w, hw⟩ := rr.1.some
    obtain ⟨S1, T1⟩ := put_own S hc ho hs rr.2 (by rw [hw]; simp) ru
    refine ⟨_, S1, T1, ?_⟩
    have q : tSR C W A0 F ρ (fun _ => k (ρ.set i (some (c.put o1)))) G σ H := ⟨r, ρ', e, h⟩
    obtain ⟨r2, ρ2, e2, h2⟩ := tSR_from (A1 := A0) (T1.hand fun _ z => nomatch z) (fun _ m => .inr (.inl m)) rfl q
    exact ⟨r2, ρ2, e2, h2⟩
theorem keyS_inv {k : D} (h : keyS k = true) : ∃ t, k = .str t := by
  cases k with
  | str t => exact ⟨t, rfl⟩
  | _ => cases h
theorem keyOf_str {k : D} (h : keyOf false k = true) : ∃ t, k = .str t := keyS_inv h
theorem reps_set {F : Hp} : ∀ {xs : List V} {ds : List D}, Reps C F xs ds → ∀ (j : Nat) {v : V} {d : D}, Rep C F v d → Reps C F (xs.set j v) (ds.set j d)
  | _, _, .nil, _, _, _, _ => .nil
  | _, _, .cons _ t, 0, _, _, r => .cons r t
  | _, _, .cons q t, j + 1, _, _, r => .cons q (reps_set t j r)
theorem tSR_kept2 {b c : B} {x y : V} {A A' : List Addr} {k : List D → S} (S : Stt C F H σ ρ) (r : RB C σ F H x b A) (r' : RB C σ F H y c A') (f : Fp σ F H ρ (A ++ A')) (h : tSR C W (A ++ A') F ρ (bind (kept [b, c]) k) G σ H) :
    ∃ d e F1, Stt C F1 H σ ρ ∧ Tr (A ++ A') σ F H ρ σ F1 H ρ ∧ Rep C F1 x d ∧ Rep C F1 y e ∧ tSR C W [] F1 ρ (k [d, e]) G σ H := by
  obtain ⟨ds, ek, h⟩ := tSR_step h fun r ρ' e => by
    unfold kept at e
    split at e
    · exact dats_pure e
    · cases e
  obtain ⟨_, n, ed⟩ := kept_ok ek
  obtain ⟨S1, T1⟩ := share S f
  have rs : RBs C σ F H [x, y] [b, c] (A ++ (A' ++ [])) := .cons r (.cons r' .nil)
  have rp := rs.in_ (sub_addF f) (fun a m o q => by rw [addF_in (by simpa using m)]; exact q) n ed
  cases rp with
  | cons r1 t =>
    cases t with
    | cons r2 t =>
      cases t
      exact ⟨_, _, _, S1, T1, r1, r2, tSR_from T1 (A1 := []) (fun _ z => nomatch z) rfl h⟩
theorem tSR_hand {m : S} {A1 : List Addr} (h : tSR C W A1 F ρ m G σ H) (n : New A0 σ H ρ A1) : True := trivial
/-! a dict with tuples as keys is written -/
theorem dkT_ok {P : Program} {w : World} {K : PySem.W.Frag} {cl : Nat → Addr} {H : Hp} {h : Heap} {a : Addr} {xs : List XT} {ys : List YT} (r : RelT xs ys) (d : h.DictOfH (nestedKind P w) a ys) (l : xs.length ≤ sizeLine) (n : (a == sysModules) = false) :
    ObjOk P w H h a (dkT ⟨P, w, K, cl⟩ a xs) := by
  obtain ⟨o, es, ep, h1, h2, h3, h4, h5, h6⟩ := d
  have nd : (xs.map (·.1)).Nodup := by rw [← relT_fst r]; exact h6
  refine ⟨⟨ys, r, o, es, ep, h1, h2, h3, h4, l, n, nd⟩, ⟨o, h1⟩, fun g1 g2 ⟨ys, r, o, es, ep, h1, q⟩ k => ⟨ys, r, o, es, ep, k o h1, q⟩⟩
def rSetT (C : Cs) : TSet := fun o i v H Q => ∃ (a b : Addr) (F : Hp) (xs : List XT) (kvs : List (D × D)) (k : D), o = .ref a ∧ i = .ref b ∧ H a = some (dkT C a xs) ∧ RepT C F xs kvs ∧ Sub F H ∧ Rep C H (.ref b) k ∧ keyT k = true ∧ kvs.length < LIM ∧
  Q (upd H a (dkT C a (storedX xs (nk k) b v)))
theorem set_dicT (hu : Hu X) : PSet X (rSetT (cs cl X)) := by
  intro pins s σ H o i v ov iv u Q I ro ri rv h
  obtain ⟨a, b, F, xs, kvs, k, rfl, rfl, e, r, sub, rk, hk, hl, q⟩ := h
  cases ro
  cases ri
  obtain ⟨ys, rel, dd, _, hd, _⟩ := dk_at I e r sub
  have lx : xs.length < sizeLine := by rw [r.length, ← lim_eq]; exact hl
  have ly : ys.length ≤ sizeLine := by have := rel.length; omega
  refine wpAny_setItem_heap (hsz := ly) (hu8 hu) (key_is I rk hk) dd fun h' dd' hs => ?_
  have he : ∃ o, h'.get? a = some o := let ⟨o, _, _, ho, _⟩ := dd'; ⟨o, ho⟩
  refine ⟨_, I.write (o := dkT (cs cl X) a (storedX xs (nk k) b v)) (by rw [e]; exact True.intro) (.inl rfl) (fun c o n q => hs.extBut c o n q) he (dkT_ok (relT_stored rel (nk k) b rv) dd' ?_ hd), q⟩
  have := stored_length xs (nk k) b v
  omega
/-- x[k] = e: a list, a dict of texts -/
theorem sim_ixset {i : Nat} {x : Str} {k e : Expr} {mk me : M B} {p p2 pos : Pos} (hu : Hu X) (hN : X.N[i]? = some x) (hv : Vis X.env.scope x) (hd : (x == ("__debug__" : Str)) = false) (hcd : (x == ("__classdict__" : Str)) = false) (ha : SimE cl X e me) (hk : SimE cl X k mk)
    (hs : swapsWithSole [.Subscript (.Name x p) k p2] e pos.line X.env = pure false) (hw : swappedStores [.Subscript (.Name x p) k p2] e X.env = pure none) (h1 : (assignEach [.Subscript (.Name x p) k p2] X.env).map (·.2) = [assign (.Subscript (.Name x p) k p2) X.env])
    (hx : ∀ v, assign (.Subscript (.Name x p) k p2) X.env v = (do
      let ov ← holding [v] (eval (.Name x p) X.env)
      let iv ← holding [v, ov] (eval k X.env)
      standAt p2
      holding [v, ov, iv] (setItem ov iv v)
      release [v, ov, iv] [])) : SimS cl X (.Assign [.Subscript (.Name x p) k p2] e pos) (sIxSet i mk me) := fun W tk => by
  have hset : PSet X (fun o i v H Q => rSetL o i v H Q ∨ (∃ a H', o = .ref a ∧ DPut H a i v H' ∧ Q H') ∨ rSetT (cs cl X) o i v H Q) := by
    intro pins s σ H o i v ov iv u Q I ro ri rv h
    rcases h with h | ⟨a, H', rfl, g, q⟩ | h
    · exact set_list pins s σ H o i v ov iv u Q I ro ri rv h
    · obtain rfl : ov = Value.ref a := ro
      exact d_setItem (by have : X.A.units + 65 < cLine := hu; omega) I g ri rv fun s' I' => ⟨H', I', q⟩
    · exact set_dicT hu pins s σ H o i v ov iv u Q I ro ri rv h
  refine PS.imp (ps_asg (ha W tk) (pg_sub (pe_var hN hv hd hcd) (hk W tk) hset hx) hs hw h1) fun D σ H ⟨F, ρ, S, h⟩ => ?_
  refine tSR_bind (R := RlB) S h fun v b A F1 H1 ρ1 T1 S1 r1 f1 n1 q => ?_
  obtain ⟨o, eo, q⟩ := tSR_step q fun _ _ => has_pure
  obtain ⟨a, es, ro, fo⟩ := has_of S1 eo
  refine ⟨.ref a, es, ?_⟩
  refine tSR_bind (R := RlB) S1 q fun y c A' F2 H2 ρ2 T2 S2 r2 f2 n2 q => ?_
  rw [List.nil_append] at q
  obtain ⟨d, g, F3, S3, T3, rd, rg, q⟩ := tSR_kept2 S2 (r1.mono (F' := F2) (H' := H2) T2.sub fun z m => f1.keep T2 m) r2 (f1.append T2 f2 n2) q
  obtain ⟨o2, o3, ro2, fo2, hf, go⟩ := put_go (i := i) S3 es q
  have fin : ∀ u, ROb (cs cl X) F3 (upd H2 a u) a o3 → D.nx σ (upd H2 a u) := fun u ru => by
    obtain ⟨ρ', S4, T4, q4⟩ := go u ru
    exact tSR_nx q4 σ F3 _ Tr.refl S4
  unfold setAt at hf
  split at hf
  · split at hf
    · rename_i j
      split at hf
      · rename_i hj
        cases hf
        obtain ⟨h0, hj⟩ := dec_and hj
        cases rg
        cases ro2 with
        | @lst xs ds hH rx =>
          refine .inl ⟨a, xs, j, j.toNat, rfl, rfl, hH, ?_, fin _ (.lst upd_same (reps_set rx _ rd))⟩
          unfold ixN
          rw [rx.length, if_pos h0, if_pos (by omega)]
      · cases hf
    · cases hf
  · rename_i kvs
    split at hf
    · rename_i hl
      split at hf
      · rename_i hk
        cases hf
        obtain ⟨t, rfl⟩ := keyOf_str hk
        cases rg with
        | str _ ot =>
          cases ro2 with
          | @dicS xs _ hH rx =>
            exact .inr (.inl ⟨a, _, rfl, DPut.k (k := Sum.inr (mkS t)) hH (by rw [rx.length, ← lim_eq]; exact hl), fin _ (.dicS upd_same (repS_put rx ot rd))⟩)
      · cases hf
    · cases hf
  · rename_i kvs
    split at hf
    · rename_i hl
      split at hf
      · rename_i hk
        cases hf
        obtain ⟨kb, rfl⟩ := keyT_ref hk rg
        cases ro2 with
        | @dicT xs _ hH rx =>
          exact .inr (.inr ⟨a, kb, F3, xs, kvs, _, rfl, rfl, hH, rx, S3.sub, rg.mono S3.sub, hk, hl, fin _ (.dicT upd_same (repT_stored rx hk rg rd))⟩)
      · cases hf
    · cases hf
  · cases hf

/-! ### append -/
theorem tR_put {i : Nat} {f : O → Option O} {a : Addr} {α β : Type} {R : Rl β α} {Q : β → Hp → Prop} {k : M α} (S : Stt C F H σ ρ) (hs : σ[i]? = some (some (.ref a))) (h : tR C R W A0 F ρ (bind (putO i f) fun _ => k) σ H Q) :
    ∃ o o1, ROb C F H a o ∧ F a = none ∧ f o = some o1 ∧ ∀ u, ROb C F (upd H a u) a o1 → ∃ ρ', Stt C F (upd H a u) σ ρ' ∧ Tr [] σ F H ρ σ F (upd H a u) ρ' ∧ tR C R W A0 F ρ' k σ (upd H a u) Q := by
  obtain ⟨r, ρ', e, h⟩ := h
  unfold bind at e
  split at e
  · cases e
  · rename_i em
    obtain ⟨_, _, _, _, _, _, z, _⟩ := putO_ok em
    cases z
  · rename_i x ρ2 em
    obtain ⟨c, o, o1, hc, ho, hf, _, rfl⟩ := putO_ok em
    obtain ⟨v, e1, r1⟩ := S.sl i c hc
    rw [hs] at e1
    cases e1
    have rr : ROb C F H a o ∧ F a = none := by
      cases r1 with
      | sh q => cases ho
      | ow q g => cases ho; exact ⟨q, g⟩
      | io q g => cases ho; exact ⟨q, g⟩
    refine ⟨o, o1, rr.1, rr.2, hf, fun u ru => ?_⟩
    obtain ⟨w, hw⟩ := rr.1.some
    obtain ⟨S1, T1⟩ := put_own S hc ho hs rr.2 (by rw [hw]; simp) ru
    refine ⟨_, S1, T1, r, ρ', e, ?_⟩
    have T0 : Tr A0 σ F H ρ σ F (upd H a u) (ρ.set i (some (c.put o1))) := T1.hand fun _ z => nomatch z
    have nn : New A0 σ H ρ A0 := fun _ m => .inr (.inl m)
    cases r with
    | ok b => exact fun v A F' H' T' S' rl fp nw => h v A F' H' (T0.trans nn (T'.hand fun _ m => List.mem_append_right _ m)) S' rl fp (New.trans T0 nn fun x z => (nw x z).imp id fun q => q.imp (List.mem_append_right _) id)
    | exc c p => exact fun cls d F' H' T' S' x => h cls d F' H' (T0.trans nn (T'.hand fun _ m => List.mem_append_right _ m)) S' x
theorem sim_app {i : Nat} {x : Str} {e : Expr} {me : M B} {p ap cp : Pos} (hN : X.N[i]? = some x) (hv : Vis X.env.scope x) (hd : (x == ("__debug__" : Str)) = false) (hcd : (x == ("__classdict__" : Str)) = false) (ha : SimE cl X e me)
    (hbase : attributeBase (.Name x p) "append" X.env (eval (.Name x p) X.env) = eval (.Name x p) X.env)
    (hfew : ((backTo cp (starEach [e] X.env)).all (fun x => !x.1) && (backToKw cp (keywordEach [] X.env)).all (fun x => x.1.isSome) && decide (([e] : List Expr).length + ([] : List Keyword).length + (if ([] : List Keyword).isEmpty then 0 else 1) < 30)) = true)
    (hline : (ap.endLine == cp.line) = true) (hs : starEach [e] X.env = (false, eval e X.env) :: starEach [] X.env) (hplain : (backTo cp (starEach [] X.env)).any (·.1) = false) : SimE cl X (.Call (.Attribute (.Name x p) "append" ap) [e] [] cp) (mApp i me) := fun W tk =>
  PE.imp (pe_bm PySem.F.plainAttrs_list PySem.F.slot_list_append PySem.F.type_list_append mt_append (pe_var hN hv hd hcd) (pa_cons (ha W tk) pa_nil hs) hbase hfew hline hs hplain) fun σ H Q ⟨F, ρ, S, h⟩ => by
    obtain ⟨o, eo, h⟩ := tR_step h fun _ _ => has_pure
    obtain ⟨a, es, ro, fo⟩ := has_of S eo
    obtain ⟨hl, h⟩ := tR_if h
    cases ro with
    | @lst xs ds hH rx =>
      refine ⟨.ref a, es, .inl ⟨rfl, xs, .inl (.inl hH)⟩, ?_⟩
      refine tM_bind (R1 := RlB) S h fun v b A F1 H1 ρ1 T1 S1 r1 f1 n1 q => ?_
      obtain ⟨d, F2, S2, rd, sb, q⟩ := kept1 S1 r1 f1 q
      obtain ⟨o, o1, ro2, fo2, hf, go⟩ := tR_put S2 es q
      unfold addAt at hf
      split at hf
      · split at hf
        · rename_i xs' hlen
          cases hf
          cases ro2 with
          | @lst ys _ hY ry =>
            refine ⟨a, ys, v, rfl, rfl, hY, by rw [ry.length, ← lim_eq]; exact hlen, ?_⟩
            obtain ⟨ρ', S3, T3, q⟩ := go (.lst (ys ++ [v])) (.lst upd_same (ry.append (.cons rd .nil)))
            exact (tR_ret q).data S3 .non
        · cases hf
      · cases hf
    | dicS h r => cases hl
    | dicT h r => cases hl
    | ins h r => cases hl
/-! ### several names -/
theorem own_rel2 {v : V} {x : B} {b : SB} {ρ2 : Env} (S : Stt C F H σ ρ) (rl : RB C σ F H v x A) (fp : Fp σ F H ρ A) (e : ownB x ρ = some (.ok b, ρ2)) :
    ρ2 = ρ ∧ ∃ F1, Stt C F1 H σ ρ ∧ Tr A σ F H ρ σ F1 H ρ ∧ RSB C F1 H v b ∧ (∀ o, b ≠ .io o) ∧ (∀ a, b.obj.isSome = true → v = .ref a → ¬ Owns σ ρ a ∧ a ∈ A ∧ H a ≠ none) ∧ ∀ a, a ∉ A → F1 a = F a := by
  cases x with
  | tp bs =>
    obtain ⟨z, _⟩ := lift_pure e
    subst z
    have e := lift_ok e
    obtain ⟨ds, e1, rfl⟩ := Option.map_eq_some_iff.mp e
    obtain ⟨S1, T1⟩ := share S fp
    cases rl with
    | tp q r =>
      exact ⟨rfl, _, S1, T1, .sh (.tup ((sub_addF fp).sqT q) (rtp_in r (sub_addF fp) (fun a m o q => by rw [addF_in m]; exact q) e1)), fun o z => (nomatch z), fun a z => (nomatch z), fun a m => addF_out m⟩
  | sh d =>
    cases e
    cases rl with
    | sh r => exact ⟨rfl, F, S, Tr.refl, .sh r, fun o z => (nomatch z), fun a z => (nomatch z), fun a _ => rfl⟩
  | ow o =>
    cases e
    cases rl with
    | ow r => exact ⟨rfl, F, S, Tr.refl, .ow r (fp.nf _ (by simp)), fun o z => (nomatch z), fun a _ z => by cases z; exact ⟨fp.no _ (by simp), by simp, fp.th _ (by simp)⟩, fun a _ => rfl⟩
  | pl i => cases e
/-- the bindings that values are given: their objects A are new -/
inductive RWs (C : Cs) (F H : Hp) : List V → List SB → List Addr → Prop
  | nil : RWs C F H [] [] []
  | sh {v : V} {d : D} {vs : List V} {bs : List SB} {A : List Addr} : Rep C F v d → RWs C F H vs bs A → RWs C F H (v :: vs) (.sh d :: bs) A
  | ow {a : Addr} {o : O} {vs : List V} {bs : List SB} {A : List Addr} : ROb C F H a o → RWs C F H vs bs A → RWs C F H (.ref a :: vs) (.ow o :: bs) (a :: A)
theorem RWs.of_tp {xs : List V} {bs : List SB} (r : RTp C F H xs bs A) : RWs C F H xs bs A := by
  induction r with
  | nil => exact .nil
  | sh r t ih => exact .sh r ih
  | ow r t ih => exact .ow r ih
theorem RWs.of_reps : ∀ {xs : List V} {ds : List D}, Reps C F xs ds → RWs C F H xs (ds.map SB.sh) []
  | _, _, .nil => .nil
  | _, _, .cons r t => .sh r (RWs.of_reps t)
theorem RWs.mono {F' H' : Hp} {xs : List V} {bs : List SB} (h : RWs C F H xs bs A) (s : Sub F F') (k : ∀ a ∈ A, ∀ o, H a = some o → H' a = some o) : RWs C F' H' xs bs A := by
  induction h with
  | nil => exact .nil
  | sh r t ih => exact .sh (r.mono s) (ih k)
  | ow r t ih => exact .ow (r.mono s (k _ List.mem_cons_self)) (ih fun a m => k a (List.mem_cons_of_mem _ m))
/-- names bound one after another -/
theorem bindSs_go {G : Ends} : ∀ {is : List Nat} {vs : List V} {bs : List SB} {A : List Addr} {σ : St} {ρ : Env}, Stt C F H σ ρ → RWs C F H vs bs A → Fp σ F H ρ A → tSR C W A F ρ (bindSs is bs) G σ H → gSlots is vs σ H G.nx
  | [], _, _, _, σ, ρ, S, .nil, fp, h => ⟨rfl, tSR_nx h σ F H Tr.refl S⟩
  | [], _, _, _, _, _, _, .sh _ _, _, h => tSR_stuck h
  | [], _, _, _, _, _, _, .ow _ _, _, h => tSR_stuck h
  | _ :: _, _, _, _, _, _, _, .nil, _, h => tSR_stuck h
  | i :: is, v :: vs, _, A, σ, ρ, S, .sh (d := d) (bs := bs) r t, fp, h => by
    have h : tSR C W A F ρ (sSeq (bindS i (.sh d)) (bindSs is bs)) G σ H := h
    obtain ⟨r', ρ', e, h⟩ := h
    unfold sSeq bind bindS at e
    cases ep : putS ρ i (.sh d) with
    | none => rw [ep] at e; cases e
    | some ρ2 =>
      rw [ep] at e
      obtain ⟨S1, T1⟩ := put_sh S r ep
      have q : tSR C W A F ρ (fun _ => bindSs is bs ρ2) G σ H := ⟨r', ρ', e, h⟩
      obtain ⟨r2, ρ2', e2, h2⟩ := tSR_from (A1 := A) (T1.hand fun _ z => nomatch z) (fun _ m => .inr (.inl m)) rfl q
      exact ⟨v, vs, rfl, bindSs_go S1 t (fp.tr T1) ⟨r2, ρ2', e2, h2⟩⟩
  | i :: is, _, _, _, σ, ρ, S, .ow (a := a) (o := o) (vs := vs) (bs := bs) (A := A) r t, fp, h => by
    have h : tSR C W (a :: A) F ρ (sSeq (bindS i (.ow o)) (bindSs is bs)) G σ H := h
    obtain ⟨r', ρ', e, h⟩ := h
    unfold sSeq bind bindS at e
    cases ep : putS ρ i (.ow o) with
    | none => rw [ep] at e; cases e
    | some ρ2 =>
      rw [ep] at e
      obtain ⟨nd1, nd2⟩ := List.nodup_cons.mp fp.nd
      obtain ⟨S1, T1⟩ := bind_slot (A := [a]) S ep (fun o z => (nomatch z)) (.ow r (fp.nf a List.mem_cons_self)) fun x _ z => by
        cases z; exact ⟨fp.no a List.mem_cons_self, List.mem_cons_self, fp.th a List.mem_cons_self⟩
      have q : tSR C W (a :: A) F ρ (fun _ => bindSs is bs ρ2) G σ H := ⟨r', ρ', e, h⟩
      obtain ⟨r2, ρ2', e2, h2⟩ := tSR_from (A1 := A) (T1.hand fun x m => by rw [List.mem_singleton.mp m]; exact List.mem_cons_self) (fun x m => .inr (.inl (List.mem_cons_of_mem _ m))) rfl q
      refine ⟨.ref a, vs, rfl, bindSs_go S1 t ⟨nd2, fun x m => fp.nf x (List.mem_cons_of_mem _ m), fun x m z => ?_, fun x m => fp.th x (List.mem_cons_of_mem _ m)⟩ ⟨r2, ρ2', e2, h2⟩⟩
      rcases T1.own x z with z | z | z
      · exact fp.no x (List.mem_cons_of_mem _ m) z
      · rw [List.mem_singleton.mp z] at m; exact nd1 m
      · exact fp.th x (List.mem_cons_of_mem _ m) z
/-- what several expressions give, as bindings -/
theorem ownBs_rel : ∀ {vs : List V} {bs : List B} {A : List Addr} {F : Hp} {sbs : List SB} {ρ2 : Env}, Stt C F H σ ρ → RBs C σ F H vs bs A → Fp σ F H ρ A → ownBs bs ρ = some (.ok sbs, ρ2) →
    ρ2 = ρ ∧ ∃ F1 A1, Stt C F1 H σ ρ ∧ Tr A σ F H ρ σ F1 H ρ ∧ RWs C F1 H vs sbs A1 ∧ Fp σ F1 H ρ A1 ∧ (∀ a ∈ A1, a ∈ A) ∧ ∀ a, a ∉ A → F1 a = F a
  | _, _, _, F, _, _, S, .nil, fp, e => by
    cases e
    exact ⟨rfl, F, [], S, Tr.refl, .nil, Fp.nil, fun a m => m, fun _ _ => rfl⟩
  | _, _, _, F, _, _, S, .cons (v := v) (b := b) (vs := vs) (bs := bs) (A := A) (A' := A') r t, fp, e => by
    obtain ⟨x, ρ3, e1, e'⟩ := bind_ok e
    obtain ⟨hρ, F1, S1, T1, r1, nio, f1, o1⟩ := own_rel2 S r fp.left e1
    rw [hρ] at e'
    obtain ⟨xs, ρ4, e2, e''⟩ := bind_ok e'
    cases e''
    obtain ⟨n1, n2, n3⟩ := List.nodup_append.mp fp.nd
    have fpr : Fp σ F1 H ρ A' := ⟨n2, fun a m => by rw [o1 a fun q => n3 a q a m rfl]; exact fp.right.nf a m, fp.right.no, fp.right.th⟩
    obtain ⟨hρ2, F2, A2, S2, T2, r2, f2, i2, o2⟩ := ownBs_rel S1 (t.mono T1.sub fun a _ o z => z) fpr e2
    have TT : Tr (A ++ A') σ F H ρ σ F2 H ρ := (T1.hand fun a m => List.mem_append_left _ m).trans (A1 := []) (fun _ z => nomatch z) (T2.hand fun a m => List.mem_append_left _ (List.mem_append_right _ m))
    have oo : ∀ a, a ∉ A ++ A' → F2 a = F a := fun a m => (o2 a fun q => m (List.mem_append_right _ q)).trans (o1 a fun q => m (List.mem_append_left _ q))
    cases r1 with
    | sh r1 => exact ⟨hρ2, F2, A2, S2, TT, .sh (r1.mono T2.sub) r2, f2, fun a m => List.mem_append_right _ (i2 a m), oo⟩
    | @ow a o r1 g1 =>
      obtain ⟨q1, q2, q3⟩ := f1 _ rfl rfl
      have na : a ∉ A' := fun m => n3 a q2 a m rfl
      refine ⟨hρ2, F2, a :: A2, S2, TT, .ow (r1.mono T2.sub fun _ z => z) r2, ⟨List.nodup_cons.mpr ⟨fun m => na (i2 a m), f2.nd⟩, fun x m => ?_, fun x m => ?_, fun x m => ?_⟩, fun x m => ?_, oo⟩
      · rcases List.mem_cons.mp m with rfl | m
        · rw [o2 x na]; exact g1
        · exact f2.nf x m
      · rcases List.mem_cons.mp m with rfl | m
        · exact q1
        · exact f2.no x m
      · rcases List.mem_cons.mp m with rfl | m
        · exact q3
        · exact f2.th x m
      · rcases List.mem_cons.mp m with rfl | m
        · exact List.mem_append_left _ q2
        · exact List.mem_append_right _ (i2 x m)
    | io r1 g1 => exact absurd rfl (nio _)
theorem bind_cases {α β : Type} {m : M α} {k : α → M β} {ρ : Env} {r : Res β} {ρ' : Env} (h : bind m k ρ = some (r, ρ')) : (∃ c p, m ρ = some (.exc c p, ρ') ∧ r = .exc c p) ∨ ∃ a ρ1, m ρ = some (.ok a, ρ1) ∧ k a ρ1 = some (r, ρ') := by
  unfold bind at h
  split at h
  · cases h
  · cases h; exact .inl ⟨_, _, by assumption, rfl⟩
  · exact .inr ⟨_, _, by assumption, h⟩
theorem ownBs_pure : ∀ {bs : List B} {ρ : Env} {r : Res (List SB)} {ρ' : Env}, ownBs bs ρ = some (r, ρ') → ρ' = ρ ∧ ∃ b, r = .ok b
  | [], ρ, r, ρ', e => by cases e; exact ⟨rfl, _, rfl⟩
  | b :: bs, ρ, r, ρ', e => by
    rcases bind_cases e with ⟨c, p, h, _⟩ | ⟨x, ρ1, h, e'⟩
    · obtain ⟨_, _, z⟩ := ownB_pure h
      cases z
    · obtain ⟨h1, _⟩ := ownB_pure h
      rcases bind_cases e' with ⟨c, p, h', _⟩ | ⟨xs, ρ2, h', e''⟩
      · obtain ⟨_, _, z⟩ := ownBs_pure h'
        cases z
      · obtain ⟨h3, _⟩ := ownBs_pure h'
        cases e''
        exact ⟨h3.trans h1, _, rfl⟩
/-- the values of a parallel assignment, then the names -/
theorem par_core {is : List Nat} {ms : M (List B)} {G : Ends} (h : tS C W (sPar is ms) G σ H) : tM C RlL W ms σ H fun vs H1 => ∃ F ρ A sbs, Stt C F H1 σ ρ ∧ RWs C F H1 vs sbs A ∧ Fp σ F H1 ρ A ∧ tSR C W A F ρ (bindSs is sbs) G σ H1 := by
  obtain ⟨F, ρ, S, h⟩ := h
  refine tSR_bind (R := RlL) S h fun vs bs A F1 H1 ρ1 T S1 rl fp nw q => ?_
  obtain ⟨sbs, eb, q⟩ := tSR_step q fun _ _ => ownBs_pure
  obtain ⟨_, F2, A2, S2, T2, r2, f2, i2, _⟩ := ownBs_rel S1 rl fp eb
  exact ⟨F2, ρ1, A2, sbs, S2, r2, f2, tSR_from (A1 := A2) (T2.hand fun z m => by rw [List.nil_append]; exact m) (fun z m => .inr (.inl (by rw [List.nil_append]; exact i2 z m))) rfl q⟩
theorem sim_par {i j : Nat} {x y : Str} {a b : Expr} {ms : M (List B)} {px py pt pos : Pos} {kt k2 pt2} (hc : X.calm = true) (hN : X.N.Nodup) (hi : X.N[i]? = some x) (hj : X.N[j]? = some y) (hij : i ≠ j) (hx : X.env.scope.names.lookup x = some .local) (hy : X.env.scope.names.lookup y = some .local)
    (ha : SimA cl X [a, b] ms) (hw : swappedStores [.Tuple [.Name x px, .Name y py] kt pt] (.Tuple [a, b] k2 pt2) X.env = pure (some [x, y])) (hs : swapsWithSole [.Tuple [.Name x px, .Name y py] kt pt] (.Tuple [a, b] k2 pt2) pos.line X.env = pure false) :
    SimS cl X (.Assign [.Tuple [.Name x px, .Name y py] kt pt] (.Tuple [a, b] k2 pt2) pos) (sPar [i, j] ms) := fun W tk => PS.imp (ps_par hc hN hi hj hij hx hy (ha W tk) hw hs) fun D σ H ⟨F, ρ, S, h⟩ => by
    obtain ⟨F0, ρ0, S0, r0⟩ := par_core ⟨F, ρ, S, h⟩
    refine ⟨F0, ρ0, S0, tR_mono r0 fun vs H1 ⟨F1, ρ1, A, sbs, S1, rw1, f1, q⟩ => ?_⟩
    obtain ⟨v, r, rfl, w, r2, rfl, rfl, q⟩ := bindSs_go S1 rw1 f1 q
    exact ⟨v, w, rfl, q⟩
/-- the same where a name is a cell: the tuple is made -/
theorem sim_parT {is : List Nat} {ts es : List Expr} {ms : M (List B)} {pt pos : Pos} {kt k2 pt2} {n : Nat} (hc : X.calm = true) (hl : is.length = n) (hlt : n ≤ 1000) (hg : PGs X ts (gSlots is)) (hn : (assignEach ts X.env).length = n) (hst : (assignEach ts X.env).findIdx? (·.1) = none)
    (ha : SimA cl X es ms) (hs : swapsWithSole [.Tuple ts kt pt] (.Tuple es k2 pt2) pos.line X.env = pure false) (hw : swappedStores [.Tuple ts kt pt] (.Tuple es k2 pt2) X.env = pure none) (h1 : (assignEach [.Tuple ts kt pt] X.env).map (·.2) = [assign (.Tuple ts kt pt) X.env]) :
    SimS cl X (.Assign [.Tuple ts kt pt] (.Tuple es k2 pt2) pos) (sPar is ms) := fun W tk => PS.imp (ps_asg (pe_tup (ha W tk)) (pg_tup hc hg hn hst) hs hw h1) fun D σ H ⟨F, ρ, S, h⟩ => by
    obtain ⟨F0, ρ0, S0, r0⟩ := par_core ⟨F, ρ, S, h⟩
    refine ⟨F0, ρ0, S0, tR_mono r0 fun vs H1 ⟨F1, ρ1, A, sbs, S1, rw1, f1, q⟩ => ?_⟩
    have lens : ∀ {is : List Nat} {vs : List V} {σ : St} {H : Hp} {Q : St → Hp → Prop}, gSlots is vs σ H Q → vs.length = is.length := fun {is} => by
      induction is with
      | nil => intro vs σ H Q h; obtain ⟨e, _⟩ := h; rw [e]; rfl
      | cons i is ih => intro vs σ H Q h; obtain ⟨v, r, rfl, h⟩ := h; simp [ih h]
    have hlen := lens (bindSs_go S1 rw1 f1 q)
    refine ⟨by rw [hlen, hl, sizeLine_eq]; omega, fun p hp => ⟨p, vs, rfl, .inl (.inl upd_same), by rw [hlen, hl], ?_⟩⟩
    obtain ⟨S2, T2, f2, n2⟩ := new_own (o := .tup vs) S1 hp
    have f3 := f1.tr T2
    exact bindSs_go S2 (rw1.mono T2.sub fun a m => f1.keep T2 m) f3 (tSR_from (A1 := A) (T2.hand fun _ z => nomatch z) (fun _ m => .inr (.inl m)) rfl q)
/-- a, b = e -/
theorem sim_unp {is : List Nat} {ts : List Expr} {e : Expr} {m : M B} {pt pos : Pos} {kt} {n : Nat} (hc : X.calm = true) (hl : is.length = n) (hg : PGs X ts (gSlots is)) (hn : (assignEach ts X.env).length = n) (hst : (assignEach ts X.env).findIdx? (·.1) = none)
    (ha : SimE cl X e m) (hs : swapsWithSole [.Tuple ts kt pt] e pos.line X.env = pure false) (hw : swappedStores [.Tuple ts kt pt] e X.env = pure none) (h1 : (assignEach [.Tuple ts kt pt] X.env).map (·.2) = [assign (.Tuple ts kt pt) X.env]) :
    SimS cl X (.Assign [.Tuple ts kt pt] e pos) (sUnp is m) := fun W tk => PS.imp (ps_asg (ha W tk) (pg_tup hc hg hn hst) hs hw h1) fun D σ H ⟨F, ρ, S, h⟩ => by
    refine tSR_bind (R := RlB) S h fun v b A F1 H1 ρ1 T S1 rl fp nw q => ?_
    have lens : ∀ {is : List Nat} {vs : List V} {σ : St} {H : Hp} {Q : St → Hp → Prop}, gSlots is vs σ H Q → vs.length = is.length := fun {is} => by
      induction is with
      | nil => intro vs σ H Q h; obtain ⟨e, _⟩ := h; rw [e]; rfl
      | cons i is ih => intro vs σ H Q h; obtain ⟨v, r, rfl, h⟩ := h; simp [ih h]
    have other : tSR (cs cl X) W ([] ++ A) F1 ρ1 (bind (kept [b]) fun ds => match ds with | [.tup vs] => bindSs is (vs.map SB.sh) | _ => stuck) D σ H1 → gTup X.K n (gSlots is) v σ H1 D.nx := fun q => by
      obtain ⟨ds, ek, q⟩ := tSR_step q fun r ρ' e => by
        unfold kept at e
        split at e
        · exact dats_pure e
        · cases e
      obtain ⟨_, nn, ed⟩ := kept_ok ek
      obtain ⟨S2, T2⟩ := share S1 fp
      have rs : RBs (cs cl X) σ F1 H1 [v] [b] (A ++ []) := .cons rl .nil
      have rp := rs.in_ (sub_addF fp) (fun a m o q => by rw [addF_in (by simpa using m)]; exact q) nn ed
      cases rp with
      | @cons _ _ d _ r1 t =>
        cases t
        cases d with
        | tup vs =>
          cases r1 with
          | tup g r =>
            have h := bindSs_go (A := []) S2 (RWs.of_reps r) Fp.nil (tSR_from (A1 := []) (T2.hand fun a m => by rw [List.nil_append]; exact m) (fun _ z => nomatch z) rfl q)
            exact ⟨_, _, rfl, S2.sub.sqT g, by rw [lens h, hl], h⟩
        | _ => exact tSR_stuck q
    cases b with
    | sh d => exact other q
    | ow o => exact other q
    | pl i => exact other q
    | tp bs =>
      cases rl with
      | tp g r =>
        have h := bindSs_go S1 (RWs.of_tp r) fp q
        exact ⟨_, _, rfl, S1.sub.sqT g, by rw [lens h, hl], h⟩
/-! ### errors -/
theorem sim_raise {e : Expr} {pos : Pos} {c : Nat} (hc : X.calm = true) (he : PMk X e (fun _ H Q => Q (.ref (cl c)) none H)) : SimS cl X (.Raise (some e) none pos) (sRaise c) := fun W tk => PS.imp (ps_raise hc tk he) fun D σ H ⟨F, ρ, S, r, ρ', e, h⟩ => by
  cases e
  exact h _ _ σ F H Tr.refl S ⟨rfl, rfl⟩
/-- the clauses of a try -/
inductive SimH (cl : Nat → Addr) (X : Cx) (n : Nat) : List ExceptHandler → List ((Nat → Bool) × WF.S) → Prop
  | nil : SimH cl X n [] []
  | cons {x : Str} {c : Value} {b₀ : Stmt} {suite : List Stmt} {np pos' : Pos} {hds : List ExceptHandler} {l : List ((Nat → Bool) × WF.S)} {t : Nat → Bool} {s : WF.S} (hc : Names X x c) (ht : ∀ k, k < n → PySem.W.exmOne X.K (.ref (cl k)) c = some (t k))
      (hsu : ∀ a pn, SimB cl (X.suite a pn) (b₀ :: suite) s) (r : SimH cl X n hds l) : SimH cl X n (.ExceptHandler (some (.Name x np)) none (b₀ :: suite) pos' :: hds) ((t, s) :: l)
inductive HdR (cl : Nat → Addr) (X : Cx) (n : Nat) : List ((Nat → Bool) × WF.S) → List (Value × (Addr → Value → Option Addr → TS)) → Prop
  | nil : HdR cl X n [] []
  | cons {c : Value} {t : Nat → Bool} {s : WF.S} {l l'} (ht : ∀ k, k < n → PySem.W.exmOne X.K (.ref (cl k)) c = some (t k)) (r : HdR cl X n l l') : HdR cl X n ((t, s) :: l) ((c, fun _ _ _ => tS (cs cl X) (fun _ _ _ _ => False) s) :: l')
theorem SimH.ok {n : Nat} {hds : List ExceptHandler} {l : List ((Nat → Bool) × WF.S)} (h : SimH cl X n hds l) : ∃ l', HdR cl X n l l' ∧ HdsOk X hds l' := by
  induction h with
  | nil => exact ⟨[], .nil, .nil⟩
  | cons hc ht hsu r ih =>
    obtain ⟨l', h1, h2⟩ := ih
    exact ⟨_, .cons ht h1, .cons hc (fun a oe cls d pn _ _ => hsu a _ _ takes0) h2⟩
/-- what a statement's outcome asks -/
def OutS (C : Cs) (W : WX) (F : Hp) (ρ : Env) (G : Ends) (σ : St) (H : Hp) (r : Res Fl) (ρ' : Env) : Prop := match r with
  | .ok .nx => ∀ σ' F' H', Tr [] σ F H ρ σ' F' H' ρ' → Stt C F' H' σ' ρ' → G.nx σ' H'
  | .ok .bk => ∀ σ' F' H', Tr [] σ F H ρ σ' F' H' ρ' → Stt C F' H' σ' ρ' → G.bk σ' H'
  | .ok .ct => ∀ σ' F' H', Tr [] σ F H ρ σ' F' H' ρ' → Stt C F' H' σ' ρ' → G.ct σ' H'
  | .ok (.rt b) => ∀ v A σ' F' H', Tr [] σ F H ρ σ' F' H' ρ' → Stt C F' H' σ' ρ' → noPl b = true → RB C σ' F' H' v b A → Fp σ' F' H' ρ' A → New [] σ H ρ A → G.rt v H'
  | .exc c p => ∀ cls d σ' F' H', Tr [] σ F H ρ σ' F' H' ρ' → Stt C F' H' σ' ρ' → REx C F' c p cls d H' → W cls d σ' H'
theorem outS_of {m : WF.S} (h : tSR C W [] F ρ m G σ H) : ∃ r ρ', m ρ = some (r, ρ') ∧ OutS C W F ρ G σ H r ρ' := h
theorem OutS.of {m : WF.S} {r : Res Fl} {ρ' : Env} (e : m ρ = some (r, ρ')) (h : OutS C W F ρ G σ H r ρ') : tSR C W [] F ρ m G σ H := ⟨r, ρ', e, h⟩
theorem OutS.late {r : Res Fl} {ρ' ρ1 : Env} {σ1 : St} {F1 H1 : Hp} (h : OutS C W F ρ G σ H r ρ') (T1 : Tr [] σ F H ρ σ1 F1 H1 ρ1) : OutS C W F1 ρ1 G σ1 H1 r ρ' := by
  cases r with
  | ok f =>
    cases f with
    | nx => exact fun σ' F' H' T' S' => h σ' F' H' (T1.trans0 T') S'
    | bk => exact fun σ' F' H' T' S' => h σ' F' H' (T1.trans0 T') S'
    | ct => exact fun σ' F' H' T' S' => h σ' F' H' (T1.trans0 T') S'
    | rt b => exact fun v A σ' F' H' T' S' np rl fp nw => h v A σ' F' H' (T1.trans0 T') S' np rl fp (New.trans T1 (A1 := []) (fun _ z => nomatch z) nw)
  | exc c p => exact fun cls d σ' F' H' T' S' x => h cls d σ' F' H' (T1.trans0 T') S' x
theorem OutS.ends {r : Fl} {ρ' : Env} {W' : WX} (h : OutS C W F ρ G σ H (.ok r) ρ') : OutS C W' F ρ G σ H (.ok r) ρ' := by
  cases r <;> exact h
theorem try_go {n c : Nat} {p : Option (Txt × D)} {cls : Value} {d : Option Addr} {r : Res Fl} {ρ' : Env} {σ1 : St} {F1 H1 : Hp} (hcn : c < n) (T1 : Tr [] σ F H ρ σ1 F1 H1 ρ1) (S1 : Stt (cs cl X) F1 H1 σ1 ρ1) (x : REx (cs cl X) F1 c p cls d H1) (h : OutS (cs cl X) W F ρ G σ H r ρ') {l l'} (hr : HdR cl X n l l') :
    tryGo c p l ρ1 = some (r, ρ') → wMany X.K W G l' cls d σ1 H1 := by
  induction hr with
  | nil =>
    intro e
    cases e
    exact h cls d σ1 F1 H1 T1 S1 x
  | @cons c' t s l l' ht hr ih =>
    intro e
    obtain ⟨rfl, x2⟩ := id x
    refine ⟨t c, ht c hcn, fun tc a ha => ?_, fun tc => ?_⟩
    · have e : (if t c then noExc s else tryGo c p l) ρ1 = some (r, ρ') := e
      rw [if_pos tc] at e
      unfold noExc at e
      split at e
      · rename_i f ρ2 es
        cases e
        exact ⟨F1, ρ1, S1, OutS.of es (h.late T1).ends⟩
      · cases e
    · have e : (if t c then noExc s else tryGo c p l) ρ1 = some (r, ρ') := e
      rw [if_neg (by rw [tc]; exact Bool.false_ne_true)] at e
      exact ih e
theorem sim_try {body : List Stmt} {h₀ : ExceptHandler} {hds : List ExceptHandler} {pos : Pos} {n : Nat} {mb : WF.S} {l : List ((Nat → Bool) × WF.S)} (hs : X.stack = X.env :: X.outer) (hf : X.env.frame = some X.env.locals)
    (hb : ∀ pn xe, PassesOwn (model X.prog X.w) X.A X.env xe → SimB cl (X.tr pn xe) body mb) (hh : SimH cl X n (h₀ :: hds) l) : SimS cl X (.Try body (h₀ :: hds) [] [] pos) (sTry n mb l) := fun W tk => by
  obtain ⟨l', hr, ok⟩ := hh.ok
  refine PS.imp (ps_try_many (tb := fun W => tS (cs cl X) W mb) hs hf tk (fun W pn xe tk' po => hb pn xe po W tk') ok) fun D σ H ⟨F, ρ, S, h⟩ => ?_
  obtain ⟨r, ρ', e, h⟩ := outS_of h
  refine ⟨F, ρ, S, ?_⟩
  unfold sTry at e
  split at e
  · rename_i c p ρ1 em
    split at e
    · rename_i hcn
      exact OutS.of em fun cls d σ1 F1 H1 T1 S1 x => try_go hcn T1 S1 x h hr e
    · cases e
  · rename_i f ρ1 em
    cases e
    exact OutS.of em h.ends
  · cases e
end
end WF

set_option Elab.async false
set_option linter.all false
set_option maxRecDepth 100000
set_option maxHeartbeats 4000000
/-! WFN: the rules in short forms, for a program that prints them. -/
namespace WF
open PySem PySem.Spec PyProof.Rows L2

/-- a name that is nothing special -/
structure Nm (x : Str) : Prop where
  d : (x == ("__debug__" : Str)) = false
  c : (x == ("__classdict__" : Str)) = false
def nmB (x : Str) : Bool := !(x == ("__debug__" : Str)) && !(x == ("__classdict__" : Str))
theorem nm_of {x : Str} (h : nmB x = true) : Nm x := by
  unfold nmB at h
  rw [Bool.and_eq_true, Bool.not_eq_true', Bool.not_eq_true'] at h
  exact ⟨h.1, h.2⟩
def plainE : Expr → Bool
  | .Starred _ _ => false
  | _ => true
theorem star_cons {e : Expr} {es : List Expr} {env : PySem.Env} (h : plainE e = true) : starEach (e :: es) env = (false, eval e env) :: starEach es env := by
  cases e <;> first | rfl | cases h
def allP : List Expr → Bool
  | [] => true
  | e :: es => plainE e && allP es
theorem star_any {pos : Pos} {env : PySem.Env} : ∀ {es : List Expr}, allP es = true → (backTo pos (starEach es env)).any (·.1) = false
  | [], _ => rfl
  | e :: es, h => by
    have h : (plainE e && allP es) = true := h
    rw [Bool.and_eq_true] at h
    rw [star_cons h.1]
    have ih := star_any (pos := pos) (env := env) h.2
    unfold backTo at ih ⊢
    rw [List.any_map] at ih
    rw [List.any_map, List.any_cons, ih]
    rfl
section
variable {cl : Nat → Addr} {X : Cx} {C : Cs} {σ : St} {F H : Hp} {ρ ρ1 : Env} {A A0 : List Addr} {W : WX}
theorem e_P (i : Nat) {x : Str} {pos : Pos} (hN : X.N[i]? = some x) (hv : Vis X.env.scope x) (n : Nm x) : SimE cl X (.Name x pos) (mP i) := sim_P hN hv n.d n.c
theorem e_V (i : Nat) {x : Str} {pos : Pos} (hN : X.N[i]? = some x) (hv : Vis X.env.scope x) (n : Nm x) : SimE cl X (.Name x pos) (mV i) := sim_V hN hv n.d n.c
/-- a name given away -/
theorem e_M (i : Nat) {x : Str} {pos : Pos} (hN : X.N[i]? = some x) (hv : Vis X.env.scope x) (n : Nm x) : SimE cl X (.Name x pos) (mMv i) :=
  fun W _ => PE.imp (pe_var hN hv n.d n.c) fun σ H Q ⟨F, ρ, S, r, ρ', e, h⟩ => by
    unfold mMv at e
    split at e
    · rename_i d hd
      cases e
      obtain ⟨v, e1, r1⟩ := S.sl i _ hd
      cases r1 with
      | sh r1 => exact ⟨v, e1, h v [] F H Tr.refl S (.sh r1) Fp.nil New.nil⟩
    · rename_i o hd
      cases e
      obtain ⟨v, e1, r1⟩ := S.sl i _ hd
      cases r1 with
      | @ow a _ r1 f =>
        have own : Owns σ ρ a := ⟨i, _, hd, rfl, e1⟩
        have un : ∀ x, Owns σ (ρ.set i none) x → Owns σ ρ x := fun x q => owns_unset (fun b z => by cases z) q
        have na : ¬ Owns σ (ρ.set i none) a := fun ⟨j, b, h1, h2, h3⟩ => by
          rcases at_set h1 with ⟨_, z, _⟩ | ⟨nj, z⟩
          · cases z
          · exact nj (S.dis j i b _ a z h2 hd rfl h3 e1)
        obtain ⟨u, hu⟩ := r1.some
        refine ⟨_, e1, h (.ref a) [a] F H ⟨Sub.refl _, fun _ _ z _ _ => z, fun _ _ _ _ z => z, fun _ z => z, fun x q => .inl (un x q), fun j w z => ?_, fun j w z => ?_⟩ ⟨S.sub, by rw [List.length_set]; exact S.len, fun j b z => ?_, fun j k b c x h1 h2 h3 h4 h5 h6 => ?_⟩ (.ow r1)
          ⟨by simp, fun x m => by rw [List.mem_singleton.mp m]; exact f, fun x m => by rw [List.mem_singleton.mp m]; exact na, fun x m => by rw [List.mem_singleton.mp m, hu]; simp⟩ fun x m => by rw [List.mem_singleton.mp m]; exact .inl own⟩
        · by_cases q : i = j
          · subst q; rw [hd] at z; cases z
          · exact ⟨⟨w, by rw [at_set_ne q]; exact z⟩, rfl⟩
        · rcases at_set z with ⟨_, q, _⟩ | ⟨_, q⟩
          · cases q
          · exact ⟨w, q⟩
        · rcases at_set z with ⟨_, q, _⟩ | ⟨_, q⟩
          · cases q
          · exact S.sl j b q
        · rcases at_set h1 with ⟨_, q, _⟩ | ⟨_, q⟩
          · cases q
          · rcases at_set h3 with ⟨_, p, _⟩ | ⟨_, p⟩
            · cases p
            · exact S.dis j k b c x q h2 p h4 h5 h6
    · cases e
/-! ### constants -/
def cstC : Const → Option D
  | .none => some .non
  | .bool b => some (.bl b)
  | .int i => some (.int i)
  | .str x => if okTb x.cps.toList then some (.str x.cps.toList) else none
  | _ => none
def cstU : Const → Option D
  | .int i => some (.int (-i))
  | _ => none
mutual
/-- the data of an expression of constants -/
def cst : Expr → Option D
  | .Constant c _ _ => cstC c
  | .UnaryOp .USub (.Constant c _ _) _ => cstU c
  | .Tuple es _ _ => if es.length ≤ 1000 then (cstL es).map D.tup else none
  | _ => none
def cstL : List Expr → Option (List D)
  | [] => some []
  | e :: es => match cst e, cstL es with
    | some d, some ds => some (d :: ds)
    | _, _ => none
end
theorem cst_plain {e : Expr} {d : D} (h : cst e = some d) : plainE e = true := by
  cases e <;> first | rfl | (unfold cst at h; cases h)
theorem mTup_const {ds : List D} (h : ds.length ≤ 1000) : mTup (ret (ds.map B.sh)) = mK (.tup ds) := by
  funext ρ
  have k : ∀ ds : List D, datsL ρ (ds.map B.sh) = some ds := fun ds => by
    induction ds with
    | nil => rfl
    | cons d ds ih => show (match (B.sh d).dat ρ, datsL ρ (ds.map B.sh) with | some d, some ds => some (d :: ds) | _, _ => none) = _; rw [ih]; rfl
  have n : (ds.map B.sh).all noPl = true := by
    rw [List.all_eq_true]
    intro b m
    obtain ⟨d, _, rfl⟩ := List.mem_map.mp m
    rfl
  have f : few (ds.map B.sh) = true := by
    unfold few
    rw [List.length_map]
    exact decide_eq_true h
  show (if few (ds.map B.sh) then bind (kept (ds.map B.sh)) fun ds => ret (B.sh (.tup ds)) else stuck) ρ = _
  rw [f, if_pos rfl]
  have e : kept (ds.map B.sh) ρ = some (.ok ds, ρ) := by
    unfold kept
    rw [n, if_pos rfl]
    show (match datsL ρ (ds.map B.sh) with | none => none | some ds => some (Res.ok ds, ρ)) = _
    rw [k]
  unfold bind
  rw [e]
  rfl
theorem mCons_const {d : D} {ds : List D} : mCons (mK d) (ret (ds.map B.sh)) = ret ((d :: ds).map B.sh) := rfl
mutual
theorem sim_cst : ∀ {e : Expr} {d : D}, cst e = some d → SimE cl X e (mK d)
  | .Constant c i p, d, h => by
    unfold cst at h
    cases c with
    | none => cases h; exact sim_non
    | bool b => cases h; exact sim_bl
    | int i => cases h; exact sim_int
    | str x =>
      have h : (if okTb x.cps.toList then some (D.str x.cps.toList) else none) = some d := h
      by_cases ho : okTb x.cps.toList = true
      · rw [if_pos ho] at h; cases h; exact sim_str rfl ho
      · rw [if_neg ho] at h; cases h
    | _ => cases h
  | .UnaryOp .USub (.Constant c i p) p2, d, h => by
    cases c with
    | int i =>
      unfold cst at h
      cases h
      have : mNeg (mK (.int i)) = mK (.int (-i)) := rfl
      rw [← this]
      exact sim_neg sim_int
    | _ => unfold cst at h; cases h
  | .Tuple es k p, d, h => by
    unfold cst at h
    split at h
    · rename_i hl
      obtain ⟨ds, e, rfl⟩ := Option.map_eq_some_iff.mp h
      have hs : SimA cl X es (ret (ds.map B.sh)) := sim_cstL e
      rw [← mTup_const (by rw [cstL_len e]; exact hl)]
      exact sim_tup hs
    · cases h
theorem sim_cstL : ∀ {es : List Expr} {ds : List D}, cstL es = some ds → SimA cl X es (ret (ds.map B.sh))
  | [], _, h => by cases h; exact sim_nil
  | e :: es, ds, h => by
    unfold cstL at h
    split at h
    · rename_i d ds' h1 h2
      cases h
      rw [← mCons_const]
      exact sim_cons (sim_cst h1) (sim_cstL h2) (star_cons (cst_plain h1))
    · cases h
theorem cstL_len : ∀ {es : List Expr} {ds : List D}, cstL es = some ds → ds.length = es.length
  | [], _, h => by cases h; rfl
  | e :: es, ds, h => by
    unfold cstL at h
    split at h
    · rename_i d ds' h1 h2
      cases h
      rw [List.length_cons, List.length_cons, cstL_len h2]
    · cases h
end
/-! ### arguments -/
theorem a_c {e : Expr} {es : List Expr} {m : M B} {ms : M (List B)} (ha : SimE cl X e m) (hr : SimA cl X es ms) (hs : plainE e = true := by rfl) : SimA cl X (e :: es) (mCons m ms) := sim_cons ha hr (star_cons hs)
theorem a_n : SimA cl X [] mNil := sim_nil
/-! ### built-ins -/
theorem e_len {e : Expr} {p pos : Pos} {m : M B} (b : Bn X "len") (ha : SimE cl X e m) (hs : plainE e = true := by rfl) : SimE cl X (.Call (.Name "len" p) [e] [] pos) (mLen m) := sim_len b ha (star_cons hs)
theorem e_int {e : Expr} {p pos : Pos} {m : M B} (b : Bn X "int") (ha : SimE cl X e m) (hs : plainE e = true := by rfl) : SimE cl X (.Call (.Name "int" p) [e] [] pos) (mInt m) := sim_int1 b ha (star_cons hs)
theorem e_tuple {e : Expr} {p pos : Pos} {m : M B} (b : Bn X "tuple") (ha : SimE cl X e m) (hs : plainE e = true := by rfl) : SimE cl X (.Call (.Name "tuple" p) [e] [] pos) (mTuple m) := sim_tuple b ha (star_cons hs)
theorem e_all {e : Expr} {p pos : Pos} {m : M B} (b : Bn X "all") (hc : X.calm = true) (ha : SimE cl X e m) (hs : plainE e = true := by rfl) : SimE cl X (.Call (.Name "all" p) [e] [] pos) (mAll m) := sim_all b hc ha (star_cons hs)
theorem e_any {e : Expr} {p pos : Pos} {m : M B} (b : Bn X "any") (hc : X.calm = true) (ha : SimE cl X e m) (hs : plainE e = true := by rfl) : SimE cl X (.Call (.Name "any" p) [e] [] pos) (mAny m) := sim_any b hc ha (star_cons hs)
theorem e_isBool {e : Expr} {p p2 pos : Pos} {m : M B} (b : Bn X "isinstance") (bt : Bn X "bool") (ha : SimE cl X e m) (hs : plainE e = true := by rfl) : SimE cl X (.Call (.Name "isinstance" p) [e, .Name "bool" p2] [] pos) (mIsA .bool m) := sim_isA .bool rfl b bt (by decide +kernel) (by decide +kernel) (by decide +kernel) ha (star_cons hs) (star_cons rfl) (star_any rfl)
theorem e_isInt {e : Expr} {p p2 pos : Pos} {m : M B} (b : Bn X "isinstance") (bt : Bn X "int") (ha : SimE cl X e m) (hs : plainE e = true := by rfl) : SimE cl X (.Call (.Name "isinstance" p) [e, .Name "int" p2] [] pos) (mIsA .int m) := sim_isA .int rfl b bt (by decide +kernel) (by decide +kernel) (by decide +kernel) ha (star_cons hs) (star_cons rfl) (star_any rfl)
theorem e_isStr {e : Expr} {p p2 pos : Pos} {m : M B} (b : Bn X "isinstance") (bt : Bn X "str") (ha : SimE cl X e m) (hs : plainE e = true := by rfl) : SimE cl X (.Call (.Name "isinstance" p) [e, .Name "str" p2] [] pos) (mIsA .str m) := sim_isA .str rfl b bt (by decide +kernel) (by decide +kernel) (by decide +kernel) ha (star_cons hs) (star_cons rfl) (star_any rfl)
theorem e_isTup {e : Expr} {p p2 pos : Pos} {m : M B} (b : Bn X "isinstance") (bt : Bn X "tuple") (ha : SimE cl X e m) (hs : plainE e = true := by rfl) : SimE cl X (.Call (.Name "isinstance" p) [e, .Name "tuple" p2] [] pos) (mIsA .tuple m) := sim_isA .tuple rfl b bt (by decide +kernel) (by decide +kernel) (by decide +kernel) ha (star_cons hs) (star_cons rfl) (star_any rfl)
theorem i_range {tg a : Expr} {p pos : Pos} {m : M B} (b : Bn X "range") (ha : SimE cl X a m) (hs : plainE a = true := by rfl) : SimI cl X tg (.Call (.Name "range" p) [a] [] pos) (itRange m) := sim_range b ha (star_cons hs) (star_cons hs)
theorem i_range2 {tg a c : Expr} {p pos : Pos} {m mc : M B} (b : Bn X "range") (ha : SimE cl X a m) (hc : SimE cl X c mc) (hs : plainE a = true := by rfl) (hs2 : plainE c = true := by rfl) : SimI cl X tg (.Call (.Name "range" p) [a, c] [] pos) (itRange2 m mc) :=
  sim_range2 b ha hc (by rw [star_cons hs, star_cons hs2]; rfl) (star_cons hs2) (star_cons hs) (star_cons hs2)
theorem i_zip {elts : List Expr} {kk : Nat} {tpos : Pos} {a c : Expr} {p pos : Pos} {m mc : M B} (b : Bn X "zip") (ha : SimE cl X a m) (hc : SimE cl X c mc) (hs : plainE a = true := by rfl) (hs2 : plainE c = true := by rfl) : SimI cl X (.Tuple elts kk tpos) (.Call (.Name "zip" p) [a, c] [] pos) (itZip m mc) :=
  sim_zip b ha hc (star_cons hs) (star_cons hs2) (star_any (es := [c]) (by show (plainE c && true) = true; rw [hs2]; rfl))
/-! ### calls -/
theorem e_call {f : Fn} {fa : Addr} {fd : FuncData} {k : Nat} {ps : List Str} {x : Str} {p pos : Pos} {e : Expr} {es : List Expr} {args : M (List B)} (Fk : FnOk X.prog X.w X.K X.mg X.base (L2.CX X.prog X.w) k fa fd ps (FSp (cs cl X) f)) (hr : Room k X.A) (hm : X.mg x = some (.ref fa))
    (hk : PySem.W.keepIn X.K (.ref fa) = true) (hb : Binds X.K fd ps []) (n : Nm x) (ha : SimA cl X (e :: es) args) (hg : Gl X x) (hs : plainE e = true := by rfl) (hp : allP es = true := by rfl) : SimE cl X (.Call (.Name x p) (e :: es) [] pos) (mCall f args) :=
  sim_call Fk hr hm hk hb ha hg n.d (star_cons hs) (star_any hp)
end
end WF

set_option Elab.async false
set_option linter.all false
set_option maxRecDepth 100000
set_option maxHeartbeats 4000000
/-! WFR: enumerate of a tuple; split; list; sorted. -/
namespace WF
open PySem PySem.Spec PyProof.Rows L2
/-! ### enumerate -/
set_option maxHeartbeats 1000000 in
theorem enum_new {v : Value} {o : Obj} {Hh : Heap → Prop} (B : Begins v o Hh) : Meets (Builtin.«enumerate.__new__» ⟨[.type "enumerate", v], []⟩) (fun _ R s => Hh s.heap ∧
      R (.ok (.ret (.ref (s.heap.push o).objs.size))) { s with heap := (s.heap.push o).push { cls := .type "enumerate", data := .fields #[.none, .bool false, .ref s.heap.objs.size, rawInt 0, .none, .none] } }) :=
  .of_wp fun prog w A R s hh => by
    obtain ⟨hp, g, d, tk, os⟩ := s
    obtain ⟨k1, hR⟩ := hh
    have sb := sub_enumerate
    have it : ∀ {A' : Around} {E : Value → Shared → Prop} {Q : Value → Shared → Prop}, Q (.ref hp.objs.size) ⟨hp.push o, g, d, tk, os⟩ → wpAny (model prog w) A' (pyIter v) Q E ⟨hp, g, d, tk, os⟩ :=
      fun q => B.iter prog w _ _ ⟨hp, g, d, tk, os⟩ _ k1 q
    wp_walk using it
    refine wpAny_stack_any fun st => wpAny_pure ?_
    split
    · rename_i c _ _ _ _ _
      cases (c == Value.type "enumerate") <;> (wp_walk using it; exact ⟨_, rfl, hR⟩)
    · wp_walk using it
      exact ⟨_, rfl, hR⟩
theorem enum_call {prog : Program} {w : World} {A : Around} {E : Value → Shared → Prop} {s : Shared} {v : Value} {o : Obj} {Hh : Heap → Prop} {Q : Value → Shared → Prop} (B : Begins v o Hh) (k1 : Hh s.heap)
    (h : ∀ h', IsEnum h' (s.heap.objs.size + 1) s.heap.objs.size 0 .none → h'.get? s.heap.objs.size = some o → h'.objs.size = s.heap.objs.size + 2 → (∀ b u, s.heap.get? b = some u → h'.get? b = some u) → Q (.ref (s.heap.objs.size + 1)) { s with heap := h' }) :
    wpAny (model prog w) A (call (.type "enumerate") [v]) Q E s := by
  refine callType_new F.called_enumerate (by decide) (F.typeCall_enumerate_1 _) (F.newCall_enumerate_1 _) (fun obj => F.args_object_init_2 obj _) F.entry_enumerate_new (enum_new B) ⟨k1, ?_⟩
  have sz : (s.heap.push o).objs.size = s.heap.objs.size + 1 := Heap.size_push ..
  show _ ∧ _
  rw [sz]
  have he := Heap.get?_push_size (s.heap.push o) (o := { cls := .type "enumerate", data := .fields #[.none, .bool false, .ref s.heap.objs.size, rawInt 0, .none, .none] }) rfl
  rw [sz] at he
  exact ⟨⟨_, he, rfl⟩, h _ he (Heap.get?_push_of_some _ (Heap.get?_push_size _ B.free)) (by rw [Heap.size_push, sz]) fun b u x => Heap.get?_push_of_some _ (Heap.get?_push_of_some _ x)⟩
/-- the tuple at a as it stands, numbered -/
def ItE (K : PySem.W.Frag) (a : Addr) : It :=
  ⟨fun i H => ∃ (xs : List V) (x : V), SqT K H a xs ∧ xs[i]? = some x, fun i H v H' => ∃ (T : Addr) (x : V), v = .ref T ∧ H T = none ∧ H' = upd H T (.tup [.int (i : Nat), x]) ∧ ∀ xs, SqT K H a xs → xs[i]? = some x, fun i H => ∃ xs : List V, SqT K H a xs ∧ xs.length = i⟩
theorem turn_enumT {P : Program} {w : World} {K : PySem.W.Frag} {elts : List Expr} {kk : Nat} {tpos : Pos} (a e it : Addr) (ha : a < it) (hae : a < e) :
    Turn P w K (.Tuple elts kk tpos) (ItE K a) [e, it] e (fun i h => (∃ old, IsEnum h e it ((i : Nat) : Int) old) ∧ h.IsTupleIter it a i ∧ e ≠ it) where
  mem := by simp
  obj := fun i h st b hb => by
    obtain ⟨⟨old, he⟩, ⟨o, ho, hc, hd⟩, _⟩ := st
    rcases (show b = e ∨ b = it by simpa using hb) with rfl | rfl
    · exact ⟨_, he, fun v z => nomatch z⟩
    · exact ⟨o, ho, fun v z => by rw [hd] at z; cases z⟩
  keep := fun i h h' st k => by
    obtain ⟨⟨old, he⟩, hi, ne⟩ := st
    exact ⟨⟨old, k e (by simp) _ he⟩, hi.at fun o q => k it (by simp) o q, ne⟩
  item := by
    intro X hP hw hK hc i pins s σ H E I hf st hg
    subst hP hw hK
    obtain ⟨⟨old, he⟩, hi, ne⟩ := st
    obtain ⟨xs, x, hq, hx⟩ := hg
    obtain ⟨us, rv, pt, _⟩ := I.tuple hq
    obtain ⟨u, hu, ru⟩ := rv.get hx
    have le : e < s.heap.objs.size := Heap.lt_size he
    have li : it < s.heap.objs.size := by obtain ⟨_, q, _⟩ := hi; exact Heap.lt_size q
    have pt' : s.heap.IsTuple a us.toArray := pt
    have hlt : i < us.toArray.size := by
      have := (List.getElem?_eq_some_iff.mp hu).1
      simpa using this
    refine wpAny_pyNext_enum_itemD (Draws.tuple (A := X.A.in1) (by show X.A.handled = none; exact I.ok.hd hc) it a (Nat.ne_of_lt ha) us.toArray) he ⟨hi, pt'⟩ hlt ne (by simp [ne, Nat.ne_of_gt hae]) fun x' h' tk hx' ho' st' hT sz kk' => ?_
    have ex : x' = u := by
      have h1 : us.toArray[i]? = some x' := hx'
      have h2 : us.toArray[i]? = some u := by simpa using hu
      rw [h2] at h1
      exact (Option.some.inj h1).symm
    subst ex
    refine ⟨_, rfl, wpAny_letOwnedTupleGo_enum (s := { s with heap := h', toks := tk + 1 }) ho' fun h2 he2 sb => ?_⟩
    have hT2 : h2.get? s.heap.objs.size = some { cls := .type "tuple", data := .seq #[.int i tk, x'] } := (sb.2 _ (Nat.ne_of_gt le)).trans hT
    have ob : ObjOk X.prog X.w (upd H s.heap.objs.size (.tup [.int (i : Nat), x])) h2 s.heap.objs.size (.tup [.int (i : Nat), x]) := ⟨by show 2 ≤ sizeLine; decide, [.int i tk, x'], .cons ⟨_, rfl⟩ (.cons ru .nil), ⟨_, hT2, rfl, _, rfl⟩⟩
    have I2 : Inv X pins σ (upd H s.heap.objs.size (.tup [.int (i : Nat), x])) { s with heap := h2, toks := tk + 1 } :=
      I.turnedNew (ch := [e, it]) (fun b u hb q => (sb.2 b fun z => hb (by simp [z])).trans (kk' b u (fun z => hb (by simp [z])) (fun z => hb (by simp [z])) q)) hf (Nat.le_refl _) ob
    refine ⟨.ref s.heap.objs.size, _, I2, rfl, ⟨_, x, rfl, I.hok.fresh (Nat.le_refl _), rfl, fun ys hy => by rw [I.tuple_inj hy hq]; exact hx⟩, ⟨⟨x', ?_⟩, st'.1.at fun o q => (sb.2 it (Ne.symm ne)).trans q, ne⟩, fun b hb => ?_⟩
    · rw [show ((i + 1 : Nat) : Int) = (i : Int) + 1 by omega]; exact he2
    · have lb : b < s.heap.objs.size := by
        rcases (show b = e ∨ b = it by simpa using hb) with rfl | rfl
        · exact le
        · exact li
      rw [upd_ne (Nat.ne_of_lt lb)]
      exact (hf b hb).1
  done := by
    intro X hP hw hK hc i pins s σ H E I hf st hg
    subst hP hw hK
    obtain ⟨⟨old, he⟩, hi, ne⟩ := st
    obtain ⟨xs, hq, hx⟩ := hg
    obtain ⟨us, rv, pt, _⟩ := I.tuple hq
    obtain ⟨f0, f1, f2, f3, f4, f5⟩ := hf it (by simp)
    have hl := rv.length
    have pt' : s.heap.IsTuple a us.toArray := pt
    have en : i = us.toArray.size := by rw [List.size_toArray]; omega
    subst en
    exact wpAny_pyNext_enum_endD (Draws.tuple (A := X.A.in1) (by show X.A.handled = none; exact I.ok.hd hc) it a (Nat.ne_of_lt ha) us.toArray) he ⟨hi, pt'⟩ fun h' eb => ⟨rfl, I.turned (t' := s.toks) (fun b o hb q => eb b o hb q) f0 f1 f3 f4 f5⟩
  self := fun A i s Q E st h => let ⟨⟨_, he⟩, _⟩ := st; wpAny_pyIter_enum he h

section
variable {cl : Nat → Addr} {X : Cx} {C : Cs} {σ : St} {F H : Hp} {ρ ρ1 : Env} {A A0 : List Addr} {W : WX}
def iEnumA (K : PySem.W.Frag) (ta : TA) : TI := fun σ H R => ta σ H fun vs H1 => ∃ a xs, vs = [.ref a] ∧ ((SqL K H1 a xs ∧ R (Ite K a) H1) ∨ (SqT K H1 a xs ∧ R (ItE K a) H1))
theorem pi_enumA {e : Expr} {ta : TA} {p pos tpos : Pos} {elts : List Expr} {kk : Nat} (hg : Gl X "enumerate") (hm : X.mg "enumerate" = none) (ha : PA X [e] ta) (hs : starEach [e] X.env = [(false, eval e X.env)]) : PI X (.Tuple elts kk tpos) (.Call (.Name "enumerate" p) [e] [] pos) (iEnumA X.K ta) := by
  refine ⟨fun pins s σ H R I h => ?_⟩
  refine Call_ (ld_blt I hg hm boot_enumerate (PyProof.Rows.callWith_type1 (thn (ha.run pos pins s σ H _ I h) fun us s1 hh => ?_) hs rfl))
  obtain ⟨vs, H1, I1, r1, a, xs, ex, q⟩ := hh
  subst ex
  obtain ⟨u, rfl, ru⟩ := vals1 r1
  obtain rfl : u = Value.ref a := ru
  have fresh2 : ∀ b ∈ [s1.heap.objs.size + 1, s1.heap.objs.size], FpOk X pins H1 b := fun b hb => by
    have le : s1.heap.objs.size ≤ b := by
      rcases (show b = s1.heap.objs.size + 1 ∨ b = s1.heap.objs.size by simpa using hb) with rfl | rfl
      · exact Nat.le_succ _
      · exact Nat.le_refl _
    exact I1.fpOk le (I1.hok.fresh le)
  rcases q with ⟨hq, q⟩ | ⟨hq, q⟩
  · obtain ⟨us, rv, pl, _⟩ := I1.list hq
    refine enum_call (begins_list a us.toArray) pl.isList fun h' he ho sz kk => wpAny_pyIter_enum he ?_
    exact ⟨_, _, _, _, H1, rfl, I1.kept (t' := s1.toks) kk, turn_enum a (s1.heap.objs.size + 1) s1.heap.objs.size, ⟨⟨.none, he⟩, ⟨_, ho, rfl, rfl⟩, Nat.succ_ne_self _⟩, fresh2, q⟩
  · obtain ⟨us, rv, pt, _⟩ := I1.tuple hq
    have pt' : s1.heap.IsTuple a us.toArray := pt
    obtain ⟨oa, hoa, _⟩ := id pt'
    have la : a < s1.heap.objs.size := Heap.lt_size hoa
    refine enum_call (begins_tuple a us.toArray) pt' fun h' he ho sz kk => wpAny_pyIter_enum he ?_
    exact ⟨_, _, _, _, H1, rfl, I1.kept (t' := s1.toks) kk, turn_enumT a (s1.heap.objs.size + 1) s1.heap.objs.size la (Nat.lt_succ_of_lt la), ⟨⟨.none, he⟩, ⟨_, ho, rfl, rfl⟩, Nat.succ_ne_self _⟩, fresh2, q⟩
theorem upto_get {n i : Nat} (h : i < n) : (upto n)[i]? = some (.int (i : Nat)) := by
  unfold upto
  simp [h]
theorem enumD_len (xs : List D) : (zipD (upto xs.length) xs).length = xs.length := by
  rw [zipD_len]
  unfold upto
  simp
theorem gives_enum {F : Hp} {a : Addr} {xs : List V} {ds : List D} (h : SqL C.K F a xs) (r : Reps C F xs ds) : Gives C F (Ite C.K a) (zipD (upto ds.length) ds) := by
  have l1 := r.length
  refine ⟨fun i H hi s => ?_, fun H s => ?_, fun i H v H' hi s y => ?_⟩
  · rw [enumD_len] at hi
    obtain ⟨x, ex⟩ := len_idx (i := i) l1 hi
    exact ⟨xs, x, s.sqL h, ex⟩
  · rw [enumD_len]
    exact ⟨xs, s.sqL h, by omega⟩
  · rw [enumD_len] at hi
    obtain ⟨T, x, e1, e2, e3, e4⟩ := y
    obtain ⟨d, p1, p2⟩ := reps_idx r (e4 xs (s.sqL h))
    exact ⟨_, zipD_get (upto_get hi) p1, .inr ⟨T, [.int (i : Nat), x], [.int (i : Nat), d], e1, e2, e3, rfl, .cons (.int _) (.cons p2 .nil)⟩⟩
theorem gives_enumT {F : Hp} {a : Addr} {xs : List V} {ds : List D} (h : SqT C.K F a xs) (r : Reps C F xs ds) : Gives C F (ItE C.K a) (zipD (upto ds.length) ds) := by
  have l1 := r.length
  refine ⟨fun i H hi s => ?_, fun H s => ?_, fun i H v H' hi s y => ?_⟩
  · rw [enumD_len] at hi
    obtain ⟨x, ex⟩ := len_idx (i := i) l1 hi
    exact ⟨xs, x, s.sqT h, ex⟩
  · rw [enumD_len]
    exact ⟨xs, s.sqT h, by omega⟩
  · rw [enumD_len] at hi
    obtain ⟨T, x, e1, e2, e3, e4⟩ := y
    obtain ⟨d, p1, p2⟩ := reps_idx r (e4 xs (s.sqT h))
    exact ⟨_, zipD_get (upto_get hi) p1, .inr ⟨T, [.int (i : Nat), x], [.int (i : Nat), d], e1, e2, e3, rfl, .cons (.int _) (.cons p2 .nil)⟩⟩
theorem i_enum {elts : List Expr} {kk : Nat} {tpos : Pos} {a : Expr} {p pos : Pos} {m : M B} (b : Bn X "enumerate") (ha : SimE cl X a m) (hs : plainE a = true := by rfl) : SimI cl X (.Tuple elts kk tpos) (.Call (.Name "enumerate" p) [a] [] pos) (itEnum m) := fun W tk =>
  PI.imp (pi_enumA b.gl b.mg (pa_cons (ha W tk) pa_nil (star_cons hs)) (star_cons hs)) fun σ H R ⟨F, ρ, S, h⟩ => by
    refine tM_bind (R1 := RlB) S h fun x b A F1 H1 ρ1 T1 S1 r1 f1 n1 h1 => ?_
    obtain ⟨d, F2, S2, rd, sb, h2⟩ := kept1 S1 r1 f1 h1
    obtain ⟨ds, e, q⟩ := tR_end h2
    cases d with
    | tup xs =>
      cases e
      cases rd with
      | tup g r => exact ⟨_, _, rfl, .inr ⟨S2.sub.sqT g, q _ [] F2 H1 Tr.refl S2 ⟨gives_enumT g r, rfl⟩ Fp.nil New.nil⟩⟩
    | lst xs =>
      cases e
      cases rd with
      | lst g r => exact ⟨_, _, rfl, .inl ⟨S2.sub.sqL g, q _ [] F2 H1 Tr.refl S2 ⟨gives_enum g r, rfl⟩ Fp.nil New.nil⟩⟩
    | _ => cases e
/-! ### list(x) -/
theorem reps_keys {F : Hp} : ∀ {xs : List (Key × V)} {kvs : List (D × D)}, RepS C F xs kvs → Reps C F (xs.map fun kv => kV kv.1) (kvs.map (·.1))
  | _, _, .nil => .nil
  | _, _, .cons o r z => .cons (.str _ o) (reps_keys z)
theorem call_listX (hc : X.calm = true) : CallR X (.type "list") (fun xs H Q => (∃ p ys, xs = [.ref p] ∧ (SqL X.K H p ys ∨ SqT X.K H p ys) ∧ ∀ l, H l = none → Q (.ref l) (upd H l (.lst ys))) ∨
    ∃ (a : Addr) (kvs : List (Key × V)), xs = [.ref a] ∧ Rd H a (.dK kvs) ∧ ∀ p, H p = none → Q (.ref p) (upd H p (.lst (kvs.map fun kv => kV kv.1)))) :=
  fun pins s σ H xs us Q I r h => h.elim (call_list_of pins s σ H xs us Q I r) (call_listD hc pins s σ H xs us Q I r)
theorem od_list : Od1 C (fun xs H Q => (∃ p ys, xs = [.ref p] ∧ (SqL C.K H p ys ∨ SqT C.K H p ys) ∧ ∀ l, H l = none → Q (.ref l) (upd H l (.lst ys))) ∨
    ∃ (a : Addr) (kvs : List (Key × V)), xs = [.ref a] ∧ Rd H a (.dK kvs) ∧ ∀ p, H p = none → Q (.ref p) (upd H p (.lst (kvs.map fun kv => kV kv.1)))) iList := by
  intro σ F H ρ A0 x d b Q S v e q
  unfold iList at e
  split at e
  · cases e
    obtain ⟨a, xs, rfl, g, r⟩ := v.tup
    exact .inl ⟨a, xs, rfl, .inr (S.sub.sqT g), fun l hl => q.lst S r hl⟩
  · cases e
    obtain ⟨a, xs, rfl, g, r⟩ := v.lst S.sub
    exact .inl ⟨a, xs, rfl, .inl g, fun l hl => q.lst S r hl⟩
  · cases e
    obtain ⟨a, xs, rfl, g, r⟩ := v.dicS S.sub
    exact .inr ⟨a, xs, rfl, .inl g, fun l hl => q.lst S (reps_keys r) hl⟩
  · cases e
theorem e_list {e : Expr} {p pos : Pos} {m : M B} (hc : X.calm = true) (b : Bn X "list") (ha : SimE cl X e m) (hs : plainE e = true := by rfl) : SimE cl X (.Call (.Name "list" p) [e] [] pos) (mList m) :=
  sim_c1 (call_listX hc) od_list b.gl b.mg (by decide +kernel) ha (by decide) (by decide) (star_cons hs)
/-! ### split -/
theorem splitT_ne (c : Nat) : ∀ x : Txt, ∃ y r, splitT c x = y :: r
  | [] => ⟨_, _, rfl⟩
  | a :: x => by
    unfold splitT
    by_cases h : a = c
    · rw [if_pos h]; exact ⟨_, _, rfl⟩
    · rw [if_neg h]
      obtain ⟨y, r, e⟩ := splitT_ne c x
      rw [e]
      exact ⟨_, _, rfl⟩
theorem spl_one (c : Nat) : ∀ (x acc : Txt) {y : Txt} {r : List Txt}, splitT c x = y :: r → TL.spl [c] 0 acc x = (acc ++ y) :: r
  | [], acc, y, r, h => by
    cases h
    rw [TL.spl_nil, List.append_nil]
  | a :: x, acc, y, r, h => by
    unfold splitT at h
    by_cases e : a = c
    · rw [if_pos e] at h
      cases h
      subst e
      rw [TL.spl_hit (by simp [TL.pre])]
      obtain ⟨y, r, e⟩ := splitT_ne a x
      have := spl_one a x [] e
      rw [show ([a] : List Nat).length - 1 = 0 from rfl, this, e, List.append_nil]
      rfl
    · rw [if_neg e] at h
      obtain ⟨y', r', e'⟩ := splitT_ne c x
      rw [e'] at h
      cases h
      rw [TL.spl_miss (by simp [TL.pre, e]), spl_one c x _ e', List.append_assoc]
      rfl
theorem splitT_ok (c : Nat) : ∀ {x : Txt}, ∀ y ∈ splitT c x, (∀ z ∈ y, z ∈ x) ∧ y.length ≤ x.length
  | [], y, m => by
    have : y = [] := by simpa [splitT] using m
    subst this
    exact ⟨fun z m => (nomatch m), Nat.le_refl _⟩
  | a :: x, y, m => by
    unfold splitT at m
    by_cases e : a = c
    · rw [if_pos e] at m
      rcases List.mem_cons.mp m with rfl | m
      · exact ⟨fun z m => (nomatch m), Nat.zero_le _⟩
      · obtain ⟨h1, h2⟩ := splitT_ok c y m
        exact ⟨fun z m => List.mem_cons_of_mem _ (h1 z m), by rw [List.length_cons]; omega⟩
    · rw [if_neg e] at m
      obtain ⟨y', r', e'⟩ := splitT_ne c x
      rw [e'] at m
      rcases List.mem_cons.mp m with rfl | m
      · obtain ⟨h1, h2⟩ := splitT_ok c y' (by rw [e']; exact List.mem_cons_self)
        refine ⟨fun z m => ?_, by rw [List.length_cons, List.length_cons]; omega⟩
        rcases List.mem_cons.mp m with rfl | m
        · exact List.mem_cons_self
        · exact List.mem_cons_of_mem _ (h1 z m)
      · obtain ⟨h1, h2⟩ := splitT_ok c y (by rw [e']; exact List.mem_cons_of_mem _ m)
        exact ⟨fun z m => List.mem_cons_of_mem _ (h1 z m), by rw [List.length_cons]; omega⟩
theorem reps_strs {F : Hp} : ∀ {ts : List Txt}, (∀ t ∈ ts, okT t) → Reps C F ((ts.map mkS).map V.str) (ts.map D.str)
  | [], _ => .nil
  | t :: ts, h => .cons (.str t (h t List.mem_cons_self)) (reps_strs fun u m => h u (List.mem_cons_of_mem _ m))
theorem split_eq {s : Txt} {c : Nat} (hc : c < 256) : Txt.split (mkS s) (mkS [c]) = (splitT c s).map mkS := by
  obtain ⟨y, r, e⟩ := splitT_ne c s
  have h := SX.split_S (a := s) (b := [c]) (by simp) (by simp [hc])
  have e2 := spl_one c s [] e
  rw [List.nil_append] at e2
  rw [e, ← e2]
  exact h
theorem e_split {o e : Expr} {ap cp : Pos} {mo me : M B} (ho : SimE cl X o mo) (ha : SimE cl X e me) (hs : plainE e = true := by rfl) (hbase : attributeBase o "split" X.env (eval o X.env) = eval o X.env := by rfl) (hline : (ap.endLine == cp.line) = true := by rfl) : SimE cl X (.Call (.Attribute o "split" ap) [e] [] cp) (mSplit mo me) := fun W tk =>
  PE.imp (pe_m1 F.slot_str_split F.type_str_split mt_split (ho W tk) (ha W tk) (star_cons hs) hbase hline) fun σ H Q ⟨F, ρ, S, h⟩ => by
    refine tM_bind (R1 := RlB) S h fun x b A F1 H1 ρ1 T1 S1 r1 f1 n1 h1 => ?_
    cases b with
    | sh d =>
      cases d with
      | str s =>
        cases r1 with
        | sh r1 =>
          cases r1 with
          | str _ o1 =>
            refine ⟨⟨_, rfl⟩, one_bind S1 h1 fun y e F2 H2 ρ2 S2 w q => ?_⟩
            obtain ⟨b, eb, q⟩ := tR_end q
            unfold iSplit at eb
            split at eb
            · rename_i s' c es
              cases es
              split at eb
              · rename_i hh
                cases eb
                obtain ⟨h1, h2⟩ := dec_and hh
                obtain ⟨rfl, o2⟩ := w.str
                refine ⟨mkS s, mkS [c], rfl, rfl, by rw [mkS_len]; rfl, by rw [mkS_len, ← lim_eq]; exact h1, fun p hp => ?_⟩
                rw [split_eq h2]
                exact q.lst S2 (reps_strs fun t m => by
                  obtain ⟨k1, k2⟩ := splitT_ok c t m
                  exact ⟨fun z mz => o1.1 z (k1 z mz), Nat.le_trans k2 o1.2⟩) hp
              · cases eb
            · cases eb
      | _ => exact tR_stuck h1
    | _ => exact tR_stuck h1
/-! ### sorted -/
mutual
theorem toks_py : ∀ d : D, PySem.W.keyToks (toPy d) = D.toks d
  | .non => rfl
  | .bl _ => rfl
  | .int _ => rfl
  | .str s => by show [Sum.inr (mkS s).cps.toList] = [Sum.inr s]; rw [mkS_get]
  | .tup xs => by show PySem.W.keyToksAll (toPys xs) = D.toksL xs; exact toksL_py xs
  | .lst xs => by show PySem.W.keyToksAll (toPys xs) = D.toksL xs; exact toksL_py xs
  | .dic _ _ => rfl
theorem toksL_py : ∀ ds : List D, PySem.W.keyToksAll (toPys ds) = D.toksL ds
  | [] => rfl
  | d :: ds => by show Sum.inl 1 :: (PySem.W.keyToks (toPy d) ++ PySem.W.keyToksAll (toPys ds)) = Sum.inl 1 :: (D.toks d ++ D.toksL ds); rw [toks_py d, toksL_py ds]
end
mutual
theorem like_py : ∀ d e : D, D.like d e = true → PySem.W.alike (toPy d) (toPy e) = true
  | .non, e, h => by cases e <;> first | rfl | cases h
  | .bl _, e, h => by cases e <;> first | rfl | cases h
  | .int _, e, h => by cases e <;> first | rfl | cases h
  | .str _, e, h => by cases e <;> first | rfl | cases h
  | .tup xs, e, h => by
    cases e with
    | tup ys => show PySem.W.alikeAll (toPys xs) (toPys ys) = true; exact likeL_py xs ys h
    | _ => cases h
  | .lst xs, e, h => by
    cases e with
    | lst ys => show PySem.W.alikeAll (toPys xs) (toPys ys) = true; exact likeL_py xs ys h
    | _ => cases h
  | .dic _ _, e, h => by cases e <;> cases h
theorem likeL_py : ∀ ds es : List D, D.likeL ds es = true → PySem.W.alikeAll (toPys ds) (toPys es) = true
  | [], [], _ => rfl
  | [], _ :: _, _ => rfl
  | _ :: _, [], _ => rfl
  | d :: ds, e :: es, h => by
    have h : (D.like d e && D.likeL ds es) = true := h
    rw [Bool.and_eq_true] at h
    show (PySem.W.alike (toPy d) (toPy e) && PySem.W.alikeAll (toPys ds) (toPys es)) = true
    rw [like_py d e h.1, likeL_py ds es h.2]
    rfl
end
theorem lex_py : ∀ a b : List (Int ⊕ Txt), PyProof.Rows.lexLt PyProof.Rows.itemOrd a b = lexD a b
  | [], [] => rfl
  | [], _ :: _ => rfl
  | _ :: _, [] => rfl
  | x :: r, y :: t => by
    have ih := lex_py r t
    have e : ∀ p q : Int ⊕ Txt, PyProof.Rows.itemLt p q = tokLt p q := fun p q => by cases p <;> cases q <;> rfl
    show (PyProof.Rows.itemLt x y || (!PyProof.Rows.itemLt y x && PyProof.Rows.lexLt PyProof.Rows.itemOrd r t)) = (tokLt x y || (!tokLt y x && lexD r t))
    rw [e, e, ih]
theorem le_py : (PySem.W.dataLe false toPy : D → D → Bool) = leD := by
  funext x y
  rw [PySem.W.dataLe_eq]
  show (!PySem.W.dataLt (toPy y) (toPy x)) = !lexD y.toks x.toks
  unfold PySem.W.dataLt
  rw [lex_py, toks_py, toks_py]
theorem each_of {Hh : Hp} {s : Shared} {pins : List (Addr × Obj)} (I : Inv X pins σ H s) (S : Sub F H) : ∀ {xs : List V} {ds : List D} {us : List Value}, Vals xs us → Reps (cs cl X) F xs ds → D.deps ds ≤ 60 →
    PySem.W.EachIs (fun u d => ∃ x, RelV x u ∧ Rep (cs cl X) F x d) us ds ∧ PySem.W.EachIs (fun u d => ∃ as, Reads s.heap u (toPy d) as) us ds
  | _, _, _, .nil, .nil, _ => ⟨.nil, .nil⟩
  | _, d :: ds, _, .cons rv t, .cons r q, h => by
    have h' : max (D.dep d) (D.deps ds) ≤ 60 := h
    obtain ⟨h1, h2⟩ := each_of (Hh := Hh) I S t q (by omega)
    obtain ⟨as, ra⟩ := Dp.reads I (toPy d) _ _ (dp_py (r.mono S) (by omega)) rv
    exact ⟨.cons ⟨_, rv, r⟩ h1, .cons ⟨as, ra⟩ h2⟩
theorem each_back : ∀ {us : List Value} {ds : List D}, PySem.W.EachIs (fun u d => ∃ x, RelV x u ∧ Rep C F x d) us ds → ∃ xs, Vals xs us ∧ Reps C F xs ds
  | _, _, .nil => ⟨[], .nil, .nil⟩
  | _, _, .cons ⟨x, rv, r⟩ t => by
    obtain ⟨xs, h1, h2⟩ := each_back t
    exact ⟨x :: xs, .cons rv h1, .cons r h2⟩
theorem depth_of {ds : List D} (h : D.deps ds ≤ 60) : ∀ d ∈ ds, (toPy d).depth ≤ 60 := by
  induction ds with
  | nil => intro d m; cases m
  | cons x ds ih =>
    have h' : max (D.dep x) (D.deps ds) ≤ 60 := h
    intro d m
    rcases List.mem_cons.mp m with rfl | m
    · rw [dep_py d (by omega)]; omega
    · exact ih (by omega) d m
theorem sortable_of {ds : List D} (h : (ds.all isTupC || ds.all isOther) = true) (nd : D.deps ds ≤ 60) : PySem.W.Sortable (ds.map toPy) := by
  rw [Bool.or_eq_true] at h
  rcases h with h | h
  · refine .inl fun p m => ?_
    obtain ⟨d, md, rfl⟩ := List.mem_map.mp m
    have := List.all_eq_true.mp h d md
    cases d with
    | tup xs =>
      cases xs with
      | nil => cases this
      | cons x r => exact ⟨toPy x, toPys r, rfl⟩
    | _ => cases this
  · refine .inr fun p m => ?_
    obtain ⟨d, md, rfl⟩ := List.mem_map.mp m
    have := List.all_eq_true.mp h d md
    cases d <;> first | (cases this; done) | exact ⟨by simp [toPy], by simp [toPy]⟩
def rSortD (cl : Nat → Addr) (X : Cx) : List V → Hp → VK → Prop := fun vs H Q => ∃ (a : Addr) (F : Hp) (xs : List V) (ds : List D), vs = [.ref a] ∧ SqL X.K H a xs ∧ Sub F H ∧ Reps (cs cl X) F xs ds ∧ canSort ds = true ∧
  ∀ ys p, Reps (cs cl X) F ys (ds.mergeSort leD) → H p = none → Q (.ref p) (upd H p (.lst ys))
theorem cr_sortD (hu : Hu X) : CallR X (.builtin "sorted") (rSortD cl X) := by
  intro pins s σ H vs us Q I r h
  obtain ⟨a, F, xs, ds, rfl, g, sb, rs, hc, q⟩ := h
  obtain ⟨u, rfl, ru⟩ := vals1 r
  obtain rfl : u = Value.ref a := ru
  obtain ⟨its, rv, pl, hz⟩ := I.list g
  unfold canSort at hc
  rw [Bool.and_eq_true, Bool.and_eq_true] at hc
  obtain ⟨⟨h1, h2⟩, h3⟩ := hc
  have h3 := of_decide_eq_true h3
  obtain ⟨e1, e2⟩ := each_of (Hh := H) I sb rv rs h3
  have hl : ds.length = its.length := by rw [← rs.length, rv.length]
  have hz : its.length ≤ sizeLine := by rw [← rv.length]; exact hz
  refine PySem.W.sorted_data (enc := toPy) pl.isList e1 e2 (fun p mp p' mp' => ?_) (sortable_of h2 h3) (by rw [hl]; exact hz) (fun d md => ?_) fun out hlen ho => ?_
  · obtain ⟨d, md, rfl⟩ := List.mem_map.mp mp
    obtain ⟨d', md', rfl⟩ := List.mem_map.mp mp'
    exact like_py d d' (List.all_eq_true.mp (List.all_eq_true.mp h1 d md) d' md')
  · have := depth_of h3 d md
    have hu' : X.A.units + 65 < cLine := hu
    omega
  · rw [le_py] at ho
    obtain ⟨ys, v1, r1⟩ := each_back ho
    obtain ⟨n, hn⟩ := sortedAll_at s.heap its out.toArray
    have hy : ys.length ≤ sizeLine := by rw [v1.length, hlen, hl]; exact hz
    exact ⟨.ref (s.heap.objs.size + 1), upd H (s.heap.objs.size + 1) (.lst ys), I.laid (t' := s.toks) (fun b o z => sortedAll_old z) (Nat.le_succ _) ⟨hy, out, n, v1, hn⟩, rfl, q ys _ r1 (I.hok.fresh (Nat.le_succ _))⟩
/-! sorted of a dict of texts -/
theorem mkS_back (x : Str) : mkS x.cps.toList = x := by cases x; simp [mkS]
theorem cps_mkS (t : Txt) : (mkS t).cps.toList = t := by simp [mkS]
theorem sortedS_pw : ∀ {ys : List Str}, sortedS ys = true → ys.Pairwise fun a b => a.cps.toList ≤ b.cps.toList := by
  have go : ∀ (ys : List Str) (x : Str), risingS x ys = true → (x :: ys).Pairwise fun a b => a.cps.toList ≤ b.cps.toList := by
    intro ys
    induction ys with
    | nil => intro x _; exact List.pairwise_singleton _ _
    | cons y r ih =>
      intro x h
      have h : (!ltCps y.cps.toList x.cps.toList && risingS y r) = true := h
      rw [Bool.and_eq_true, Bool.not_eq_true', ltCps_eq, decide_eq_false_iff_not] at h
      have t := ih y h.2
      refine List.pairwise_cons.mpr ⟨fun z m => ?_, t⟩
      have hxy : x.cps.toList ≤ y.cps.toList := h.1
      rcases List.mem_cons.mp m with rfl | m
      · exact hxy
      · exact List.le_trans hxy (List.rel_of_pairwise_cons t m)
  intro ys h
  cases ys with
  | nil => exact List.Pairwise.nil
  | cons x r => exact go r x h
theorem strL_keys {F : Hp} : ∀ {xs : List (Key × V)} {kvs : List (D × D)}, RepS C F xs kvs → ∃ ts : List Txt, strL (kvs.map (·.1)) = some ts ∧ xs.map (·.1) = (ts.map mkS).map Sum.inr ∧ ∀ t ∈ ts, okT t
  | _, _, .nil => ⟨[], rfl, rfl, fun _ m => nomatch m⟩
  | _, _, .cons (s := s) o r z => by
    obtain ⟨ts, e1, e2, e3⟩ := strL_keys z
    refine ⟨s :: ts, ?_, ?_, fun t m => ?_⟩
    · show (strL (List.map (fun p : D × D => p.1) _)).map _ = _
      rw [e1]; rfl
    · rw [List.map_cons, e2]; rfl
    · rcases List.mem_cons.mp m with rfl | m
      · exact o
      · exact e3 t m
theorem sort_uniq {ts : List Txt} {ys : List Str} (p : ys.Perm (ts.map mkS)) (h : sortedS ys = true) : ys = (ts.mergeSort leS).map mkS := by
  have q1 : (ys.map fun y => y.cps.toList).Perm ts := by
    have := p.map fun y => y.cps.toList
    rw [List.map_map] at this
    have e : ((fun y : Str => y.cps.toList) ∘ mkS) = id := funext fun t => cps_mkS t
    rw [e, List.map_id] at this
    exact this
  have q2 : (ys.map fun y => y.cps.toList).Pairwise (· ≤ ·) := List.pairwise_map.mpr (sortedS_pw h)
  have q3 : (ts.mergeSort leS).Pairwise (· ≤ ·) := by
    have := List.pairwise_mergeSort (le := leS) (fun a b c h1 h2 => decide_eq_true (List.le_trans (of_decide_eq_true h1) (of_decide_eq_true h2))) (fun a b => by
      unfold leS
      rcases List.le_total a b with h | h
      · rw [decide_eq_true h]; rfl
      · rw [decide_eq_true h, Bool.or_true]) ts
    exact this.imp fun h => of_decide_eq_true h
  have e := List.Perm.eq_of_pairwise (le := fun a b : Txt => a ≤ b) (fun a b _ _ h h' => List.le_antisymm h h') q2 q3 (q1.trans (List.mergeSort_perm ts leS).symm)
  rw [← e, List.map_map]
  have e2 : (mkS ∘ fun y : Str => y.cps.toList) = id := funext fun t => mkS_back t
  rw [e2, List.map_id]
theorem reps_str {F : Hp} : ∀ {ts : List Txt}, (∀ t ∈ ts, okT t) → Reps C F ((ts.map mkS).map V.str) (ts.map D.str)
  | [], _ => .nil
  | t :: ts, h => .cons (.str t (h t List.mem_cons_self)) (reps_str fun u m => h u (List.mem_cons_of_mem _ m))
abbrev rSortX (cl : Nat → Addr) (X : Cx) : List V → Hp → VK → Prop := fun vs H Q => rSortD cl X vs H Q ∨ ∃ (a : Addr) (kvs : List (Key × V)) (ks : List Str), vs = [.ref a] ∧ Rd H a (.dK kvs) ∧ kvs.map (·.1) = ks.map Sum.inr ∧ ks.length < 64 ∧
    ∀ ys p, ys.Perm ks → sortedS ys = true → H p = none → Q (.ref p) (upd H p (.lst (ys.map V.str)))
theorem e_sorted {e : Expr} {p pos : Pos} {m : M B} (hc : X.calm = true) (b : Bn X "sorted") (hu : Hu X) (ha : SimE cl X e m) (hs : plainE e = true := by rfl) : SimE cl X (.Call (.Name "sorted" p) [e] [] pos) (mSorted m) := by
  have cr : CallR X (.builtin "sorted") (rSortX cl X) := fun pins s σ H xs us Q I r h => h.elim (cr_sortD hu pins s σ H xs us Q I r) (call_sortedD hc pins s σ H xs us Q I r)
  refine sim_b1 cr ?_ b.gl b.mg (by decide +kernel) ha (by decide) (by decide) (star_cons hs)
  intro σ F H ρ A0 x d b Q S v e q
  unfold iSorted at e
  split at e
  · split at e
    · rename_i xs hc
      cases e
      obtain ⟨a, vs, rfl, g, r⟩ := v.lst S.sub
      exact .inl ⟨a, F, vs, xs, rfl, g, S.sub, r, hc, fun ys p ry hp => q.lst S ry hp⟩
    · cases e
  · rename_i kvs
    obtain ⟨a, xs, rfl, g, r⟩ := v.dicS S.sub
    obtain ⟨ts, e1, e2, e3⟩ := strL_keys r
    rw [e1] at e
    dsimp only at e
    split at e
    · rename_i hl
      cases e
      refine .inr ⟨a, xs, ts.map mkS, rfl, .inl g, e2, by rw [List.length_map]; exact hl, fun ys p hp hs hn => ?_⟩
      rw [sort_uniq hp hs]
      exact q.lst S (reps_str fun t m => e3 t ((List.mergeSort_perm ts leS).mem_iff.mp m)) hn
    · cases e
  · cases e
end
end WF

set_option Elab.async false
set_option linter.all false
set_option maxRecDepth 100000
set_option maxHeartbeats 4000000
/-! WFS: more rules in short forms. -/
namespace WF
open PySem PySem.Spec PyProof.Rows L2
section
variable {cl : Nat → Addr} {X : Cx} {C : Cs} {σ : St} {F H : Hp} {ρ ρ1 : Env} {A A0 : List Addr} {W : WX}
theorem hu_room {k : Nat} {A : Around} (hr : Room k A) : A.units + 65 < cLine := by have := hr.un; omega
theorem e_isLst {e : Expr} {p p2 pos : Pos} {m : M B} (b : Bn X "isinstance") (bt : Bn X "list") (ha : SimE cl X e m) (hs : plainE e = true := by rfl) : SimE cl X (.Call (.Name "isinstance" p) [e, .Name "list" p2] [] pos) (mIsA .list m) := sim_isA .list rfl b bt (by decide +kernel) (by decide +kernel) (by decide +kernel) ha (star_cons hs) (star_cons rfl) (star_any rfl)
theorem fn_none {P : Program} {w : World} {K : PySem.W.Frag} {mg : Str → Option Value} {base : Heap} {CX : CXT} {k : Nat} {f : Addr} {fd : FuncData} {ps : List Str} : FnOk P w K mg base CX k f fd ps (FSp C fun _ => none) :=
  ⟨fun vs H Q E h => (by obtain ⟨_, _, _, _, e, _⟩ := h; cases e), fun A outer s H args us vs Q E hr e0 hb r h => (by obtain ⟨_, _, _, _, e, _⟩ := h; cases e)⟩
theorem e_call0 {f : Fn} {fa : Addr} {fd : FuncData} {k : Nat} {ps : List Str} {x : Str} {p pos : Pos} (Fk : FnOk X.prog X.w X.K X.mg X.base (L2.CX X.prog X.w) k fa fd ps (FSp (cs cl X) f)) (hr : Room k X.A) (hm : X.mg x = some (.ref fa))
    (hk : PySem.W.keepIn X.K (.ref fa) = true) (hb : Binds X.K fd ps []) (n : Nm x) (hg : Gl X x) : SimE cl X (.Call (.Name x p) [] [] pos) (mCall f mNil) := fun W tk =>
  PE.imp (t := fun σ H Q => FSp (cs cl X) f [] H Q (WE W σ)) ⟨fun pins s σ H Q I h => wpAny_Call_Name_kw (ld_glob I hg hm (PySem.W.callWith_K0 I.kIn hk (run_fnS (us := []) Fk hr hb (passAt tk σ) I .nil h)) n.d)⟩ fun σ H Q h => by
    obtain ⟨F, ρ, S, h⟩ := call_sp h
    exact tR_ret h [] [] F H Tr.refl S .nil Fp.nil New.nil
/-- a comprehension's target -/
theorem tg_one {i : Nat} {tg : Expr} {bx : Shared → Hp → Addr → List (Str × Addr) → List Addr → Cx} (h : ∀ s H c cells fp, PG (bx s H c cells fp) tg (gName i)) : ∃ g : TG, (∀ s H c cells fp, PG (bx s H c cells fp) tg g) ∧ ∀ {σ : St} {F H : Hp} {ρ ρ1 : Env} {v : V} {d : D} {Q : St → Hp → Prop}, Stt C F H σ ρ → Rep C F v d → putTg ρ (.one i) d = some ρ1 →
      (∀ σ2, Stt C F H σ2 ρ1 → Tr [] σ F H ρ σ2 F H ρ1 → (∀ ks : List Nat, (∀ j ∈ (Tg.one i).slots, j ∈ ks) → wipe σ2 ks = wipe σ ks) → Q σ2 H) → g v σ H Q :=
  ⟨gName i, h, fun {σ F H ρ ρ1 v d Q} S r e k => by
    obtain ⟨S1, T1⟩ := put_sh S r (show putS ρ i (.sh d) = some ρ1 from e)
    exact k _ S1 T1 fun ks h => wipe_set (h i (by simp [Tg.slots]))⟩
theorem tg_tup {is : List Nat} {tg : Expr} {bx : Shared → Hp → Addr → List (Str × Addr) → List Addr → Cx} (n : Nat) (hl : is.length = n) (h : ∀ s H c cells fp, PG (bx s H c cells fp) tg (gTup C.K n (gSlots is))) : ∃ g : TG, (∀ s H c cells fp, PG (bx s H c cells fp) tg g) ∧ ∀ {σ : St} {F H : Hp} {ρ ρ1 : Env} {v : V} {d : D} {Q : St → Hp → Prop}, Stt C F H σ ρ → Rep C F v d → putTg ρ (.tup is) d = some ρ1 →
      (∀ σ2, Stt C F H σ2 ρ1 → Tr [] σ F H ρ σ2 F H ρ1 → (∀ ks : List Nat, (∀ j ∈ (Tg.tup is).slots, j ∈ ks) → wipe σ2 ks = wipe σ ks) → Q σ2 H) → g v σ H Q :=
  ⟨_, h, fun {σ F H ρ ρ1 v d Q} S r e k => by
    cases d with
    | tup ds =>
      have e : (if is.length = ds.length then putSs ρ is ds else none) = some ρ1 := e
      split at e
      · rename_i hl'
        cases r with
        | tup g rs => exact ⟨_, _, rfl, S.sub.sqT g, by rw [rs.length, ← hl', hl], slots_go S rs e fun σ2 S2 T2 w => k σ2 S2 T2 fun ks hh => w ks hh⟩
      · cases e
    | _ => cases e⟩
theorem sim_break {pos : Pos} : SimS cl X (.Break pos) sBreak := fun W _ => PS.imp ps_break fun D σ H ⟨F, ρ, S, r, ρ', e, h⟩ => by
  cases e
  exact h σ F H Tr.refl S
theorem sim_cont {pos : Pos} : SimS cl X (.Continue pos) sCont := fun W _ => PS.imp ps_continue fun D σ H ⟨F, ρ, S, r, ρ', e, h⟩ => by
  cases e
  exact h σ F H Tr.refl S
end
section
variable {cl : Nat → Addr} {C : Cs} {K : PySem.W.Frag} {mg : Str → Option Value}
theorem exm_ok {c S : Addr} {b : Bool} (h1 : PySem.W.subIn K (.ref S) (.type "BaseException") = some true) (h2 : PySem.W.isClsIn K S = true) (h3 : PySem.W.typeIn K (.ref S) = some (.type "type")) (h4 : PySem.W.subIn K (.ref c) (.ref S) = some b) : PySem.W.exmOne K (.ref c) (.ref S) = some b := by
  have e1 : (PySem.W.subIn K (.ref S) (.type "BaseException") == some true) = true := by rw [h1]; rfl
  have h2' : (PySem.W.clsIn K S).isSome = true := h2
  have e2 : ((PySem.W.clsIn K S).isSome && PySem.W.typeIn K (.ref S) == some (.type "type")) = true := by rw [h2', h3]; rfl
  unfold PySem.W.exmOne PySem.W.kitCls
  rw [if_pos e1]
  exact (if_pos e2).trans h4
theorem rep_tup {a : Addr} {xs : List V} {ds : List D} {its : Array Value} {n : Nat} {od : Option Addr} {sl : Array (Option Value)} (hC : C.K = K) (l : K.lookup a = some ⟨.type "tuple", od, .seq its n, sl⟩) (hz : its.size ≤ 1000) (r : Vals xs its.toList) (rs : Reps C (fun _ => none) xs ds) : Rep C (fun _ => none) (.ref a) (.tup ds) :=
  .tup (.inr ⟨_, its, n, by rw [hC]; exact l, rfl, rfl, by rw [sizeLine_eq]; omega, r⟩) rs
theorem rep_str {s : Txt} (h : okTb s = true) {F : Hp} : Rep C F (.str (mkS s)) (.str s) := .str s (okT_of h)
theorem g_const {X : Cx} {x : Str} {v : V} {u : Value} {d : D} {pos : Pos} (hm : mg x = some u) (r : RelV v u) (rp : ∀ C : Cs, C.K = K → Rep C (fun _ => none) v d) (n : Nm x) (hK : X.K = K) (hM : X.mg = mg) (hg : Gl X x) : SimE cl X (.Name x pos) (mK d) :=
  sim_G hg (by rw [hM]; exact hm) r (rp _ hK) n.d
theorem rv_str (s : Txt) {x : Str} {tk : Tok} (h : mkS s = x) : RelV (.str (mkS s)) (.str x tk) := ⟨tk, by rw [h]⟩
theorem rv_int (i : Int) {tk : Tok} : RelV (.int i) (.int i tk) := ⟨tk, rfl⟩
theorem rv_bl (b : Bool) : RelV (.bl b) (.bool b) := rfl
theorem rv_non : RelV .non .none := rfl
theorem rv_ref (a : Addr) : RelV (.ref a) (.ref a) := rfl
/-- the law's promise -/
def spLaw (K : PySem.W.Frag) : Sp := fun vs H Q _ => ∃ (a : Addr) (ns : List Int), vs = [.ref a] ∧ SqL K H a (ns.map V.int) ∧ ns.length ≤ 63 ∧ ∀ H', Q (.bl true) H'
theorem reps_ints {C : Cs} {F : Hp} : ∀ ns : List Int, Reps C F (ns.map V.int) (ns.map D.int)
  | [] => .nil
  | _ :: ns => .cons (.int _) (reps_ints ns)
/-- the mirror of the law is true of every script -/
def Keeps (f : Fn) : Prop := ∀ ns : List Int, ns.length ≤ 63 → ∃ os, f [.sh (.lst (ns.map D.int))] = some (.ok (.sh (.bl true)), os)
theorem law_imp {P : Program} {w : World} {base : Heap} {k : Nat} {fa : Addr} {fd : FuncData} {ps : List Str} {f : Fn} (hf : Keeps f) (h : FnOk P w K mg base (L2.CX P w) k fa fd ps (FSp ⟨P, w, K, cl⟩ f)) : FnOk P w K mg base (L2.CX P w) k fa fd ps (spLaw K) :=
  h.imp fun vs H Q E ⟨a, ns, ev, hs, hl, hq⟩ => by
    subst ev
    obtain ⟨os, e⟩ := hf ns hl
    refine ⟨H, [.sh (.lst (ns.map D.int))], _, os, e, ⟨Sub.refl _, rfl, fun i b h => ?_, fun i j b c x h1 h2 => ?_⟩, fun v A F' H' T S np rb fp nw => ?_⟩
    · cases i with
      | zero => cases h; exact ⟨_, rfl, .sh (.lst hs (reps_ints ns))⟩
      | succ i => cases i <;> cases h
    · cases i with
      | zero => cases h1; cases h2
      | succ i => cases i <;> cases h1
    · cases rb with
      | sh r => cases r; exact hq H'
end
end WF

set_option Elab.async false
set_option linter.all false
set_option maxRecDepth 100000
set_option maxHeartbeats 4000000
/-! WFT: rules for the combinators of WFA2. -/
namespace WF
open PySem PySem.Spec PyProof.Rows L2
section
variable {cl : Nat → Addr} {X : Cx}
theorem sim_fz {l : Expr} {m : M B} (ha : SimE cl X l m) : SimE cl X l (mFz m) := fun W tk => PE.imp (ha W tk) fun σ H Q ⟨F, ρ, S, h⟩ =>
  tM_bind (R1 := RlB) S h fun x b A F1 H1 ρ1 T1 S1 r1 f1 n1 h1 => by
    obtain ⟨d, F2, S2, rd, sb, h2⟩ := kept1 S1 r1 f1 h1
    exact (tR_ret h2).data S2 rd
end
end WF

set_option Elab.async false
set_option linter.all false
set_option maxRecDepth 100000
set_option maxHeartbeats 4000000
/-! WFZ: list(zip(a, b)) of two tuples of two items each. -/
namespace WF
open PySem PySem.Spec PyProof.Rows L2 RZ
theorem zip_no_len : typeLookup (.type "zip") "__len__" = pure none := am_miss_of_fast (by decide +kernel)
theorem zip_no_hint : typeLookup (.type "zip") "__length_hint__" = pure none := am_miss_of_fast (by decide +kernel)
section
variable {prog : Program} {w : World} {A : Around} {E : Value → Shared → Prop} {s : Shared}
/-- zip's next, the last tuple still out: a new one -/
theorem zh_item {z p o T i j l m : Addr} {f : Bool} {u : Obj} {n k : Nat} {xs ys : Array Value} {x y : Value} {Q : Option Value → Shared → Prop} (D : ZipApart z p o i j l m)
    (a1 : IsZipHeld s.heap z p o T f) (a2 : s.heap.get? T = some u) (a3 : IsPair s.heap p (.ref i) (.ref j)) (b1 : s.heap.IsTupleIter i l n) (b2 : s.heap.IsTupleIter j m k)
    (c1 : s.heap.IsTuple l xs) (c2 : s.heap.IsTuple m ys) (d1 : xs[n]? = some x) (d2 : ys[k]? = some y)
    (q : ∀ g, IsZipHeld g z p o T true → g.IsTupleIter i l (n + 1) → g.IsTupleIter j m (k + 1) → IsPair g s.heap.objs.size x y → g.objs.size = s.heap.objs.size + 1 →
      (∀ c v, c ≠ z → c ≠ i → c ≠ j → s.heap.get? c = some v → g.get? c = some v) → Q (some (.ref s.heap.objs.size)) { s with heap := g }) :
    wpAny (model prog w) A (pyNext (.ref z)) Q E s := by
  have ty : s.TypeIs (.ref z) "zip" := ⟨_, a1, rfl⟩
  unfold pyNext
  refine wpAny_bind (wpAny_attempt (wpAny_callSpecial?_slot (name := Str.ofString "__next__") ty F.slot_zip_next (wpAny_call_entry F.slot_zip_next ty F.entry_zip_next ?_ (F.args_zip_next_1 _))))
  show wpAny _ _ (field (.ref z) 2 >>= _) _ _ _
  refine wpAny_bind (wpAny_field a1 rfl (x := .bool false) rfl ?_)
  show wpAny _ _ (field (.ref z) 3 >>= _) _ _ _
  refine wpAny_bind (wpAny_field a1 rfl (x := .ref p) rfl (wpAny_bind (wpAny_seqItems a3 rfl ?_)))
  show wpAny _ _ (Builtin.SmallTypes.ownedTupleIsFree (.ref z) >>= _) _ _ _
  refine wpAny_bind (wpAny_tupleHeld_zip a1 a2 fun g1 e1 s1 => ?_)
  simp only [Bool.false_eq_true, if_false]
  refine wpAny_bind ?_
  rw [← Array.forIn_toList]
  simp only [List.forIn_cons, List.forIn_nil]
  refine wpAny_bind (wpAny_bind (wpAny_holding ?_))
  show wpAny _ _ (Builtin.SmallTypes.nextOf (.ref i) >>= _) _ _ _
  refine wpAny_bind (nextOf_tuple_item (s := { s with heap := g1 }) (b1.extBut s1.extBut D.i1z) (c1.extBut s1.extBut D.l1z) d1 fun g2 e2 s2 => wpAny_pure (wpAny_pure ?_))
  refine wpAny_bind (wpAny_bind (wpAny_holding ?_))
  show wpAny _ _ (Builtin.SmallTypes.nextOf (.ref j) >>= _) _ _ _
  refine wpAny_bind (nextOf_tuple_item (s := { s with heap := g2 }) ((b2.extBut s1.extBut D.i2z).extBut s2.extBut D.i12.symm) ((c2.extBut s1.extBut D.l2z).extBut s2.extBut D.l2i1) d2 fun g3 e3 s3 => wpAny_pure (wpAny_pure (wpAny_pure ?_)))
  show wpAny _ _ (newTuple [x, y] >>= _) _ _ _
  refine wpAny_bind (wpAny_newTuple (wpAny_pure ⟨_, rfl, wpAny_pure ?_⟩))
  have sz : g3.objs.size = s.heap.objs.size := by rw [s3.1, s2.1, s1.1]
  have e4 : IsZipHeld g3 z p o T true := s3.extBut _ _ D.i2z.symm (s2.extBut _ _ D.i1z.symm e1)
  have kp : ∀ c v, c ≠ z → c ≠ i → c ≠ j → s.heap.get? c = some v → g3.get? c = some v := fun c v h1 h2 h3 h => s3.extBut _ _ h3 (s2.extBut _ _ h2 (s1.extBut _ _ h1 h))
  have e5 : g3.IsTupleIter i l (n + 1) := e2.extBut s3.extBut D.i12
  have pr : IsPair (g3.push { cls := .type "tuple", data := .seq #[x, y] }) g3.objs.size x y := Heap.get?_push_size _ rfl
  have sp : (g3.push { cls := .type "tuple", data := .seq #[x, y] }).objs.size = g3.objs.size + 1 := Heap.size_push ..
  show Q (some (.ref g3.objs.size)) _
  rw [sz] at pr sp ⊢
  exact q _ (Heap.get?_push_of_some _ e4) (e5.at fun v h => Heap.get?_push_of_some _ h) (e3.at fun v h => Heap.get?_push_of_some _ h) pr sp fun c v h1 h2 h3 h => Heap.get?_push_of_some _ (kp c v h1 h2 h3 h)
/-- the same at the end -/
theorem zh_end {z p o T i j l m : Addr} {f : Bool} {u : Obj} {n : Nat} {xs : Array Value} {Q : Option Value → Shared → Prop} (hh : A.handled = none) (D : ZipApart z p o i j l m)
    (a1 : IsZipHeld s.heap z p o T f) (a2 : s.heap.get? T = some u) (a3 : IsPair s.heap p (.ref i) (.ref j)) (b1 : s.heap.IsTupleIter i l n)
    (c1 : s.heap.IsTuple l xs) (d1 : xs[n]? = none)
    (q : ∀ g, (∀ c v, c ≠ z → c ≠ i → s.heap.get? c = some v → g.get? c = some v) → Q none { s with heap := g }) :
    wpAny (model prog w) A (pyNext (.ref z)) Q E s := by
  have ty : s.TypeIs (.ref z) "zip" := ⟨_, a1, rfl⟩
  unfold pyNext
  refine wpAny_bind (wpAny_attempt (wpAny_callSpecial?_slot (name := Str.ofString "__next__") ty F.slot_zip_next (wpAny_call_entry F.slot_zip_next ty F.entry_zip_next ?_ (F.args_zip_next_1 _))))
  show wpAny _ _ (field (.ref z) 2 >>= _) _ _ _
  refine wpAny_bind (wpAny_field a1 rfl (x := .bool false) rfl ?_)
  show wpAny _ _ (field (.ref z) 3 >>= _) _ _ _
  refine wpAny_bind (wpAny_field a1 rfl (x := .ref p) rfl (wpAny_bind (wpAny_seqItems a3 rfl ?_)))
  show wpAny _ _ (Builtin.SmallTypes.ownedTupleIsFree (.ref z) >>= _) _ _ _
  refine wpAny_bind (wpAny_tupleHeld_zip a1 a2 fun g1 e1 s1 => ?_)
  simp only [Bool.false_eq_true, if_false]
  refine wpAny_bind ?_
  rw [← Array.forIn_toList]
  simp only [List.forIn_cons, List.forIn_nil]
  refine wpAny_bind (wpAny_bind (wpAny_holding ?_))
  show wpAny _ _ (Builtin.SmallTypes.nextOf (.ref i) >>= _) _ _ _
  refine wpAny_bind (nextOf_tuple_end (s := { s with heap := g1 }) hh (b1.extBut s1.extBut D.i1z) (c1.extBut s1.extBut D.l1z) d1 fun g2 e s2 he => ?_)
  obtain ⟨v, hv, hc⟩ := he
  refine wpAny_bind (wpAny_isInstance (T := "StopIteration") (b := true) ⟨v, hv, hc⟩ isSubtype_stop ?_)
  exact wpAny_pure (q _ fun c v h1 h2 h => s2 _ _ h2 (s1.extBut _ _ h1 h))
/-- one turn of the loop that fills a list: v came, and is put behind -/
theorem xl_turn {S z : Addr} {r v : Value} {acc : Array Value} {c : Nat} {R : Result → Shared → Prop} {s1 : Shared}
    (e : s1.heap.get? S = some { cls := .type "list", dict := none, data := .seq acc c, slots := #[] }) (n : acc.size < 1000)
    (q : ∀ c', (s1.heap.update S (Obj.mapSeq (·.push v))).get? S = some { cls := .type "list", dict := none, data := .seq (acc.push v) c', slots := #[] } →
      codeAny (model prog w) A (.builtin "list.extend.loop" ⟨[.ref S, .ref z, r], []⟩) R { s1 with heap := s1.heap.update S (Obj.mapSeq (·.push v)) }) :
    wpAny (model prog w) A.in1 (updateSeq S (·.push v) >>= fun _ => again (.builtin "list.extend.loop" ⟨[.ref S, .ref z, r], []⟩))
      (fun fin s' => match fin with | .done f => R (.ok f) s' | .again c' => c'.quiet = true ∧ codeAny (model prog w) A c' R s') (fun e s' => R (.error e) s') s1 := by
  have sz : sizeLine = 16777216 := sizeLine_eq
  refine wpAny_bind (wpAny_updateSeq e rfl (wpAny_pure ⟨plainId_quiet F.plain_extend_loop _, q _ (Heap.get?_update_self _ e rfl)⟩) (by omega) ?_)
  show (acc.push v).size ≤ sizeLine + 1
  rw [Array.size_push]
  omega
theorem xl_zip {S z p o i j l m : Addr} {r x0 x1 y0 y1 : Value} {c : Nat} {R : Result → Shared → Prop} (hh : A.handled = none) (D : ZipApart z p o i j l m)
    (a1 : IsZip s.heap z p o .none) (a3 : IsPair s.heap p (.ref i) (.ref j)) (a4 : IsPair s.heap o .none .none) (b1 : s.heap.IsTupleIter i l 0) (b2 : s.heap.IsTupleIter j m 0)
    (c1 : s.heap.IsTuple l #[x0, x1]) (c2 : s.heap.IsTuple m #[y0, y1]) (hS : s.heap.get? S = some { cls := .type "list", dict := none, data := .seq #[] c, slots := #[] })
    (nz : S ≠ z) (np : S ≠ p) (no : S ≠ o) (ni : S ≠ i) (nj : S ≠ j) (nl : S ≠ l) (nm : S ≠ m) (lo : l ≠ o) (mo : m ≠ o)
    (q : ∀ g T0 T1 c', s.heap.objs.size ≤ T0 → T0 < T1 → g.get? S = some { cls := .type "list", dict := none, data := .seq #[.ref T0, .ref T1] c', slots := #[] } → IsPair g T0 x0 y0 → IsPair g T1 x1 y1 →
      (∀ b v, b ≠ S → b ≠ z → b ≠ o → b ≠ i → b ≠ j → s.heap.get? b = some v → g.get? b = some v) → R (.ok (.ret r)) { s with heap := g }) :
    codeAny (model prog w) A (.builtin "list.extend.loop" ⟨[.ref S, .ref z, r], []⟩) R s := by
  refine codeAny_builtin F.entry_extend_loop ?_
  rw [Around.under_plainId F.plain_extend_loop _]
  show wpAny _ A.in1 (pyNext (.ref z) >>= _) _ _ s
  refine wpAny_bind (pyNext_zipT_item D a1 a3 a4 b1 b2 c1 c2 (x := x0) (y := y0) rfl rfl fun g1 e1 e2 e3 e4 e5 e6 e7 => ?_)
  refine xl_turn (e7 _ _ nz no ni nj hS) (by decide) fun c' e8 => ?_
  have zl : z < s.heap.objs.size := Heap.lt_size a1
  have Sl : S < s.heap.objs.size := Heap.lt_size hS
  have u1 : ∀ b v, b ≠ S → g1.get? b = some v → (g1.update S (Obj.mapSeq (·.push (Value.ref s.heap.objs.size)))).get? b = some v := fun b v h e => (Heap.get?_update_other _ _ (Ne.symm h)).trans e
  have z1 : (g1.update S (Obj.mapSeq (·.push (Value.ref s.heap.objs.size)))).objs.size = s.heap.objs.size + 1 := (Heap.size_update ..).trans e6
  have p1 := u1 _ _ (Nat.ne_of_gt Sl) e5
  generalize g1.update S (Obj.mapSeq (·.push (Value.ref s.heap.objs.size))) = k1 at e8 u1 z1 p1 ⊢
  refine codeAny_builtin F.entry_extend_loop ?_
  rw [Around.under_plainId F.plain_extend_loop _]
  show wpAny _ A.in1 (pyNext (.ref z) >>= _) _ _ _
  refine wpAny_bind (zh_item (s := { s with heap := k1 }) (T := s.heap.objs.size) (f := false) D (u1 _ _ (Ne.symm nz) e1) p1 (u1 _ _ (Ne.symm np) (e7 _ _ D.TIz D.TITO D.TIi1 D.TIi2 a3)) (e3.at fun v h => u1 _ _ (Ne.symm ni) h) (e4.at fun v h => u1 _ _ (Ne.symm nj) h)
    (c1.at fun v h => u1 _ _ (Ne.symm nl) (e7 _ _ D.l1z lo D.l1i1 D.l1i2 h)) (c2.at fun v h => u1 _ _ (Ne.symm nm) (e7 _ _ D.l2z mo D.l2i1 D.l2i2 h)) (x := x1) (y := y1) rfl rfl fun g2 f1 f3 f4 f5 f6 f7 => ?_)
  refine xl_turn (f7 _ _ nz ni nj e8) (by simp) fun c2' f8 => ?_
  have zk : k1.objs.size = s.heap.objs.size + 1 := z1
  have u2 : ∀ b v, b ≠ S → g2.get? b = some v → (g2.update S (Obj.mapSeq (·.push (Value.ref k1.objs.size)))).get? b = some v := fun b v h e => (Heap.get?_update_other _ _ (Ne.symm h)).trans e
  have nS : k1.objs.size ≠ S := by rw [zk]; exact Nat.ne_of_gt (Nat.lt_succ_of_lt Sl)
  have tS : s.heap.objs.size ≠ S := Nat.ne_of_gt Sl
  have tz : s.heap.objs.size ≠ z := Nat.ne_of_gt zl
  have ti : s.heap.objs.size ≠ i := Nat.ne_of_gt (by obtain ⟨_, e, _⟩ := b1; exact Heap.lt_size e)
  have tj : s.heap.objs.size ≠ j := Nat.ne_of_gt (by obtain ⟨_, e, _⟩ := b2; exact Heap.lt_size e)
  have p2 := u2 _ _ tS (f7 _ _ tz ti tj p1)
  have p3 := u2 _ _ nS f5
  have kk : ∀ b v, b ≠ S → b ≠ z → b ≠ o → b ≠ i → b ≠ j → s.heap.get? b = some v → (g2.update S (Obj.mapSeq (·.push (Value.ref k1.objs.size)))).get? b = some v :=
    fun b v h1 h2 h3 h4 h5 h => u2 _ _ h1 (f7 _ _ h2 h4 h5 (u1 _ _ h1 (e7 _ _ h2 h3 h4 h5 h)))
  have m1 := u2 _ _ (Ne.symm nz) f1
  have m3 := kk _ _ (Ne.symm np) D.TIz D.TITO D.TIi1 D.TIi2 a3
  have m4 := f3.at fun v h => u2 _ _ (Ne.symm ni) h
  have m5 : (g2.update S (Obj.mapSeq (·.push (Value.ref k1.objs.size)))).IsTuple l #[x0, x1] := c1.at fun v h => kk _ _ (Ne.symm nl) D.l1z lo D.l1i1 D.l1i2 h
  have hlt : s.heap.objs.size < k1.objs.size := by omega
  have il : i < s.heap.objs.size := by obtain ⟨_, e, _⟩ := b1; exact Heap.lt_size e
  have n8 : k1.objs.size ≠ z := Nat.ne_of_gt (Nat.lt_trans zl hlt)
  have n9 : k1.objs.size ≠ i := Nat.ne_of_gt (Nat.lt_trans il hlt)
  generalize g2.update S (Obj.mapSeq (·.push (Value.ref k1.objs.size))) = k2 at f8 u2 p2 p3 kk m1 m3 m4 m5 ⊢
  refine codeAny_builtin F.entry_extend_loop ?_
  rw [Around.under_plainId F.plain_extend_loop _]
  show wpAny _ A.in1 (pyNext (.ref z) >>= _) _ _ _
  refine wpAny_bind (zh_end (s := { s with heap := k2 }) (A := A.in1) (T := s.heap.objs.size) (f := true) hh D m1 p2 m3 m4 m5 rfl fun g3 h7 => wpAny_pure ?_)
  exact q g3 _ _ _ (Nat.le_refl _) hlt (h7 _ _ nz ni f8) (h7 _ _ tz ti p2) (h7 _ _ n8 n9 p3)
    fun b v t1 t2 t3 t4 t5 h => h7 _ _ t2 t4 (kk _ _ t1 t2 t3 t4 t5 h)
/-- list(zip(l, m)) -/
theorem list_zip {l m : Addr} {x0 x1 y0 y1 : Value} {Q : Value → Shared → Prop} (hh : A.handled = none) (c1 : s.heap.IsTuple l #[x0, x1]) (c2 : s.heap.IsTuple m #[y0, y1])
    (q : ∀ g S T0 T1 c', s.heap.objs.size ≤ S → S < T0 → T0 < T1 → g.get? S = some { cls := .type "list", dict := none, data := .seq #[.ref T0, .ref T1] c', slots := #[] } → IsPair g T0 x0 y0 → IsPair g T1 x1 y1 →
      (∀ b v, s.heap.get? b = some v → g.get? b = some v) → Q (.ref S) { s with heap := g }) :
    wpAny (model prog w) A (call (.type "zip") [.ref l, .ref m]) (fun u s' => wpAny (model prog w) A (call (.type "list") [u]) Q E s') E s := by
  have ll : l < s.heap.objs.size := by obtain ⟨_, e, _⟩ := c1; exact Heap.lt_size e
  have lm : m < s.heap.objs.size := by obtain ⟨_, e, _⟩ := c2; exact Heap.lt_size e
  refine call_zipT c1 c2 fun h a1 a3 a4 b1 b2 hz hk => ?_
  have D := PySem.W.ktu_apart s.heap.objs.size l m ll lm
  refine callType_codes (Q₁ := fun u t => u = .ref h.objs.size ∧ t = { s with heap := h.push { cls := .type "list", data := .seq #[] } }) F.called_list (F.typeCall_list_1 _) F.entry_list_init (code_list_new _ ⟨rfl, rfl⟩) fun u t ⟨e1, e2⟩ => ?_
  subst e1 e2
  have n1 : (h.push { cls := .type "list", data := .seq #[] }).get? h.objs.size = some { cls := .type "list", data := .seq #[] } := Heap.get?_push_size _ rfl
  have k1 : ∀ b v, h.get? b = some v → (h.push { cls := .type "list", data := .seq #[] }).get? b = some v := fun b v e => Heap.get?_push_of_some _ e
  have q1 : (h.push { cls := .type "list", data := .seq #[] }).objs.size = h.objs.size + 1 := Heap.size_push ..
  refine ⟨⟨_, n1, rfl⟩, F.args_list_init_2 _ _, ?_⟩
  generalize h.push { cls := .type "list", data := .seq #[] } = h1 at n1 k1 q1 ⊢
  show wpAny _ A.in1.in1 (Builtin.List.listItems (.ref h.objs.size) >>= fun old => Builtin.List.listUpdate (.ref h.objs.size) (fun _ => #[]) >>= fun _ => letGo old.toList.reverse >>= fun _ => Builtin.List.listExtendWith (.ref h.objs.size) (.ref (s.heap.objs.size + 4)) .none) _ _ _
  unfold Builtin.List.listItems
  refine wpAny_bind ?_
  refine wpAny_bind (wpAny_seqItems n1 rfl (wpAny_pure ?_))
  show wpAny _ A.in1.in1 (updateSeq h.objs.size (fun _ => #[]) >>= fun _ => letGo (#[] : Array Value).toList.reverse >>= fun _ => Builtin.List.listExtendWith (.ref h.objs.size) (.ref (s.heap.objs.size + 4)) .none) _ _ _
  refine wpAny_bind (wpAny_updateSeq n1 rfl (wpAny_bind (wpAny_letGo ?_)))
  have n2 := Heap.get?_update_self (Obj.mapSeq (fun _ => (#[] : Array Value))) n1 rfl
  have k2 : ∀ b v, b ≠ h.objs.size → h1.get? b = some v → (h1.update h.objs.size (Obj.mapSeq (fun _ => (#[] : Array Value)))).get? b = some v := fun b v t e => (Heap.get?_update_other _ _ (Ne.symm t)).trans e
  have q2 : (h1.update h.objs.size (Obj.mapSeq (fun _ => (#[] : Array Value)))).objs.size = h.objs.size + 1 := (Heap.size_update ..).trans q1
  generalize h1.update h.objs.size (Obj.mapSeq (fun _ => (#[] : Array Value))) = h2 at n2 k2 q2 ⊢
  have old : ∀ b v, h.get? b = some v → h2.get? b = some v := fun b v e => k2 _ _ (Nat.ne_of_lt (Heap.lt_size e)) (k1 _ _ e)
  have nz : h.objs.size ≠ s.heap.objs.size + 4 := Nat.ne_of_gt (Heap.lt_size a1)
  have tz : ({ s with heap := h2 } : Shared).TypeIs (.ref (s.heap.objs.size + 4)) "zip" := ⟨_, old _ _ a1, rfl⟩
  unfold Builtin.List.listExtendWith
  refine wpAny_bind (wpAny_typeOf tz ?_)
  have t1 : Builtin.List.listSameRef (.ref h.objs.size) (.ref (s.heap.objs.size + 4)) = false := by simp [Builtin.List.listSameRef, nz]
  have t2 : (Value.type "zip" == Value.type "list") = false := by decide
  have t3 : (Value.type "zip" == Value.type "tuple") = false := by decide
  simp only [t1, t2, t3, Bool.or_false, Bool.false_eq_true, if_false]
  refine wpAny_bind (wpAny_pyIter_zip (s := { s with heap := h2 }) (old _ _ a1) (wpAny_bind (wpAny_holding ?_)))
  unfold Builtin.List.listLengthHint
  refine wpAny_bind (wpAny_specialOf tz zip_no_len ?_)
  show wpAny _ A.in1.in1 (specialOf (Value.ref _) (Str.ofString "__length_hint__") >>= _) _ _ _
  refine wpAny_bind (wpAny_specialOf tz zip_no_hint (wpAny_pure ?_))
  show wpAny _ A.in1.in1 (rule "list.extend.makes-room" >>= fun _ => Builtin.List.listTouch (.ref h.objs.size) >>= fun _ => again (.builtin "list.extend.loop" ⟨[.ref h.objs.size, .ref _, .none], []⟩)) _ _ _
  refine wpAny_bind (wpAny_rule (wpAny_bind ?_))
  show wpAny _ A.in1.in1 (updateSeq h.objs.size (·.push .none) >>= fun _ => updateSeq h.objs.size (·.pop)) _ _ _
  refine wpAny_bind (wpAny_updateSeq n2 rfl ?_)
  have n3 := Heap.get?_update_self (Obj.mapSeq (·.push Value.none)) n2 rfl
  refine wpAny_updateSeq (hz := by seq_fits) n3 rfl (wpAny_pure ⟨plainId_quiet F.plain_extend_loop _, ?_⟩)
  have n4 := Heap.get?_update_self (Obj.mapSeq (·.pop)) n3 rfl
  have k4 : ∀ b v, b ≠ h.objs.size → h2.get? b = some v → ((h2.update h.objs.size (Obj.mapSeq (·.push Value.none))).update h.objs.size (Obj.mapSeq (·.pop))).get? b = some v := fun b v t e =>
    (Heap.get?_update_other _ _ (Ne.symm t)).trans ((Heap.get?_update_other _ _ (Ne.symm t)).trans e)
  have q4 : ((h2.update h.objs.size (Obj.mapSeq (·.push Value.none))).update h.objs.size (Obj.mapSeq (·.pop))).objs.size = h.objs.size + 1 := (Heap.size_update ..).trans ((Heap.size_update ..).trans q2)
  generalize (h2.update h.objs.size (Obj.mapSeq (·.push Value.none))).update h.objs.size (Obj.mapSeq (·.pop)) = h4 at n4 k4 q4 ⊢
  have up : ∀ b v, h.get? b = some v → h4.get? b = some v := fun b v e => k4 _ _ (Nat.ne_of_lt (Heap.lt_size e)) (old _ _ e)
  have lt : ∀ b v, h.get? b = some v → h.objs.size ≠ b := fun b v e => Nat.ne_of_gt (Heap.lt_size e)
  have f1 : ∀ b v, s.heap.get? b = some v → b ≠ h.objs.size ∧ b ≠ s.heap.objs.size + 4 ∧ b ≠ s.heap.objs.size + 3 ∧ b ≠ s.heap.objs.size ∧ b ≠ s.heap.objs.size + 1 := fun b v e => by
    have r1 : b < s.heap.objs.size := Heap.lt_size e
    have r2 := Heap.lt_size (hk b v e)
    exact ⟨Nat.ne_of_lt r2, Nat.ne_of_lt (Nat.lt_of_lt_of_le r1 (Nat.le_add_right _ _)), Nat.ne_of_lt (Nat.lt_of_lt_of_le r1 (Nat.le_add_right _ _)), Nat.ne_of_lt r1, Nat.ne_of_lt (Nat.lt_of_lt_of_le r1 (Nat.le_add_right _ _))⟩
  refine xl_zip (s := { s with heap := h4 }) (A := A.in1) hh D (up _ _ a1) (up _ _ a3) (up _ _ a4) (b1.at fun v e => up _ _ e) (b2.at fun v e => up _ _ e) ((c1.at fun v e => hk _ _ e).at fun v e => up _ _ e) ((c2.at fun v e => hk _ _ e).at fun v e => up _ _ e) n4
    (lt _ _ a1) (lt _ _ a3) (lt _ _ a4) (by obtain ⟨_, e, _⟩ := b1; exact lt _ _ e) (by obtain ⟨_, e, _⟩ := b2; exact lt _ _ e) (by obtain ⟨_, e, _⟩ := c1; exact lt _ _ (hk _ _ e)) (by obtain ⟨_, e, _⟩ := c2; exact lt _ _ (hk _ _ e))
    (by obtain ⟨_, e, _⟩ := c1; exact (f1 _ _ e).2.2.1) (by obtain ⟨_, e, _⟩ := c2; exact (f1 _ _ e).2.2.1) fun g T0 T1 c' w1 w2 w3 w4 w5 w6 => ⟨rfl, ?_⟩
  have w1' : h.objs.size + 1 ≤ T0 := by rw [← q4]; exact w1
  exact q g _ T0 T1 c' (by omega) (by omega) w2 w3 w4 w5 fun b v e => w6 _ _ (f1 b v e).1 (f1 b v e).2.1 (f1 b v e).2.2.1 (f1 b v e).2.2.2.1 (f1 b v e).2.2.2.2 (up _ _ (hk _ _ e))
end
/-! the rule -/
def tLZ (K : PySem.W.Frag) (ta : TA) : TE := fun σ H Q => ta σ H fun vs H1 => ∃ (a b : Addr) (x0 x1 y0 y1 : V), vs = [.ref a, .ref b] ∧ SqT K H1 a [x0, x1] ∧ SqT K H1 b [y0, y1] ∧
  ∀ S T0 T1 : Addr, H1 S = none → H1 T0 = none → H1 T1 = none → S ≠ T0 → T0 ≠ T1 → S ≠ T1 → Q (.ref S) (upd (upd (upd H1 T0 (.tup [x0, y0])) T1 (.tup [x1, y1])) S (.lst [.ref T0, .ref T1]))
section
variable {X : Cx}
theorem three_laid {pins : List (Addr × Obj)} {σ : L2.St} {H : Hp} {s : Shared} {g : Heap} {S T0 T1 : Addr} {c : Nat} {x0 x1 y0 y1 : V} {u0 u1 w0 w1 : Value} (I : Inv X pins σ H s) (kp : ∀ b v, s.heap.get? b = some v → g.get? b = some v)
    (h0 : s.heap.objs.size ≤ S) (h1 : S < T0) (h2 : T0 < T1) (gS : g.get? S = some { cls := .type "list", dict := none, data := .seq #[.ref T0, .ref T1] c, slots := #[] }) (g0 : IsPair g T0 u0 w0) (g1 : IsPair g T1 u1 w1)
    (r0 : RelV x0 u0) (r1 : RelV x1 u1) (r2 : RelV y0 w0) (r3 : RelV y1 w1) :
    Inv X pins σ (upd (upd (upd H T0 (.tup [x0, y0])) T1 (.tup [x1, y1])) S (.lst [.ref T0, .ref T1])) { s with heap := g } := by
  have nS : H S = none := I.hok.fresh h0
  have n0 : H T0 = none := I.hok.fresh (Nat.le_trans h0 (Nat.le_of_lt h1))
  have n1 : H T1 = none := I.hok.fresh (Nat.le_trans h0 (Nat.le_of_lt (Nat.lt_trans h1 h2)))
  have d1 : S ≠ T0 := Nat.ne_of_lt h1
  have d2 : T0 ≠ T1 := Nat.ne_of_lt h2
  have d3 : S ≠ T1 := Nat.ne_of_lt (Nat.lt_trans h1 h2)
  have off : ∀ b, b ≠ S → b ≠ T0 → b ≠ T1 → upd (upd (upd H T0 (.tup [x0, y0])) T1 (.tup [x1, y1])) S (.lst [.ref T0, .ref T1]) b = H b := fun b q1 q2 q3 => by rw [upd_ne q1, upd_ne q3, upd_ne q2]
  have old : ∀ b u, H b = some u → b ≠ S ∧ b ≠ T0 ∧ b ≠ T1 := fun b u e => ⟨ne_of_none e nS, ne_of_none e n0, ne_of_none e n1⟩
  have stay : ∀ b u, H b = some u → upd (upd (upd H T0 (.tup [x0, y0])) T1 (.tup [x1, y1])) S (.lst [.ref T0, .ref T1]) b = some u := fun b u e => (off b (old b u e).1 (old b u e).2.1 (old b u e).2.2).trans e
  have low : ∀ b o, s.heap.get? b = some o → b ≠ S ∧ b ≠ T0 ∧ b ≠ T1 := fun b o e => by
    have q : b < s.heap.objs.size := Heap.lt_size e
    exact ⟨Nat.ne_of_lt (Nat.lt_of_lt_of_le q h0), Nat.ne_of_lt (Nat.lt_trans (Nat.lt_of_lt_of_le q h0) h1), Nat.ne_of_lt (Nat.lt_trans (Nat.lt_trans (Nat.lt_of_lt_of_le q h0) h1) h2)⟩
  have eS : upd (upd (upd H T0 (.tup [x0, y0])) T1 (.tup [x1, y1])) S (.lst [.ref T0, .ref T1]) S = some (.lst [.ref T0, .ref T1]) := upd_same
  have e0 : upd (upd (upd H T0 (.tup [x0, y0])) T1 (.tup [x1, y1])) S (.lst [.ref T0, .ref T1]) T0 = some (.tup [x0, y0]) := by rw [upd_ne (Ne.symm d1), upd_ne d2, upd_same]
  have e1 : upd (upd (upd H T0 (.tup [x0, y0])) T1 (.tup [x1, y1])) S (.lst [.ref T0, .ref T1]) T1 = some (.tup [x1, y1]) := by rw [upd_ne (Ne.symm d3), upd_same]
  refine I.call' (s' := { s with heap := g }) (ch := []) rfl ⟨fun b o q _ _ _ => kp b o q, fun b o q _ _ _ => ⟨o.slots, kp b o q⟩, fun b o q n _ => (off b (low b o q).1 (low b o q).2.1 (low b o q).2.2).trans n, fun b o q _ => ⟨o, kp b o q⟩, fun b xs q => stay b _ q, fun b o u q => stay b _ q, fun b ps q => ⟨#[], by rw [stay b _ q]; simp⟩⟩ (fun b u q => ?_) I.bare fun b z => by simp at z
  by_cases q1 : b = S
  · subst q1
    rw [eS] at q
    cases q
    exact ⟨by show 2 ≤ sizeLine; decide, [.ref T0, .ref T1], c, .cons rfl (.cons rfl .nil), gS⟩
  · by_cases q2 : b = T0
    · subst q2
      rw [e0] at q
      cases q
      exact ⟨by show 2 ≤ sizeLine; decide, [u0, w0], .cons r0 (.cons r2 .nil), ⟨_, g0, rfl, _, rfl⟩⟩
    · by_cases q3 : b = T1
      · subst q3
        rw [e1] at q
        cases q
        exact ⟨by show 2 ≤ sizeLine; decide, [u1, w1], .cons r1 (.cons r3 .nil), ⟨_, g1, rfl, _, rfl⟩⟩
      · rw [off b q1 q2 q3] at q
        exact (I.hok b u q).stay (fun d v _ y => kp d v y) (fun d y => stay d _ y) fun d xs y => stay d _ y
theorem pe_lzip {e e2 : Expr} {ta : TA} {p p2 pos pos2 : Pos} (hc : X.calm = true) (b : Bn X "list") (b2 : Bn X "zip") (ha : PA X [e, e2] ta)
    (h1 : starEach [.Call (.Name "zip" p2) [e, e2] [] pos2] X.env = (false, eval (.Call (.Name "zip" p2) [e, e2] [] pos2) X.env) :: starEach [] X.env)
    (hs : starEach [e, e2] X.env = (false, eval e X.env) :: starEach [e2] X.env) (hpl : (backTo pos2 (starEach [e2] X.env)).any (·.1) = false) :
    PE X (.Call (.Name "list" p) [.Call (.Name "zip" p2) [e, e2] [] pos2] [] pos) (tLZ X.K ta) := by
  refine ⟨fun pins s σ H Q I h => ?_⟩
  refine Call_ (ld_blt I b.gl b.mg PyProof.Rows.boot_list (PyProof.Rows.callWith_type1 ?_ h1 rfl))
  rw [h1]
  refine Calls.spliced_cons ?_
  refine Call_ (ld_blt I b2.gl b2.mg PyProof.Rows.boot_zip (PyProof.Rows.callWith_type1 (thn (ha.run pos2 pins s σ H _ I h) fun us s1 ⟨vs, H1, I1, r, q⟩ => ?_) hs hpl))
  obtain ⟨l, m, x0, x1, y0, y1, ev, t1, t2, q⟩ := q
  subst ev
  cases r with
  | cons ra rr =>
    cases rr with
    | cons rb rr =>
      cases rr
      cases ra
      cases rb
      obtain ⟨as, va, pa, _⟩ := I1.tuple t1
      obtain ⟨bs, vb, pb, _⟩ := I1.tuple t2
      cases va with
      | cons r0 va =>
        cases va with
        | cons r1 va =>
          cases va
          cases vb with
          | cons r2 vb =>
            cases vb with
            | cons r3 vb =>
              cases vb
              refine wpAny_mono (list_zip (I1.ok.hd hc) pa pb (Q := fun u s' => ∃ x H', L2.Inv X pins σ H' s' ∧ RelV x u ∧ Q x H') (E := X.xe) fun g S T0 T1 c z1 z2 z3 z4 z5 z6 z7 => ?_) (fun u s' h => Calls.spliced_nil h) fun _ _ h => h
              exact ⟨.ref S, _, three_laid I1 z7 z1 z2 z3 z4 z5 z6 r0 r1 r2 r3, rfl, q S T0 T1 (I1.hok.fresh z1) (I1.hok.fresh (Nat.le_trans z1 (Nat.le_of_lt z2))) (I1.hok.fresh (Nat.le_trans z1 (Nat.le_of_lt (Nat.lt_trans z2 z3)))) (Nat.ne_of_lt z2) (Nat.ne_of_lt z3) (Nat.ne_of_lt (Nat.lt_trans z2 z3))⟩
variable {cl : Nat → Addr}
theorem e_lzip {a c : Expr} {p p2 pos pos2 : Pos} {m mc : M B} (hc : X.calm = true) (b : Bn X "list") (b2 : Bn X "zip") (ha : SimE cl X a m) (hcc : SimE cl X c mc) (hs : plainE a = true := by rfl) (hs2 : plainE c = true := by rfl) :
    SimE cl X (.Call (.Name "list" p) [.Call (.Name "zip" p2) [a, c] [] pos2] [] pos) (mLZip m mc) :=
  fun W tk => PE.imp (pe_lzip hc b b2 (pa_cons (ha W tk) (pa_cons (hcc W tk) pa_nil (star_cons hs2)) (star_cons hs)) (star_cons rfl) (star_cons hs) (star_any (es := [c]) (by show (plainE c && true) = true; rw [hs2]; rfl))) fun σ H R ⟨F, ρ, S, h⟩ => by
    refine tM_bind (R1 := RlB) S h fun x b A F1 H1 ρ1 T1 S1 r1 f1 n1 h1 => ?_
    refine tM_bind (R1 := RlB) S1 h1 fun y c A' F2 H2 ρ2 T2 S2 r2 f2 n2 h2 => ?_
    rw [List.append_assoc] at h2
    obtain ⟨d, e, F3, S3, rd, re, sb, h3⟩ := kept2 S2 (r1.mono (F' := F2) (H' := H2) T2.sub fun z m => f1.keep T2 m) r2 (f1.append T2 f2 n2) h2
    obtain ⟨zs, ez, q⟩ := tR_end h3
    unfold lzip2 at ez
    split at ez
    · rename_i d0 d1 e0 e1 eqs
      cases eqs
      cases ez
      cases rd with
      | tup g1 q1 =>
        cases re with
        | tup g2 q2 =>
          cases q1 with
          | cons w0 q1 =>
            cases q1 with
            | cons w1 q1 =>
              cases q1
              cases q2 with
              | cons y0 q2 =>
                cases q2 with
                | cons y1 q2 =>
                  cases q2
                  refine ⟨_, _, _, _, _, _, rfl, S3.sub.sqT g1, S3.sub.sqT g2, fun L t0 t1 nL n0 n1 d1 d2 d3 => ?_⟩
                  obtain ⟨Sa, Ta⟩ := new_sh (o := .tup [_, _]) S3 n0
                  obtain ⟨Sb, Tb⟩ := new_sh (p := t1) (o := .tup [_, _]) Sa (by rw [upd_ne (Ne.symm d2)]; exact n1)
                  obtain ⟨Sc, Tc, fc, nc⟩ := new_own (p := L) (o := .lst [.ref t0, .ref t1]) Sb (by rw [upd_ne d3, upd_ne d1]; exact nL)
                  have T := (Ta.trans0 Tb).trans0 Tc
                  have k0 := Tb.sub _ _ (upd_same (H := F3) (a := t0))
                  refine q _ [L] _ _ T Sc (.ow (.lst upd_same (.cons (.tup (.inl (.inl k0)) (.cons (w0.mono T.sub) (.cons (y0.mono T.sub) .nil))) (.cons (.tup (.inl (.inl upd_same)) (.cons (w1.mono T.sub) (.cons (y1.mono T.sub) .nil))) .nil)))) fc fun z mz => ?_
                  rw [List.mem_singleton.mp mz]
                  exact .inr (.inr nL)
    · cases ez
end
end WF

set_option Elab.async false
set_option linter.all false
set_option maxRecDepth 100000
set_option maxHeartbeats 4000000
/-! WFU: {k: v} with a tuple as its key; walks over the keys of a new dict; list(d), sorted(d), min(a, b), d.get(k, x). -/
namespace WF
open PySem PySem.Spec PyProof.Rows L2
section
variable {X : Cx} {cl : Nat → Addr}
theorem hu9 (hu : Hu X) : (nestedKind X.prog X.w).room X.A := by
  have : X.A.units + 65 < cLine := hu
  show X.A.units + 8 < cLine
  omega
def tDispT (C : Cs) (tk tv : TE) : TE := fun σ H Q => ∀ p, H p = none → tk σ (upd H p (dkT C p [])) fun x H1 => tv σ H1 fun y H2 => H2 p = some (dkT C p []) ∧
  ∃ (b : Addr) (k : D), x = .ref b ∧ Rep C H2 (.ref b) k ∧ keyT k = true ∧ Q (.ref p) (upd H2 p (dkT C p [(nk k, b, y)]))
theorem pe_dispT {pos : Pos} {ke ve : Expr} {tk tv : TE} (hu : Hu X) (hk : PE X ke tk) (hv : PE X ve tv) : PE X (.Dict [some ke] [ve] pos) (tDispT (cs cl X) tk tv) := by
  refine ⟨fun pins s σ H Q I q => ?_⟩
  have hn := I.hok.fresh (Nat.le_refl s.heap.objs.size)
  have nm : (s.heap.objs.size == sysModules) = false := beq_eq_false_iff_ne.mpr (Ne.symm (Nat.ne_of_lt I.big))
  have d0 : (s.heap.push { cls := .type "dict", data := .dict #[] }).DictOfH (nestedKind X.prog X.w) s.heap.objs.size [] :=
    ⟨_, #[], 0, Heap.get?_push_size _ rfl, ⟨rfl, rfl, rfl⟩, rfl, rfl, (fun _ m => nomatch m), List.nodup_nil⟩
  have I1 := I.laid (a := s.heap.objs.size) (o := dkT (cs cl X) s.heap.objs.size []) (h' := s.heap.push { cls := .type "dict", data := .dict #[] }) (t' := s.toks) (fun _ _ e => Heap.get?_push_of_some _ e) (Nat.le_refl _) (dkT_ok .nil d0 (Nat.zero_le _) nm)
  have sh : (evalEachOpt [some ke] X.env).zip ((evalEach [ve] X.env).map fun v => do let x ← v; standAt pos; pure x) = (pairTrees [some ke] [ve] X.env pos).map fun p => (some p.1, p.2) := rfl
  rw [arm_eval_Dict, sh, dictDisplay_pairs (pairTrees [some ke] [ve] X.env pos) (by simp [pairTrees]) (by simp [pairTrees])]
  refine wpAny_bind (wpAny_standAt (wpAny_bind (wpAny_subDictH (knd := nestedKind X.prog X.w) (hu9 hu) (by simp [pairTrees]) ?_)))
  refine pairTrees_cons_walk (thn (hk.run pins _ σ _ _ I1 (q _ hn)) fun u s1 ⟨x, H1, I2, rx, q1⟩ => thn (hv.run pins s1 σ H1 _ I2 q1) fun z s2 ⟨y, H2, I3, ry, e, b, k, ex, rk, hk, q2⟩ => pairTrees_nil_walk ?_)
  subst ex
  cases rx
  obtain ⟨ys, rel, dd, _, _, _⟩ := dk_at (F := fun _ => none) I3 e .nil (fun _ _ h => by cases h)
  cases rel
  refine ⟨[(nk k, b, z)], ⟨rfl, rfl, key_is I3 rk hk, True.intro⟩, dd, fun h' tk d' hs => wpAny_pure ⟨.ref s.heap.objs.size, _, ?_, rfl, q2⟩⟩
  have he : ∃ o, h'.get? s.heap.objs.size = some o := let ⟨o, _, _, ho, _⟩ := d'; ⟨o, ho⟩
  refine I3.write (o := dkT (cs cl X) s.heap.objs.size [(nk k, b, y)]) (by rw [e]; exact True.intro) (.inl rfl) (fun c o n q => hs.extBut c o n q) he (dkT_ok (ys := [(nk k, b, z)]) (.cons ⟨rfl, rfl, ry⟩ .nil) d' ?_ nm)
  show 1 ≤ sizeLine
  decide
end
section
variable {cl : Nat → Addr} {X : Cx} {C : Cs} {σ : St} {F H : Hp} {ρ : Env} {A A0 A' : List Addr} {W : WX} {α β : Type} {R : Rl β α} {Q : β → Hp → Prop}
/-- an object in hand is written -/
theorem hand_put {p : Addr} {o : HO} (S : Stt C F H σ ρ) (fp : F p = none) (no : ¬ Owns σ ρ p) (th : H p ≠ none) : Stt C F (upd H p o) σ ρ ∧ Tr [p] σ F H ρ σ F (upd H p o) ρ := by
  have ne : ∀ {a : Addr}, Owns σ ρ a → a ≠ p := fun q e => no (by rw [← e]; exact q)
  refine ⟨⟨fun a u e => ?_, S.len, fun i b e => ?_, S.dis⟩, ⟨Sub.refl _, fun a u e _ m => ?_, fun _ _ _ _ z => z, fun a e q => ?_, fun a q => .inl q, fun i b q => ⟨⟨b, q⟩, rfl⟩, fun i b q => ⟨b, q⟩⟩⟩
  · have n : a ≠ p := fun z => by rw [z, fp] at e; cases e
    rw [upd_ne n]; exact S.sub _ _ e
  · obtain ⟨v, e1, r⟩ := S.sl i b e
    refine ⟨v, e1, ?_⟩
    cases r with
    | sh r => exact .sh r
    | ow r f => exact .ow (r.mono (Sub.refl _) fun u z => by rw [upd_ne (ne ⟨i, _, e, rfl, e1⟩)]; exact z) f
    | io r f => exact .io (r.mono (Sub.refl _) fun u z => by rw [upd_ne (ne ⟨i, _, e, rfl, e1⟩)]; exact z) f
  · rw [upd_ne (fun z => m (by rw [z]; simp))]; exact e
  · by_cases z : a = p
    · subst z; rw [upd_same] at q; cases q
    · rw [upd_ne z] at q; exact e q
theorem kept2x {x y : V} {b c : B} {k : List D → M α} (S : Stt C F H σ ρ) (r : RB C σ F H x b A) (r' : RB C σ F H y c A') (f : Fp σ F H ρ (A ++ A')) (h : tR C R W (A0 ++ (A ++ A')) F ρ (bind (kept [b, c]) k) σ H Q) :
    ∃ d e F1, Stt C F1 H σ ρ ∧ Tr (A ++ A') σ F H ρ σ F1 H ρ ∧ Rep C F1 x d ∧ Rep C F1 y e ∧ tR C R W A0 F1 ρ (k [d, e]) σ H Q := by
  have rs : RBs C σ F H [x, y] [b, c] (A ++ (A' ++ [])) := .cons r (.cons r' .nil)
  rw [List.append_nil] at rs
  unfold kept at h
  split at h
  · rename_i n
    obtain ⟨ds, e, h⟩ := tR_step h fun _ _ => dats_pure
    have e : datsL ρ [b, c] = some ds := by
      unfold dats at e
      split at e
      · cases e
      · cases e; assumption
    obtain ⟨S1, T1⟩ := share S f
    have rd := rs.in_ (sub_addF f) (fun a m o q => by rw [addF_in m]; exact q) n e
    cases rd with
    | cons r1 t =>
      cases t with
      | cons r2 t =>
        cases t
        exact ⟨_, _, addF F H (A ++ A'), S1, T1, r1, r2, tR_from (T1.hand fun a m => List.mem_append_right _ m) (fun a m => .inr (.inl (List.mem_append_left _ m))) h⟩
  · obtain ⟨r', ρ', e', h⟩ := h
    cases e'
theorem sim_dic1 {pos : Pos} {ke ve : Expr} {mk mv : M B} (hu : Hu X) (ha : SimE cl X ke mk) (hc : SimE cl X ve mv) : SimE cl X (.Dict [some ke] [ve] pos) (mDic1 mk mv) := fun W tk => PE.imp (pe_dispT (cl := cl) hu (ha W tk) (hc W tk)) fun σ H Q ⟨F, ρ, S, h⟩ p hp => by
  obtain ⟨S0, T0, f0, n0⟩ := new_own (o := dkT (cs cl X) p []) S hp
  have h0 := tR_from (A1 := [p]) T0 n0 h
  have p0 : p ∈ [p] := List.mem_cons_self
  refine tM_bind (R1 := RlB) (A0 := [p]) S0 h0 fun x b A F1 H1 ρ1 T1 S1 r1 f1 n1 h1 => ?_
  have g1 := f0.tr T1
  refine tM_bind (R1 := RlB) (A0 := [p] ++ A) S1 h1 fun y c A' F2 H2 ρ2 T2 S2 r2 f2 n2 h2 => ?_
  rw [List.append_assoc] at h2
  have g2 := g1.tr T2
  have np : p ∉ A ++ A' := fun m => by
    rcases List.mem_append.mp m with m | m
    · rcases n1 p m with z | z | z
      · exact f0.no p p0 z
      · exact nomatch z
      · exact f0.th p p0 z
    · rcases n2 p m with z | z | z
      · exact g1.no p p0 z
      · exact nomatch z
      · exact g1.th p p0 z
  have e1 := f0.keep T1 p0 _ (upd_same (H := H) (a := p))
  have e2 := g1.keep T2 p0 _ e1
  obtain ⟨d, e, F3, S3, T3, rd, re, h3⟩ := kept2x S2 (r1.mono (F' := F2) (H' := H2) T2.sub fun z m => f1.keep T2 m) r2 (f1.append T2 f2 n2) h2
  refine ⟨e2, ?_⟩
  have h3 : tR (cs cl X) RlB W [p] F3 ρ2 (if keyT d = true then ret (.ow (.dic true [(d, e)])) else stuck) σ H2 Q := h3
  by_cases hk : keyT d = true
  · rw [if_pos hk] at h3
    obtain ⟨b, rfl⟩ := keyT_ref hk rd
    have f3 : F3 p = none := T3.nofz p (g2.th p p0) (g2.no p p0) np (g2.nf p p0)
    obtain ⟨S4, T4⟩ := hand_put (o := dkT (cs cl X) p [(nk d, b, y)]) S3 f3 (g2.no p p0) (g2.th p p0)
    refine ⟨b, d, rfl, rd.mono S3.sub, hk, tR_ret h3 _ [p] F3 _ T4 S4 (.ow (.dicT upd_same (.cons hk rd re .nil))) ⟨by simp, fun a m => ?_, fun a m => ?_, fun a m => ?_⟩ fun a m => .inr (.inl m)⟩
    · rw [List.mem_singleton.mp m]; exact f3
    · rw [List.mem_singleton.mp m]; exact g2.no p p0
    · rw [List.mem_singleton.mp m, upd_same]; simp
  · rw [if_neg hk] at h3
    exact tR_stuck h3
end
/-! ### the keys of a new dict, walked -/
/-- the dict at a, just this object -/
def dkX (C : Cs) (a : Addr) (o : Obj) (xs : List XT) : HO := .ext fun h => h.get? a = some o ∧ o.ExactDict ∧ ∃ ys : List YT, RelT xs ys ∧ ∃ es ep, o.data = .dict es ep ∧ es.toList = ys.map (entryOfKey (nestedKind C.P C.w))
def ItX (C : Cs) (d : Addr) (o : Obj) (xs : List XT) : It :=
  ⟨fun i H => H d = some (dkX C d o xs) ∧ i < xs.length, fun i H x H' => H' = H ∧ ∃ k a v, xs[i]? = some (k, a, v) ∧ x = .ref a, fun i H => H d = some (dkX C d o xs) ∧ xs.length ≤ i⟩
theorem relT_get : ∀ {xs : List XT} {ys : List YT}, RelT xs ys → ∀ {i : Nat} {k : NestedKey} {a : Addr} {v : V}, xs[i]? = some (k, a, v) → ∃ u, ys[i]? = some (k, a, u) ∧ RelV v u
  | _, _, .nil, _, _, _, _, e => by cases e
  | _, _, .cons (b := q) r t, i, k, a, v, e => by
    cases i with
    | zero =>
      cases e
      obtain ⟨q1, q2, q3⟩ := q
      obtain ⟨h1, h2, h3⟩ := r
      cases h1
      cases h2
      exact ⟨q3, rfl, h3⟩
    | succ i => exact relT_get t (i := i) e
section
variable {P : Program} {w : World} {K : PySem.W.Frag} {cl : Nat → Addr} {tg : Expr} {d : Addr} {o : Obj} {xs : List XT} {es : Array DictEntry} {ep : Nat}
theorem turn_keysX (it : Addr) (hod : o.data = .dict es ep) : Turn P w K tg (ItX ⟨P, w, K, cl⟩ d o xs) [it] it (fun i h => h.IsKeyIter it d i xs.length ep) where
  mem := by simp
  obj := fun i h st b hb => by
    have e : b = it := by simpa using hb
    subst e
    obtain ⟨u, e, c, dd⟩ := st
    exact ⟨u, e, fun v z => by rw [dd] at z; cases z⟩
  keep := fun i h h' st k => st.at fun u e => k it (by simp) u e
  item := by
    intro X hP hw hK hc i pins s σ H E I hf st hg
    subst hP hw hK
    obtain ⟨hd, hi⟩ := hg
    obtain ⟨f0, f1, f2, f3, f4, f5⟩ := hf it (by simp)
    obtain ⟨⟨g1, g2, ys, rel, es', ep', g3, g4⟩, _⟩ := I.hok d _ hd
    obtain ⟨rfl, rfl⟩ := dict_ep hod g3
    obtain ⟨⟨k, a, v⟩, hx⟩ : ∃ p, xs[i]? = some p := ⟨xs[i], List.getElem?_eq_getElem hi⟩
    obtain ⟨u, hy, ru⟩ := relT_get rel hx
    have sz : es'.size = xs.length := by rw [← Array.length_toList, g4, List.length_map]; exact rel.length.symm
    have en : es'[i]? = some (entryOfKey (nestedKind X.prog X.w) (k, a, u)) := by rw [← Array.getElem?_toList, g4, List.getElem?_map, hy]; rfl
    refine next_key_item st g1 hod sz en fun h' st' sb => ?_
    have I1 : Inv X pins σ H { s with heap := h' } := I.turned (t' := s.toks) (fun b ob hb e => (sb.2 b hb).trans e) f0 f1 f3 f4 f5
    obtain ⟨u', e, c, dd⟩ := id st'
    exact ⟨_, rfl, go_of (s := { s with heap := h' }) e c dd (by decide) ⟨.ref a, H, I1, rfl, ⟨rfl, k, a, v, hx, rfl⟩, st', fun b hb => (hf b hb).1⟩⟩
  done := by
    intro X hP hw hK hc i pins s σ H E I hf st hg
    subst hP hw hK
    obtain ⟨hd, hi⟩ := hg
    obtain ⟨f0, f1, f2, f3, f4, f5⟩ := hf it (by simp)
    obtain ⟨⟨g1, g2, ys, rel, es', ep', g3, g4⟩, _⟩ := I.hok d _ hd
    obtain ⟨rfl, rfl⟩ := dict_ep hod g3
    have sz : es'.size = xs.length := by rw [← Array.length_toList, g4, List.length_map]; exact rel.length.symm
    exact next_key_end (I.ok.hd hc) st g1 hod sz hi fun h' eb => ⟨rfl, I.turned (t' := s.toks) (fun b ob hb e => eb b ob hb e) f0 f1 f3 f4 f5⟩
  self := fun A i s Q E st h => wpAny_pyIter_keyiter st h
end
section
variable {cl : Nat → Addr} {X : Cx} {C : Cs} {σ : St} {F H : Hp} {ρ : Env} {A A0 A' : List Addr} {W : WX}
def iKeysX (C : Cs) (te : TE) : TI := fun σ H R => te σ H fun x H1 => ∃ (d : Addr) (F : Hp) (xs : List XT) (kvs : List (D × D)), x = .ref d ∧ H1 d = some (dkT C d xs) ∧ RepT C F xs kvs ∧ Sub F H1 ∧ ∀ o, R (ItX C d o xs) (upd H1 d (dkX C d o xs))
theorem pi_keysX {tg e : Expr} {te : TE} (he : PE X e te) : PI X tg e (iKeysX (cs cl X) te) := by
  refine ⟨fun pins s σ H R I h => ?_⟩
  refine thn (he.run pins s σ H _ I h) fun u s1 ⟨x, H1, I1, rx, d, F, xs, kvs, ex, hd, rk, sub, q⟩ => ?_
  subst ex
  obtain rfl : u = Value.ref d := rx
  obtain ⟨ys, rel, ⟨o, es, ep, g1, g2, g3, g4, g5, g6⟩, _, nm, _⟩ := dk_at I1 hd rk sub
  have ok : ObjOk X.prog X.w (upd H1 d (dkX (cs cl X) d o xs)) s1.heap d (dkX (cs cl X) d o xs) :=
    ⟨⟨g1, g2, ys, rel, es, ep, g3, g4⟩, ⟨o, g1⟩, fun h1 h2 ⟨z1, z⟩ k => ⟨k _ z1, z⟩⟩
  have I2 : Inv X pins σ (upd H1 d (dkX (cs cl X) d o xs)) s1 := I1.write (h' := s1.heap) (t' := s1.toks) (by rw [hd]; exact True.intro) (.inl rfl) (fun _ _ _ z => z) ⟨o, g1⟩ ok
  have sz : es.size = xs.length := by rw [← Array.length_toList, g4, List.length_map]; exact rel.length.symm
  refine iter_keys nm g1 g2 g3 (pi_one (tk := s1.toks) I2 _ (turn_keysX (cl := cl) _ g3) ⟨_, Heap.get?_push_size _ rfl, rfl, ?_⟩ (q o))
  rw [sz] <;> rfl
/-- an object in hand is locked and shared -/
theorem hand_lock {p : Addr} {o : HO} (S : Stt C F H σ ρ) (fp : F p = none) (no : ¬ Owns σ ρ p) (th : H p ≠ none) : Stt C (upd F p o) (upd H p o) σ ρ ∧ Tr [p] σ F H ρ σ (upd F p o) (upd H p o) ρ := by
  have ne : ∀ {a : Addr}, Owns σ ρ a → a ≠ p := fun q e => no (by rw [← e]; exact q)
  have kf : Sub F (upd F p o) := fun a u e => by rw [upd_ne (fun z => by rw [z, fp] at e; cases e)]; exact e
  refine ⟨⟨fun a u e => ?_, S.len, fun i b e => ?_, S.dis⟩, ⟨kf, fun a u e _ m => ?_, fun a e n m z => ?_, fun a e q => ?_, fun a q => .inl q, fun i b q => ⟨⟨b, q⟩, rfl⟩, fun i b q => ⟨b, q⟩⟩⟩
  · by_cases z : a = p
    · subst z; rw [upd_same] at e ⊢; exact e
    · rw [upd_ne z] at e ⊢; exact S.sub _ _ e
  · obtain ⟨v, e1, r⟩ := S.sl i b e
    refine ⟨v, e1, ?_⟩
    cases r with
    | sh r => exact .sh (r.mono kf)
    | ow r f => exact .ow (r.mono kf fun u z => by rw [upd_ne (ne ⟨i, _, e, rfl, e1⟩)]; exact z) (by rw [upd_ne (ne ⟨i, _, e, rfl, e1⟩)]; exact f)
    | io r f => exact .io (r.mono kf fun u z => by rw [upd_ne (ne ⟨i, _, e, rfl, e1⟩)]; exact z) (by rw [upd_ne (ne ⟨i, _, e, rfl, e1⟩)]; exact f)
  · rw [upd_ne (fun z => m (by rw [z]; simp))]; exact e
  · rw [upd_ne (fun z => m (by rw [z]; simp))]; exact z
  · by_cases z : a = p
    · subst z; rw [upd_same] at q; cases q
    · rw [upd_ne z] at q; exact e q
theorem repT_get : ∀ {xs : List XT} {kvs : List (D × D)}, RepT C F xs kvs → ∀ {i : Nat} {k : NestedKey} {a : Addr} {v : V}, xs[i]? = some (k, a, v) → ∃ d, (kvs.map (·.1))[i]? = some d ∧ Rep C F (.ref a) d
  | _, _, .nil, _, _, _, _, e => by cases e
  | _, _, .cons g rk rv t, i, k, a, v, e => by
    cases i with
    | zero => cases e; exact ⟨_, rfl, rk⟩
    | succ i => exact repT_get t (i := i) e
theorem sim_keys {tg l : Expr} {m : M B} (ha : SimE cl X l m) : SimI cl X tg l (itKeys m) := fun W tk => PI.imp (pi_keysX (cl := cl) (ha W tk)) fun σ H R ⟨F, ρ, S, h⟩ =>
  tM_bind (R1 := RlB) S h fun x b A F1 H1 ρ1 T1 S1 r1 f1 n1 h1 => by
    obtain ⟨ds, e, q⟩ := tR_end h1
    unfold keysOf at e
    split at e
    · rename_i kvs
      cases e
      cases r1 with
      | ow r =>
        cases r with
        | @dicT xs _ hH rx =>
          rename_i d
          have md : d ∈ [d] := List.mem_cons_self
          refine ⟨d, F1, xs, kvs, rfl, hH, rx, S1.sub, fun o => ?_⟩
          obtain ⟨S2, T2⟩ := hand_lock (o := dkX (cs cl X) d o xs) S1 (f1.nf d md) (f1.no d md) (f1.th d md)
          have rx2 := rx.mono T2.sub
          refine q _ [] _ _ T2 S2 ⟨⟨fun i H' hi s => ⟨s _ _ upd_same, ?_⟩, fun H' s => ⟨s _ _ upd_same, ?_⟩, fun i H' v H'' hi s y => ?_⟩, rfl⟩ Fp.nil New.nil
          · rw [List.length_map] at hi; rw [rx.length]; exact hi
          · rw [List.length_map, rx.length]; exact Nat.le_refl _
          · obtain ⟨rfl, k, a, v', hx, rfl⟩ := y
            obtain ⟨dd, e1, e2⟩ := repT_get rx2 hx
            exact ⟨dd, e1, .inl ⟨rfl, e2⟩⟩
    · cases e
end
/-! ### min(a, b); x.get(k, e) -/
section
variable {cl : Nat → Addr} {X : Cx} {C : Cs} {σ : St} {F H : Hp} {ρ : Env} {A A0 A' : List Addr} {W : WX}
theorem e_min2 {a b : Expr} {p pos : Pos} {ma mb : M B} (hc : X.calm = true) (n : Bn X "min") (ha : SimE cl X a ma) (hb : SimE cl X b mb) (hs : plainE a = true := by rfl) (hs2 : plainE b = true := by rfl) : SimE cl X (.Call (.Name "min" p) [a, b] [] pos) (mMin ma mb) := fun W tk =>
  PE.imp (pe_callB (call_min2 hc) n.gl n.mg (by decide +kernel) (pa_cons (ha W tk) (pa_cons (hb W tk) pa_nil (star_cons hs2)) (star_cons hs)) (by decide) (by decide) (star_cons hs) (star_any (by show (plainE b && true) = true; rw [hs2]; rfl))) fun σ H Q ⟨F, ρ, S, h⟩ =>
    two_bind S h fun x y d e F2 H2 ρ2 S2 v w q => by
      obtain ⟨r, er, q⟩ := tR_end q
      unfold iMin at er
      split at er
      · cases er
        obtain rfl := v.int
        obtain rfl := w.int
        exact ⟨_, _, rfl, q.data S2 (.int _)⟩
      · cases er
theorem e_get2 {i : Nat} {x : Str} {a b : Expr} {ma mb : M B} {p ap cp : Pos} (hN : X.N[i]? = some x) (hv : Vis X.env.scope x) (n : Nm x) (hu : Hu X) (ha : SimE cl X a ma) (hb : SimE cl X b mb)
    (hm : M2 X (.Name x p) "get" ap a b cp) : SimE cl X (.Call (.Attribute (.Name x p) "get" ap) [a, b] [] cp) (mGetN i ma mb) := fun W tk =>
  PE.imp (pe_dget2 (by have : X.A.units + 65 < cLine := hu; omega) (pe_var hN hv n.d n.c) (ha W tk) (hb W tk) hm) fun σ H Q ⟨F, ρ, S, h⟩ => by
    obtain ⟨o, eo, h⟩ := tR_step h fun _ _ => has_pure
    obtain ⟨a, es, ro, fo⟩ := has_of S eo
    obtain ⟨hl, h⟩ := tR_if h
    cases ro with
    | @dicS xs kvs hH rx =>
      refine ⟨.ref a, es, a, rfl, .inl ⟨xs, .inl hH⟩, ?_⟩
      refine one_bind S h fun y k F1 H1 ρ1 S1 v q => ?_
      cases k with
      | str s =>
        obtain ⟨rfl, ot⟩ := v.str
        refine tM_bind (R1 := RlB) S1 q fun z c A F2 H2 ρ2 T2 S2 r2 f2 n2 q => ?_
        obtain ⟨d, F3, S3, rd, sb, q⟩ := kept1 S2 r2 f2 q
        obtain ⟨o, eo, q⟩ := tR_step q fun _ _ => has_pure
        obtain ⟨a', es', ro', fo'⟩ := has_of S3 eo
        rw [es] at es'
        cases es'
        obtain ⟨r, er, q⟩ := tR_end q
        cases ro' with
        | @dicS ys kvs' hH' ry =>
          cases er
          refine ⟨_, DGet.k (k := Sum.inr (mkS s)) hH', ?_⟩
          obtain ⟨g1, g2⟩ := repS_has ry s
          cases hk : lookD kvs' (.str s) with
          | none =>
            rw [hk] at g1 q
            cases hv : valV ys (Sum.inr (mkS s)) with
            | none => exact q.data S3 rd
            | some u => rw [hv] at g1; cases g1
          | some e =>
            obtain ⟨u, e1, e2⟩ := g2 e hk
            rw [hk] at q
            rw [e1]
            exact q.data S3 e2
        | _ => cases er
      | _ => exact tR_stuck q
    | dicT h r => cases hl
    | lst h r => cases hl
    | ins h r => cases hl
end
end WF

set_option Elab.async false
set_option linter.all false
set_option maxRecDepth 100000
set_option maxHeartbeats 4000000
/-! WFY: a, b, c = x, y, z of plain names; what never comes about; join; str. -/
namespace WF
open PySem PySem.Spec PyProof.Rows L2
section
variable {cl : Nat → Addr} {X : Cx} {C : Cs} {σ : St} {F H : Hp} {ρ ρ1 : Env} {A A0 : List Addr} {W : WX}
theorem sim_par3 {i j l : Nat} {x y z : Str} {a b c : Expr} {ms : M (List B)} {px py pz pt pos : Pos} {kt k2 pt2} (hc : X.calm = true) (hN : X.N.Nodup) (hi : X.N[i]? = some x) (hj : X.N[j]? = some y) (hl : X.N[l]? = some z) (hij : i ≠ j) (hil : i ≠ l) (hjl : j ≠ l)
    (hx : X.env.scope.names.lookup x = some .local) (hy : X.env.scope.names.lookup y = some .local) (hz : X.env.scope.names.lookup z = some .local) (ha : SimA cl X [a, b, c] ms)
    (hw : swappedStores [.Tuple [.Name x px, .Name y py, .Name z pz] kt pt] (.Tuple [a, b, c] k2 pt2) X.env = pure (some [x, y, z])) (hs : swapsWithSole [.Tuple [.Name x px, .Name y py, .Name z pz] kt pt] (.Tuple [a, b, c] k2 pt2) pos.line X.env = pure false) :
    SimS cl X (.Assign [.Tuple [.Name x px, .Name y py, .Name z pz] kt pt] (.Tuple [a, b, c] k2 pt2) pos) (sPar [i, j, l] ms) := fun W tk => PS.imp (ps_par3 hc hN hi hj hl hij hil hjl hx hy hz (ha W tk) hw hs) fun D σ H ⟨F, ρ, S, h⟩ => by
    obtain ⟨F0, ρ0, S0, r0⟩ := par_core ⟨F, ρ, S, h⟩
    refine ⟨F0, ρ0, S0, tR_mono r0 fun vs H1 ⟨F1, ρ1, A, sbs, S1, rw1, f1, q⟩ => ?_⟩
    obtain ⟨v, r, rfl, w, r2, rfl, u, r3, rfl, rfl, q⟩ := bindSs_go S1 rw1 f1 q
    exact ⟨v, w, u, rfl, q⟩
/-- what never comes about -/
theorem sim_no {st : Stmt} : SimS cl X st stuck := fun W _ => ⟨fun pins s σ H D I h => by
  obtain ⟨F, ρ, S, r, ρ', e, _⟩ := h
  cases e⟩
theorem joinL_eq (a : Txt) : ∀ ys : List Txt, TL.joinL a ys = joinT a ys
  | [] => rfl
  | [x] => rfl
  | x :: y :: r => by
    show TL.joinL a (x :: y :: r) = x ++ a ++ joinT a (y :: r)
    rw [TL.joinL.eq_3, joinL_eq a (y :: r), List.append_assoc]
theorem join_len (a : Txt) : ∀ ys : List Txt, (ys.map (·.length)).sum + ys.length * a.length ≤ (joinT a ys).length + a.length
  | [] => by simp
  | [x] => by simp [joinT]
  | x :: y :: r => by
    have ih := join_len a (y :: r)
    show _ ≤ (x ++ a ++ joinT a (y :: r)).length + a.length
    rw [List.length_append, List.length_append]
    simp only [List.map_cons, List.sum_cons, List.length_cons, Nat.succ_mul] at ih ⊢
    omega
theorem join_ok {a : Txt} (ha : okT a) : ∀ {ys : List Txt}, (∀ t ∈ ys, okT t) → ∀ c ∈ joinT a ys, c < 0x110000
  | [], _, c, m => nomatch m
  | [x], h, c, m => (h x List.mem_cons_self).1 c m
  | x :: y :: r, h, c, m => by
    have m : c ∈ x ++ a ++ joinT a (y :: r) := m
    rcases List.mem_append.mp m with m | m
    · rcases List.mem_append.mp m with m | m
      · exact (h x List.mem_cons_self).1 c m
      · exact ha.1 c m
    · exact join_ok ha (fun t q => h t (List.mem_cons_of_mem _ q)) c m
theorem strs_in {xs : List V} {ds : List D} (r : Reps C F xs ds) : ∀ {ts : List Txt}, strL ds = some ts → xs = (ts.map mkS).map V.str ∧ ∀ t ∈ ts, okT t := by
  induction ds generalizing xs with
  | nil =>
    intro ts e
    cases e
    cases r
    exact ⟨rfl, fun _ m => nomatch m⟩
  | cons d ds ih =>
    intro ts e
    cases r with
    | cons r1 r2 =>
      unfold strL at e
      split at e
      · rename_i hh; cases hh
      · rename_i s rr hh
        cases hh
        obtain ⟨us, e1, rfl⟩ := Option.map_eq_some_iff.mp e
        obtain ⟨e2, e3⟩ := ih r2 e1
        cases r1 with
        | str _ o =>
          refine ⟨?_, fun t m => ?_⟩
          · rw [e2]; rfl
          · rcases List.mem_cons.mp m with rfl | m
            · exact o
            · exact e3 t m
      · cases e
theorem e_join {o e : Expr} {ap cp : Pos} {mo me : M B} (ho : SimE cl X o mo) (ha : SimE cl X e me) (hs : plainE e = true := by rfl) (hbase : attributeBase o "join" X.env (eval o X.env) = eval o X.env := by rfl) (hline : (ap.endLine == cp.line) = true := by rfl) : SimE cl X (.Call (.Attribute o "join" ap) [e] [] cp) (mJoinS mo me) := fun W tk =>
  PE.imp (pe_m1 F.slot_str_join F.type_str_join mt_join (ho W tk) (ha W tk) (star_cons hs) hbase hline) fun σ H Q ⟨F, ρ, S, h⟩ => by
    refine tM_bind (R1 := RlB) S h fun x b A F1 H1 ρ1 T1 S1 r1 f1 n1 h1 => ?_
    cases b with
    | sh d =>
      cases d with
      | str s =>
        cases r1 with
        | sh r1 =>
          cases r1 with
          | str _ o1 =>
            refine ⟨⟨_, rfl⟩, one_bind S1 h1 fun y e F2 H2 ρ2 S2 w q => ?_⟩
            obtain ⟨b, eb, q⟩ := tR_end q
            unfold iJoin at eb
            split at eb
            · rename_i s' xs es
              cases es
              split at eb
              · rename_i ss hss
                split at eb
                · rename_i hh
                  cases eb
                  obtain ⟨a, vs, rfl, g, r⟩ := w.lst S2.sub
                  obtain ⟨rfl, oks⟩ := strs_in r hss
                  have jl := join_len s ss
                  refine ⟨mkS s, a, ss.map mkS, rfl, rfl, .inl g, ?_, ?_⟩
                  · rw [List.map_map, List.length_map, mkS_len]
                    have : (ss.map ((fun x => x.length) ∘ mkS)) = ss.map (·.length) := List.map_congr_left fun t _ => mkS_len t
                    rw [this]
                    have hh : (joinT s ss).length + s.length ≤ 16777216 := hh
                    omega
                  · have e := SX.join_S s ss
                    rw [joinL_eq] at e
                    have e : Txt.join (mkS s) (ss.map mkS) = mkS (joinT s ss) := e
                    rw [e]
                    exact q.data S2 (.str _ ⟨join_ok o1 oks, by have hh : (joinT s ss).length + s.length ≤ LIM := hh; omega⟩)
                · cases eb
              · cases eb
            · cases eb
      | _ => exact tR_stuck h1
    | _ => exact tR_stuck h1
theorem digs_eq : ∀ i : Nat, i < 1000 → Str.ofString (toString (i : Int)) = mkS (digs 4 i) := by
  have h : (List.range 1000).all (fun i => decide (Str.ofString (toString ((i : Nat) : Int)) = mkS (digs 4 i))) = true := by decide +kernel
  intro i hi
  exact of_decide_eq_true (List.all_eq_true.mp h i (List.mem_range.mpr hi))
theorem digs_ok : ∀ (f n : Nat), (∀ c ∈ digs f n, c < 0x110000) ∧ (digs f n).length ≤ f
  | 0, n => ⟨fun c m => (nomatch m), Nat.le_refl _⟩
  | f + 1, n => by
    unfold digs
    obtain ⟨h1, h2⟩ := digs_ok f (n / 10)
    split
    · refine ⟨fun c m => ?_, by simp⟩
      rw [List.mem_singleton.mp m]; omega
    · refine ⟨fun c m => ?_, by rw [List.length_append, List.length_singleton]; omega⟩
      rcases List.mem_append.mp m with m | m
      · exact h1 c m
      · rw [List.mem_singleton.mp m]; omega
theorem call_strA : CallR X (.type "str") (fun xs H Q => (∃ i, xs = [.int i] ∧ i.natAbs.log2 < 1920 ∧ Q (.str (Str.ofString (toString i))) H) ∨ ∃ a, xs = [.str a] ∧ Q (.str a) H) := by
  intro pins s σ H xs us Q I r h
  rcases h with h | h
  · exact call_str_int pins s σ H xs us Q I r h
  · exact SkE.call_str_str pins s σ H xs us Q I r h
theorem od_str : Od1 C (fun xs H Q => (∃ i, xs = [.int i] ∧ i.natAbs.log2 < 1920 ∧ Q (.str (Str.ofString (toString i))) H) ∨ ∃ a, xs = [.str a] ∧ Q (.str a) H) iStr := by
  intro σ F H ρ A0 x d b Q S v e q
  unfold iStr at e
  split at e
  · rename_i i
    split at e
    · rename_i hh
      cases e
      obtain ⟨h1, h2⟩ := dec_and hh
      obtain ⟨n, rfl⟩ := Int.eq_ofNat_of_zero_le h1
      have hn : n < 1000 := by omega
      refine .inl ⟨_, by rw [v.int], ?_, ?_⟩
      · show n.log2 < 1920
        by_cases h0 : n = 0
        · subst h0; decide
        · exact Nat.lt_of_lt_of_le ((Nat.log2_lt h0).mpr (show n < 2 ^ 10 by omega)) (by decide)
      · rw [digs_eq n hn]
        have e1 : (n : Int).toNat = n := Int.toNat_natCast n
        rw [e1] at q
        exact q.data S (.str _ ⟨(digs_ok 4 n).1, Nat.le_trans (digs_ok 4 n).2 (by decide)⟩)
    · cases e
  · cases e
    obtain ⟨rfl, o⟩ := v.str
    exact .inr ⟨_, rfl, q.data S (.str _ o)⟩
  · cases e
theorem e_str {e : Expr} {p pos : Pos} {m : M B} (b : Bn X "str") (ha : SimE cl X e m) (hs : plainE e = true := by rfl) : SimE cl X (.Call (.Name "str" p) [e] [] pos) (mStr m) :=
  sim_c1 call_strA od_str b.gl b.mg (by decide +kernel) ha (by decide) (by decide) (star_cons hs)
end
end WF

set_option Elab.async false
set_option linter.all false
set_option maxRecDepth 100000
set_option maxHeartbeats 1000000
/-! WFP: how the mirror is reckoned with: one lemma a construct, in plain Lean (core and WFA alone). -/
namespace WF
section
variable {ρ ρ1 ρ2 : Env} {α β : Type}
theorem bind_eq {m : M α} {k : α → M β} {a : α} (h : m ρ = some (.ok a, ρ1)) : bind m k ρ = k a ρ1 := by
  unfold bind
  rw [h]
theorem bind_exc {m : M α} {k : α → M β} {c : Nat} {p : Option (Txt × D)} (h : m ρ = some (.exc c p, ρ1)) : bind m k ρ = some (.exc c p, ρ1) := by
  unfold bind
  rw [h]
/-! statements -/
theorem sIf_eq {t : M Bool} {a b : S} {p : Bool} (h : t ρ = some (.ok p, ρ1)) : sIf t a b ρ = if p then a ρ1 else b ρ1 := by
  unfold sIf
  rw [bind_eq h]
  cases p <;> rfl
theorem sSeq_nx {a b : S} (h : a ρ = some (.ok .nx, ρ1)) : sSeq a b ρ = b ρ1 := by
  unfold sSeq
  rw [bind_eq h]
theorem sSeq_rt {a b : S} {v : B} (h : a ρ = some (.ok (.rt v), ρ1)) : sSeq a b ρ = some (.ok (.rt v), ρ1) := by
  unfold sSeq
  rw [bind_eq h]
  rfl
theorem sSeq_exc {a b : S} {c : Nat} {p : Option (Txt × D)} (h : a ρ = some (.exc c p, ρ1)) : sSeq a b ρ = some (.exc c p, ρ1) := by
  unfold sSeq
  rw [bind_exc h]
theorem sRet_sh {m : M B} {d : D} (h : m ρ = some (.ok (.sh d), ρ1)) : sRet m ρ = some (.ok (.rt (.sh d)), ρ1) := by
  unfold sRet
  rw [bind_eq h]
  rfl
theorem sRet_ow {m : M B} {o : O} (h : m ρ = some (.ok (.ow o), ρ1)) : sRet m ρ = some (.ok (.rt (.ow o)), ρ1) := by
  unfold sRet
  rw [bind_eq h]
  rfl
theorem sDrop_eq {m : M B} {b : B} (h : m ρ = some (.ok b, ρ1)) : sDrop m ρ = some (.ok .nx, ρ1) := by
  unfold sDrop
  rw [bind_eq h]
  rfl
/-- if t: return m, then k -/
theorem guard_eq {t : M Bool} {m : M B} {k : S} {p : Bool} {d : D} (h : t ρ = some (.ok p, ρ1)) (hm : p = true → m ρ1 = some (.ok (.sh d), ρ1)) : sSeq (sIf t (sRet m) sPass) k ρ = if p then some (.ok (.rt (.sh d)), ρ1) else k ρ1 := by
  cases p with
  | true =>
    have := sIf_eq (a := sRet m) (b := sPass) h
    exact sSeq_rt (this.trans (sRet_sh (hm rfl)))
  | false => exact sSeq_nx (sIf_eq (a := sRet m) (b := sPass) h)
theorem guard_no {t : M Bool} {a k : S} (h : t ρ = some (.ok false, ρ1)) : sSeq (sIf t a sPass) k ρ = k ρ1 := sSeq_nx (sIf_eq (a := a) (b := sPass) h)
theorem guard_yes {t : M Bool} {m : M B} {k : S} {d : D} (h : t ρ = some (.ok true, ρ1)) (hm : m ρ1 = some (.ok (.sh d), ρ2)) : sSeq (sIf t (sRet m) sPass) k ρ = some (.ok (.rt (.sh d)), ρ2) :=
  sSeq_rt ((sIf_eq (a := sRet m) (b := sPass) h).trans (sRet_sh hm))
/-! values, tests -/
theorem mAnd_eq {a b : M B} {p : Bool} (h : a ρ = some (.ok (.sh (.bl p)), ρ1)) : mAnd a b ρ = if p then b ρ1 else some (.ok (.sh (.bl false)), ρ1) := by
  unfold mAnd
  rw [bind_eq h]
  cases p <;> rfl
theorem mOr_eq {a b : M B} {p : Bool} (h : a ρ = some (.ok (.sh (.bl p)), ρ1)) : mOr a b ρ = if p then some (.ok (.sh (.bl true)), ρ1) else b ρ1 := by
  unfold mOr
  rw [bind_eq h]
  cases p <;> rfl
theorem mAnd_bl {a b : M B} {p q : Bool} (h : a ρ = some (.ok (.sh (.bl p)), ρ)) (h2 : p = true → b ρ = some (.ok (.sh (.bl q)), ρ)) : mAnd a b ρ = some (.ok (.sh (.bl (p && q))), ρ) := by
  rw [mAnd_eq h]
  cases p with
  | true => rw [if_pos rfl, h2 rfl]; rfl
  | false => rfl
theorem mOr_bl {a b : M B} {p q : Bool} (h : a ρ = some (.ok (.sh (.bl p)), ρ)) (h2 : p = false → b ρ = some (.ok (.sh (.bl q)), ρ)) : mOr a b ρ = some (.ok (.sh (.bl (p || q))), ρ) := by
  rw [mOr_eq h]
  cases p with
  | false => rw [if_neg Bool.false_ne_true, h2 rfl]; rfl
  | true => rfl
theorem mNot_bl {a : M B} {p : Bool} (h : a ρ = some (.ok (.sh (.bl p)), ρ1)) : mNot a ρ = some (.ok (.sh (.bl (!p))), ρ1) := by
  unfold mNot
  rw [bind_eq h]
  rfl
theorem tV_bl {a : M B} {p : Bool} (h : a ρ = some (.ok (.sh (.bl p)), ρ1)) : tV a ρ = some (.ok p, ρ1) := by
  unfold tV
  rw [bind_eq h]
  rfl
theorem tNot_eq {a : M Bool} {p : Bool} (h : a ρ = some (.ok p, ρ1)) : tNot a ρ = some (.ok (!p), ρ1) := by
  unfold tNot
  rw [bind_eq h]
  rfl
theorem tOr_eq {a b : M Bool} {p q : Bool} (h : a ρ = some (.ok p, ρ)) (h2 : p = false → b ρ = some (.ok q, ρ)) : tOr a b ρ = some (.ok (p || q), ρ) := by
  unfold tOr
  rw [bind_eq h]
  cases p with
  | true => rfl
  | false => exact h2 rfl
theorem tAnd_eq {a b : M Bool} {p q : Bool} (h : a ρ = some (.ok p, ρ)) (h2 : p = true → b ρ = some (.ok q, ρ)) : tAnd a b ρ = some (.ok (p && q), ρ) := by
  unfold tAnd
  rw [bind_eq h]
  cases p with
  | true => exact h2 rfl
  | false => rfl
theorem mIf_eq {t : M Bool} {a b : M B} {p : Bool} (h : t ρ = some (.ok p, ρ1)) : mIf t a b ρ = if p then a ρ1 else b ρ1 := by
  unfold mIf
  rw [bind_eq h]
  cases p <;> rfl
theorem mOp_sh {f : D → D → Option B} {a b : M B} {x y : D} {r : B} (ha : a ρ = some (.ok (.sh x), ρ1)) (hb : b ρ1 = some (.ok (.sh y), ρ2)) (h : f x y = some r) : mOp f a b ρ = some (.ok r, ρ2) := by
  unfold mOp
  rw [bind_eq ha, bind_eq hb]
  show lift (f x y) ρ2 = _
  rw [h]
  rfl
theorem mOp_dat {f : D → D → Option B} {a b : M B} {x y : B} {dx dy : D} {r : B} (ha : a ρ = some (.ok x, ρ1)) (hb : b ρ1 = some (.ok y, ρ2)) (hx : x.dat ρ2 = some dx) (hy : y.dat ρ2 = some dy) (h : f dx dy = some r) : mOp f a b ρ = some (.ok r, ρ2) := by
  unfold mOp
  rw [bind_eq ha, bind_eq hb]
  have ex : dat x ρ2 = some (.ok dx, ρ2) := by unfold dat; rw [hx]
  have ey : dat y ρ2 = some (.ok dy, ρ2) := by unfold dat; rw [hy]
  show bind (dat x) (fun d => bind (dat y) fun e => lift (f d e)) ρ2 = _
  rw [bind_eq ex, bind_eq ey]
  show lift (f dx dy) ρ2 = _
  rw [h]
  rfl
theorem mUn_sh {f : D → Option B} {a : M B} {x : D} {r : B} (ha : a ρ = some (.ok (.sh x), ρ1)) (h : f x = some r) : mUn f a ρ = some (.ok r, ρ1) := by
  unfold mUn
  rw [bind_eq ha]
  show lift (f x) ρ1 = _
  rw [h]
  rfl
theorem mP_sh {i : Nat} {d : D} (h : ρ.at i = some (.sh d)) : mP i ρ = some (.ok (.sh d), ρ) := by
  unfold mP
  rw [h]
theorem mV_sh {i : Nat} {d : D} (h : ρ.at i = some (.sh d)) : mV i ρ = some (.ok (.sh d), ρ) := by
  unfold mV
  rw [h]
theorem mMv_sh {i : Nat} {d : D} (h : ρ.at i = some (.sh d)) : mMv i ρ = some (.ok (.sh d), ρ) := by
  unfold mMv
  rw [h]
theorem mIx_sh {a b : M B} {x y z : D} (ha : a ρ = some (.ok (.sh x), ρ1)) (hb : b ρ1 = some (.ok (.sh y), ρ2)) (h : iIx x y = some (.sh z)) : mIx a b ρ = some (.ok (.sh z), ρ2) := by
  unfold mIx
  rw [bind_eq ha, bind_eq hb]
  show lift (iIx x y) ρ2 = _
  rw [h]
  rfl
theorem eq_bl {x y : D} (hx : x.dep ≤ 60) (hy : y.dep ≤ 60) : iEq x y = some (.sh (.bl (D.eqv x y))) := by
  unfold iEq
  rw [if_pos (by simp [hx, hy])]
  rfl
theorem ne_bl {x y : D} (hx : x.dep ≤ 60) (hy : y.dep ≤ 60) : iNe x y = some (.sh (.bl (!D.eqv x y))) := by
  unfold iNe
  rw [if_pos (by simp [hx, hy])]
  rfl
/-! calls with data -/
theorem handL_sh : ∀ ds : List D, handL ρ (ds.map B.sh) = some (ds.map SB.sh)
  | [] => rfl
  | d :: ds => by
    show (match handB ρ (B.sh d), handL ρ (ds.map B.sh) with | some x, some xs => some (x :: xs) | _, _ => none) = _
    rw [handL_sh ds]
    rfl
theorem lent_sh : ∀ ds : List D, lent (ds.map B.sh) = []
  | [] => rfl
  | d :: ds => lent_sh ds
theorem backL_sh : ∀ (ds : List D) (os : Env), backL ρ (ds.map B.sh) os = ρ
  | [], os => by unfold backL; rfl
  | d :: ds, [] => rfl
  | d :: ds, o :: os => backL_sh ds os
theorem callF_sh {f : Fn} {ds : List D} {r : Res B} {os : Env} (h : f (ds.map SB.sh) = some (r, os)) : callF f (ds.map B.sh) ρ = some (r, ρ) := by
  unfold callF
  rw [lent_sh, handL_sh]
  simp only [nodupN, if_true, h, backL_sh]
theorem mCall_sh {f : Fn} {as : M (List B)} {ds : List D} {r : Res B} {os : Env} (ha : as ρ = some (.ok (ds.map B.sh), ρ1)) (h : f (ds.map SB.sh) = some (r, os)) : mCall f as ρ = some (r, ρ1) := by
  unfold mCall
  rw [bind_eq ha]
  exact callF_sh h
theorem mCons_eq {a : M B} {as : M (List B)} {b : B} {bs : List B} (ha : a ρ = some (.ok b, ρ1)) (h : as ρ1 = some (.ok bs, ρ2)) : mCons a as ρ = some (.ok (b :: bs), ρ2) := by
  unfold mCons
  rw [bind_eq ha, bind_eq h]
  rfl
theorem mNil_eq : mNil ρ = some (.ok [], ρ) := rfl
/-- a def whose body returns -/
theorem fn_rt {np n : Nat} {body : S} {args : List SB} {b : B} (hl : args.length = np) (h : body (args.map some ++ List.replicate (n - np) none) = some (.ok (.rt b), ρ)) : mkFn np n body args = some (.ok b, outs np ρ) := by
  unfold mkFn
  rw [if_pos hl, h]
theorem fn_nx {np n : Nat} {body : S} {args : List SB} (hl : args.length = np) (h : body (args.map some ++ List.replicate (n - np) none) = some (.ok .nx, ρ)) : mkFn np n body args = some (.ok (.sh .non), outs np ρ) := by
  unfold mkFn
  rw [if_pos hl, h]
theorem fn_exc {np n : Nat} {body : S} {args : List SB} {c : Nat} {p : Option (Txt × D)} (hl : args.length = np) (h : body (args.map some ++ List.replicate (n - np) none) = some (.exc c p, ρ)) : mkFn np n body args = some (.exc c p, outs np ρ) := by
  unfold mkFn
  rw [if_pos hl, h]
/-! loops -/
theorem forGo_cons {t : Tg} {body : S} {d : D} {ds : List D} (h : putTg ρ t d = some ρ1) : forGo t body (d :: ds) ρ = bind body (fun f => match f with | .nx => forGo t body ds | .ct => forGo t body ds | .bk => ret .nx | .rt b => ret (.rt b)) ρ1 := by
  show (match putTg ρ t d with | none => none | some ρ1 => bind body _ ρ1) = _
  rw [h] <;> rfl
/-- a loop whose turns go on -/
theorem forGo_inv {t : Tg} {body : S} (I : Env → Prop) : ∀ {ds : List D}, (∀ d ∈ ds, ∀ ρ, I ρ → ∃ ρ1 ρ2, putTg ρ t d = some ρ1 ∧ body ρ1 = some (.ok .nx, ρ2) ∧ I ρ2) → ∀ ρ, I ρ → ∃ ρ', forGo t body ds ρ = some (.ok .nx, ρ') ∧ I ρ'
  | [], _, ρ, h => ⟨ρ, rfl, h⟩
  | d :: ds, st, ρ, h => by
    obtain ⟨ρ1, ρ2, e1, e2, h2⟩ := st d List.mem_cons_self ρ h
    obtain ⟨ρ', e3, h3⟩ := forGo_inv I (fun d m => st d (List.mem_cons_of_mem _ m)) ρ2 h2
    refine ⟨ρ', ?_, h3⟩
    rw [forGo_cons e1, bind_eq e2]
    exact e3
/-- the same by place -/
theorem forGo_at {t : Tg} {body : S} (I : Nat → Env → Prop) : ∀ {ds : List D} (i : Nat), (∀ (j : Nat) d, ds[j]? = some d → ∀ ρ, I (i + j) ρ → ∃ ρ1 ρ2, putTg ρ t d = some ρ1 ∧ body ρ1 = some (.ok .nx, ρ2) ∧ I (i + j + 1) ρ2) → ∀ ρ, I i ρ → ∃ ρ', forGo t body ds ρ = some (.ok .nx, ρ') ∧ I (i + ds.length) ρ'
  | [], i, _, ρ, h => ⟨ρ, rfl, h⟩
  | d :: ds, i, st, ρ, h => by
    obtain ⟨ρ1, ρ2, e1, e2, h2⟩ := st 0 d rfl ρ h
    obtain ⟨ρ', e3, h3⟩ := forGo_at I (ds := ds) (i + 1) (fun j d e ρ hI => by
      have := st (j + 1) d (by simpa using e) ρ (by rw [show i + (j + 1) = i + 1 + j by omega]; exact hI)
      rw [show i + (j + 1) + 1 = i + 1 + j + 1 by omega] at this
      exact this) ρ2 h2
    refine ⟨ρ', ?_, by rw [List.length_cons, show i + (ds.length + 1) = i + 1 + ds.length by omega]; exact h3⟩
    rw [forGo_cons e1, bind_eq e2]
    exact e3
/-- a comprehension whose turns leave the other names as they are: some items, by g -/
theorem compGo_map {t : Tg} {c : M Bool} {e : M B} (I : Env → Prop) (g : D → Option D) : ∀ {ds : List D}, (∀ d ∈ ds, ∀ ρ, I ρ → ∃ ρ1 ρ2, putTg (clr ρ t.slots) t d = some ρ1 ∧ I ρ2 ∧ ((g d = none ∧ c ρ1 = some (.ok false, ρ2)) ∨ ∃ x ρ3 b, g d = some x ∧ c ρ1 = some (.ok true, ρ3) ∧ e ρ3 = some (.ok b, ρ2) ∧ noPl b = true ∧ b.dat ρ2 = some x)) →
    ∀ acc ρ, I ρ → ∃ ρ', compGo t c e ds acc ρ = some (.ok (acc ++ ds.filterMap g), ρ') ∧ I ρ'
  | [], _, acc, ρ, h => ⟨ρ, by rw [List.filterMap_nil, List.append_nil]; rfl, h⟩
  | d :: ds, st, acc, ρ, h => by
    obtain ⟨ρ1, ρ2, e1, h2, q⟩ := st d List.mem_cons_self ρ h
    have u : compGo t c e (d :: ds) acc ρ = bind c (fun k => if k then bind e fun x => bind (kept [x]) fun v => compGo t c e ds (acc ++ v) else compGo t c e ds acc) ρ1 := by
      show (match putTg (clr ρ t.slots) t d with | none => none | some ρ1 => bind c _ ρ1) = _
      rw [e1]
    rw [u]
    rcases q with ⟨g0, ec⟩ | ⟨x, ρ3, b, g1, ec, ee, nb, ed⟩
    · obtain ⟨ρ', e3, h3⟩ := compGo_map I g (fun d m => st d (List.mem_cons_of_mem _ m)) acc ρ2 h2
      refine ⟨ρ', ?_, h3⟩
      rw [bind_eq ec, List.filterMap_cons_none g0]
      exact e3
    · obtain ⟨ρ', e3, h3⟩ := compGo_map I g (fun d m => st d (List.mem_cons_of_mem _ m)) (acc ++ [x]) ρ2 h2
      refine ⟨ρ', ?_, h3⟩
      have ek : kept [b] ρ2 = some (.ok [x], ρ2) := by
        unfold kept
        rw [if_pos (by simp [nb])]
        show (match datsL ρ2 [b] with | none => none | some ds => some (Res.ok ds, ρ2)) = _
        have : datsL ρ2 [b] = some [x] := by
          show (match b.dat ρ2, datsL ρ2 [] with | some d, some ds => some (d :: ds) | _, _ => none) = _
          rw [ed]
          rfl
        rw [this]
      rw [bind_eq ec, List.filterMap_cons_some g1]
      show bind e (fun x => bind (kept [x]) fun v => compGo t c e ds (acc ++ v)) ρ3 = _
      rw [bind_eq ee, bind_eq ek, e3, List.append_assoc]
      rfl
/-- a comprehension over one name, its turns pure -/
theorem set_self {i : Nat} (h : ρ.at i = none) : ρ.set i none = ρ := by
  apply List.ext_getElem?
  intro j
  by_cases e : i = j
  · subst e
    by_cases hl : i < ρ.length
    · rw [List.getElem?_set_self hl]
      have h' : ρ.getD i none = none := h
      rw [List.getD_eq_getElem?_getD, List.getElem?_eq_getElem hl] at h'
      rw [List.getElem?_eq_getElem hl]
      exact congrArg some (by simpa using h'.symm)
    · rw [List.getElem?_eq_none (by simp; omega), List.getElem?_eq_none (by omega)]
  · rw [List.getElem?_set_ne e]
theorem at_set_self {i : Nat} {o : Option SB} (h : i < ρ.length) : Env.at (ρ.set i o) i = o := by
  show (ρ.set i o).getD i none = o
  rw [List.getD_eq_getElem?_getD, List.getElem?_set_self h]
  rfl
theorem mComp_pure {ρ0 : Env} {i : Nat} {it : M (List D)} {c : M Bool} {e : M B} {ds : List D} (g : D → Option D) (hit : it ρ0 = some (.ok ds, ρ)) (hi : i < ρ.length) (h0 : ρ.at i = none) (hz : ds.length ≤ LIM)
    (st : ∀ d ∈ ds, (g d = none ∧ c (ρ.set i (some (.sh d))) = some (.ok false, ρ.set i (some (.sh d)))) ∨ ∃ x, g d = some x ∧ c (ρ.set i (some (.sh d))) = some (.ok true, ρ.set i (some (.sh d))) ∧ e (ρ.set i (some (.sh d))) = some (.ok (.sh x), ρ.set i (some (.sh d)))) :
    mComp (.one i) it c e ρ0 = some (.ok (.ow (.lst (ds.filterMap g))), ρ) := by
  have cl : ∀ o : Option SB, clr (ρ.set i o) [i] = ρ := fun o => by
    show (ρ.set i o).set i none = ρ
    rw [List.set_set]
    exact set_self h0
  obtain ⟨ρ', e1, o, e2⟩ := compGo_map (t := .one i) (c := c) (e := e) (fun ρ' => ∃ o, ρ' = ρ.set i o) g (ds := ds) (fun d m ρ1 ⟨o, h⟩ => by
    subst h
    refine ⟨ρ.set i (some (.sh d)), ρ.set i (some (.sh d)), ?_, ⟨_, rfl⟩, ?_⟩
    · show putS (clr (ρ.set i o) [i]) i (.sh d) = _
      rw [cl]
      unfold putS
      rw [if_pos hi, h0]
    · rcases st d m with ⟨a, b⟩ | ⟨x, a, b, f⟩
      · exact .inl ⟨a, b⟩
      · exact .inr ⟨x, _, .sh x, a, b, f, rfl, rfl⟩) [] ρ ⟨none, (set_self h0).symm⟩
  unfold mComp
  rw [bind_eq hit]
  have fr : free ρ (Tg.one i).slots = true := by
    show (([i] : List Nat).all fun i => match ρ.at i with | none => decide (i < ρ.length) | some (.sh _) => true | some _ => false) = true
    simp [h0, hi]
  have ne : noExc (compGo (.one i) c e ds []) ρ = some (.ok (ds.filterMap g), ρ') := by
    unfold noExc
    rw [e1]
    rfl
  have hz' : (ds.filterMap g).length ≤ LIM := Nat.le_trans (List.length_filterMap_le _ _) hz
  show (if free ρ (Tg.one i).slots then match noExc (compGo (.one i) c e ds []) ρ with
      | some (.ok vs, ρ1) => if vs.length ≤ LIM then some (Res.ok (B.ow (.lst vs)), back ρ ρ1 (Tg.one i).slots) else none
      | _ => none else none) = _
  rw [fr, ne]
  show (if (ds.filterMap g).length ≤ LIM then some (Res.ok (B.ow (.lst (ds.filterMap g))), back ρ ρ' [i]) else none) = _
  rw [if_pos hz']
  have : back ρ ρ' [i] = ρ := by
    show ρ'.set i (ρ.at i) = ρ
    rw [h0, e2, List.set_set]
    exact set_self h0
  rw [this]
theorem items_sh {m : M B} {d : D} {ds : List D} (h : m ρ = some (.ok (.sh d), ρ1)) (e : dItems d = some ds) : items m ρ = some (.ok ds, ρ1) := by
  unfold items
  rw [bind_eq h]
  show bind (kept [B.sh d]) _ ρ1 = _
  rw [bind_eq (m := kept [B.sh d]) (a := [d]) (ρ1 := ρ1) rfl]
  show lift (dItems d) ρ1 = _
  rw [e]
  rfl
theorem bools_map {p : D → Bool} : ∀ ds : List D, bools (ds.map fun d => .bl (p d)) = some (ds.map p)
  | [] => rfl
  | d :: ds => by
    show (bools (ds.map fun d => .bl (p d))).map (fun bs => p d :: bs) = _
    rw [bools_map ds]
    rfl
theorem filterMap_some {g : D → D} : ∀ ds : List D, ds.filterMap (fun d => some (g d)) = ds.map g
  | [] => rfl
  | d :: ds => by
    rw [List.filterMap_cons_some (f := fun d => some (g d)) (b := g d) rfl, filterMap_some ds]
    rfl
theorem all_ow {m : M B} {ds : List D} {p : D → Bool} (h : m ρ = some (.ok (.ow (.lst (ds.map fun d => .bl (p d)))), ρ1)) : mAll m ρ = some (.ok (.sh (.bl (ds.all p))), ρ1) := by
  unfold mAll mUn
  rw [bind_eq h]
  show lift (iAll (.lst (ds.map fun d => .bl (p d)))) ρ1 = _
  unfold iAll
  simp only [bools_map]
  show some (Res.ok (boo ((ds.map p).all id)), ρ1) = _
  rw [List.all_map]
  rfl
theorem sSeq_assoc (a b c : S) : sSeq (sSeq a b) c ρ = sSeq a (sSeq b c) ρ := by
  unfold sSeq
  unfold bind
  cases h : a ρ with
  | none => rfl
  | some q =>
    obtain ⟨r, ρ1⟩ := q
    cases r with
    | exc c p => rfl
    | ok f => cases f <;> rfl
theorem sSet_ow {i : Nat} {m : M B} {o : O} (h : m ρ = some (.ok (.ow o), ρ1)) (p : putS ρ1 i (.ow o) = some ρ2) : sSet i m ρ = some (.ok .nx, ρ2) := by
  unfold sSet
  rw [bind_eq h]
  show bind (ret (SB.ow o)) (fun b => bindS i b) ρ1 = _
  rw [bind_eq (m := ret (SB.ow o)) (a := SB.ow o) (ρ1 := ρ1) rfl]
  unfold bindS
  rw [p]
theorem sSet_sh {i : Nat} {m : M B} {d : D} (h : m ρ = some (.ok (.sh d), ρ1)) (p : putS ρ1 i (.sh d) = some ρ2) : sSet i m ρ = some (.ok .nx, ρ2) := by
  unfold sSet
  rw [bind_eq h]
  show bind (ret (SB.sh d)) (fun b => bindS i b) ρ1 = _
  rw [bind_eq (m := ret (SB.sh d)) (a := SB.sh d) (ρ1 := ρ1) rfl]
  unfold bindS
  rw [p]
theorem mLst_eq {es : M (List B)} {bs : List B} {ds : List D} (h : es ρ = some (.ok bs, ρ1)) (f : few bs = true) (k : kept bs ρ1 = some (.ok ds, ρ1)) : mLst es ρ = some (.ok (.ow (.lst ds)), ρ1) := by
  unfold mLst
  rw [bind_eq h, f]
  show bind (kept bs) (fun ds => ret (B.ow (.lst ds))) ρ1 = _
  rw [bind_eq k]
  rfl
theorem mTup_eq {es : M (List B)} {bs : List B} {ds : List D} (h : es ρ = some (.ok bs, ρ1)) (f : few bs = true) (k : kept bs ρ1 = some (.ok ds, ρ1)) : mTup es ρ = some (.ok (.sh (.tup ds)), ρ1) := by
  unfold mTup
  rw [bind_eq h, f]
  show bind (kept bs) (fun ds => ret (B.sh (.tup ds))) ρ1 = _
  rw [bind_eq k]
  rfl
end
end WF

set_option Elab.async false
set_option linter.all false
set_option maxRecDepth 100000
set_option maxHeartbeats 1000000
/-! WFV: the mirror reckoned by simp, construct by construct: K runs m and goes on; what comes behind is kept in named frames (simp does not look into them). Core Lean and WFA alone. -/
namespace WF
section
variable {α β γ : Type}
abbrev Ct (α β : Type) := α → Env → Option β
abbrev Ex (β : Type) := Nat → Option (Txt × D) → Env → Option β
/-- run m, then go on -/
def K (m : M α) (ρ : Env) (k : Ct α β) (e : Ex β) : Option β :=
  match m ρ with
  | none => none
  | some (.ok a, ρ1) => k a ρ1
  | some (.exc c p, ρ1) => e c p ρ1
def KO (o : Option α) (k : Ct α β) (ρ : Env) : Option β := match o with | none => none | some a => k a ρ
def KE (o : Option Env) (k : Env → Option β) : Option β := match o with | none => none | some ρ => k ρ
def noX : Ex β := fun _ _ _ => none
variable {ρ ρ1 : Env} {k : Ct α β} {e : Ex β}
theorem KO_some {a : α} : KO (some a) k ρ = k a ρ := rfl
theorem KO_none : KO none k ρ = none := rfl
theorem KO_ite {c : Prop} [Decidable c] {a b : Option α} : KO (if c then a else b) k ρ = if c then KO a k ρ else KO b k ρ := by split <;> rfl
theorem KE_some {k : Env → Option β} : KE (some ρ) k = k ρ := rfl
theorem KE_none {k : Env → Option β} : KE none k = none := rfl
theorem KE_ite {c : Prop} [Decidable c] {a b : Option Env} {k : Env → Option β} : KE (if c then a else b) k = if c then KE a k else KE b k := by split <;> rfl
theorem K_eq {m : M α} {a : α} (h : m ρ = some (.ok a, ρ1)) : K m ρ k e = k a ρ1 := by unfold K; rw [h]
theorem K_exc {m : M α} {c p} (h : m ρ = some (.exc c p, ρ1)) : K m ρ k e = e c p ρ1 := by unfold K; rw [h]
theorem K_ret {a : α} : K (ret a) ρ k e = k a ρ := rfl
theorem K_stuck : K (stuck) ρ k e = none := rfl
theorem K_bind {m : M γ} {f : γ → M α} : K (bind m f) ρ k e = K m ρ (fun a ρ1 => K (f a) ρ1 k e) e := by
  unfold K bind
  cases m ρ with
  | none => rfl
  | some q => obtain ⟨r, ρ1⟩ := q; cases r <;> rfl
theorem K_lift {o : Option α} : K (lift o) ρ k e = KO o k ρ := by cases o <;> rfl
theorem K_noExc {m : M α} : K (noExc m) ρ k e = K m ρ k noX := by
  unfold K noExc
  cases m ρ with
  | none => rfl
  | some q => obtain ⟨r, ρ1⟩ := q; cases r <;> rfl
/-- from the equation to K and back -/
def kId : Ct α (Res α × Env) := fun a ρ => some (.ok a, ρ)
def eId : Ex (Res α × Env) := fun c p ρ => some (.exc c p, ρ)
theorem K_id {m : M α} : m ρ = K m ρ kId eId := by
  unfold K
  cases m ρ with
  | none => rfl
  | some q => obtain ⟨r, ρ1⟩ := q; cases r <;> rfl
theorem kId_eq {a : α} : kId a ρ = some (.ok a, ρ) := rfl
theorem eId_eq {c p} : (eId : Ex (Res α × Env)) c p ρ = some (.exc c p, ρ) := rfl
def un1 (f : D → Option α) (o : Option D) : Option α := o.bind f
theorem un1_some {f : D → Option α} {d : D} : un1 f (some d) = f d := rfl
def op2 (f : D → D → Option α) (x y : Option D) : Option α := x.bind fun d => y.bind fun g => f d g
theorem op2_some {f : D → D → Option α} {d g : D} : op2 f (some d) (some g) = f d g := rfl
theorem K_if {c : Bool} {a b : M α} : K (if c = true then a else b) ρ k e = if c = true then K a ρ k e else K b ρ k e := by cases c <;> rfl
end
section
variable {β : Type} {ρ ρ1 : Env} {e : Ex β} {k : Ct B β} {ks : Ct (List B) β} {kb : Ct Bool β} {kd : Ct (List D) β} {kf : Ct Fl β}
/-! data -/
theorem K_dat {b : B} {k : Ct D β} : K (dat b) ρ k e = KO (b.dat ρ) k ρ := by
  unfold K dat KO
  cases b.dat ρ <;> rfl
theorem dat_sh {d : D} : (B.sh d).dat ρ = some d := rfl
theorem dat_ow {o : O} : (B.ow o).dat ρ = o.toD := rfl
theorem dat_pl {i : Nat} : (B.pl i).dat ρ = (ρ.at i).bind SB.toD := by
  show (match ρ.at i with | some b => b.toD | none => none) = _
  cases ρ.at i <;> rfl
theorem dat_tp {bs : List SB} : (B.tp bs).dat ρ = (sbsD bs).map D.tup := by
  show (match sbsD bs with | some ds => some (D.tup ds) | none => none) = _
  cases sbsD bs <;> rfl
theorem sbsD_nil : sbsD [] = some [] := rfl
theorem sbsD_cons {b : SB} {r : List SB} : sbsD (b :: r) = b.toD.bind fun d => (sbsD r).map fun ds => d :: ds := by
  show (match b.toD, sbsD r with | some d, some ds => some (d :: ds) | _, _ => none) = _
  cases b.toD <;> cases sbsD r <;> rfl
theorem toD_sh {d : D} : (SB.sh d).toD = some d := rfl
theorem toD_ow {o : O} : (SB.ow o).toD = o.toD := rfl
theorem toD_io {o : O} : (SB.io o).toD = o.toD := rfl
theorem toD_lst {xs : List D} : (O.lst xs).toD = some (.lst xs) := rfl
theorem toD_dic {t : Bool} {xs : List (D × D)} : (O.dic t xs).toD = some (.dic t xs) := rfl
theorem at_zero {x : Option SB} {r : Env} : Env.at (x :: r) 0 = x := rfl
theorem at_succ {x : Option SB} {r : Env} {n : Nat} : Env.at (x :: r) (n + 1) = Env.at r n := rfl
def kV (i : Nat) (k : Ct B β) : Ct SB β := fun s ρ => match s with
  | .sh d => k (.sh d) ρ
  | .ow o => match o.toD with | some d => k (.sh d) (ρ.set i (some (.sh d))) | none => none
  | .io _ => none
theorem kV_sh {i : Nat} {d : D} : kV i k (.sh d) ρ = k (.sh d) ρ := rfl
theorem kV_lst {i : Nat} {xs : List D} : kV i k (.ow (.lst xs)) ρ = k (.sh (.lst xs)) (ρ.set i (some (.sh (.lst xs)))) := rfl
theorem kV_dic {i : Nat} {t : Bool} {xs : List (D × D)} : kV i k (.ow (.dic t xs)) ρ = k (.sh (.dic t xs)) (ρ.set i (some (.sh (.dic t xs)))) := rfl
theorem K_mV {i : Nat} : K (mV i) ρ k e = KO (ρ.at i) (kV i k) ρ := by
  unfold K mV
  cases ρ.at i with
  | none => rfl
  | some b => cases b with
    | ow o => cases o <;> rfl
    | _ => rfl
def kP (i : Nat) (k : Ct B β) : Ct SB β := fun s ρ => match s with
  | .sh d => k (.sh d) ρ
  | .ow _ => k (.pl i) ρ
  | .io _ => k (.pl i) ρ
theorem kP_sh {i : Nat} {d : D} : kP i k (.sh d) ρ = k (.sh d) ρ := rfl
theorem kP_ow {i : Nat} {o : O} : kP i k (.ow o) ρ = k (.pl i) ρ := rfl
theorem kP_io {i : Nat} {o : O} : kP i k (.io o) ρ = k (.pl i) ρ := rfl
theorem K_mP {i : Nat} : K (mP i) ρ k e = KO (ρ.at i) (kP i k) ρ := by
  unfold K mP
  cases ρ.at i with
  | none => rfl
  | some b => cases b <;> rfl
def kM (i : Nat) (k : Ct B β) : Ct SB β := fun s ρ => match s with
  | .sh d => k (.sh d) ρ
  | .ow o => k (.ow o) (ρ.set i none)
  | .io _ => none
theorem kM_sh {i : Nat} {d : D} : kM i k (.sh d) ρ = k (.sh d) ρ := rfl
theorem kM_ow {i : Nat} {o : O} : kM i k (.ow o) ρ = k (.ow o) (ρ.set i none) := rfl
theorem K_mMv {i : Nat} : K (mMv i) ρ k e = KO (ρ.at i) (kM i k) ρ := by
  unfold K mMv
  cases ρ.at i with
  | none => rfl
  | some b => cases b <;> rfl
theorem K_mK {d : D} : K (mK d) ρ k e = k (.sh d) ρ := rfl
/-! operators -/
def kOp2 (f : D → D → Option B) (x : B) (k : Ct B β) : Ct B β := fun y ρ => KO (op2 f (x.dat ρ) (y.dat ρ)) k ρ
theorem kOp2_eq {f : D → D → Option B} {x y : B} : kOp2 f x k y ρ = KO (op2 f (x.dat ρ) (y.dat ρ)) k ρ := rfl
def kOp1 (f : D → D → Option B) (b : M B) (k : Ct B β) (e : Ex β) : Ct B β := fun x ρ => K b ρ (kOp2 f x k) e
theorem kOp1_eq {f : D → D → Option B} {b : M B} {x : B} : kOp1 f b k e x ρ = K b ρ (kOp2 f x k) e := rfl
theorem K_mOp {f : D → D → Option B} {a b : M B} : K (mOp f a b) ρ k e = K a ρ (kOp1 f b k e) e := by
  unfold mOp
  simp only [K_bind]
  congr 1; funext x ρ1
  show K b ρ1 _ e = K b ρ1 _ e
  congr 1; funext y ρ2
  simp only [K_dat, kOp2]
  cases x.dat ρ2 with
  | none => rfl
  | some d =>
    show KO (y.dat ρ2) (fun a ρ1 => K (lift (f d a)) ρ1 k e) ρ2 = _
    cases y.dat ρ2 with
    | none => rfl
    | some g => exact K_lift
def kUn (f : D → Option B) (k : Ct B β) : Ct B β := fun x ρ => KO (un1 f (x.dat ρ)) k ρ
theorem kUn_eq {f : D → Option B} {x : B} : kUn f k x ρ = KO (un1 f (x.dat ρ)) k ρ := rfl
theorem K_mUn {f : D → Option B} {a : M B} : K (mUn f a) ρ k e = K a ρ (kUn f k) e := by
  unfold mUn
  simp only [K_bind]
  congr 1; funext x ρ1
  simp only [K_dat, kUn]
  cases x.dat ρ1 with
  | none => rfl
  | some d => exact K_lift
theorem K_mNeg {a : M B} : K (mNeg a) ρ k e = K a ρ (kUn iNeg k) e := K_mUn
def isNB (d : D) : Option B := some (.sh (.bl d.isNon))
def notNB (d : D) : Option B := some (.sh (.bl (!d.isNon)))
theorem isNB_eq {d : D} : isNB d = some (.sh (.bl d.isNon)) := rfl
theorem notNB_eq {d : D} : notNB d = some (.sh (.bl (!d.isNon))) := rfl
theorem K_mIsN {a : M B} : K (mIsN a) ρ k e = K a ρ (kUn isNB k) e := by
  unfold mIsN
  simp only [K_bind]
  congr 1; funext x ρ1
  simp only [K_dat, kUn]
  cases x.dat ρ1 <;> rfl
theorem K_mNotN {a : M B} : K (mNotN a) ρ k e = K a ρ (kUn notNB k) e := by
  unfold mNotN
  simp only [K_bind]
  congr 1; funext x ρ1
  simp only [K_dat, kUn]
  cases x.dat ρ1 <;> rfl
def bitB : B → Option Bool
  | .sh (.bl b) => some b
  | _ => none
def lele (d g : D) : Option (Bool × D) := (iLe d g).bind fun r => (bitB r).map fun q => (q, g)
theorem lele_int {a b : Int} : lele (.int a) (.int b) = some (decide (a ≤ b), .int b) := rfl
def kLL3 (c : M B) (k : Ct B β) (e : Ex β) : Ct (Bool × D) β := fun q ρ => if q.1 = true then K c ρ (kOp2 iLe (.sh q.2) k) e else k (.sh (.bl false)) ρ
theorem kLL3_eq {c : M B} {q : Bool} {g : D} : kLL3 c k e (q, g) ρ = if q = true then K c ρ (kOp2 iLe (.sh g) k) e else k (.sh (.bl false)) ρ := rfl
def kLL2 (x : B) (c : M B) (k : Ct B β) (e : Ex β) : Ct B β := fun y ρ => KO (op2 lele (x.dat ρ) (y.dat ρ)) (kLL3 c k e) ρ
theorem kLL2_eq {x y : B} {c : M B} : kLL2 x c k e y ρ = KO (op2 lele (x.dat ρ) (y.dat ρ)) (kLL3 c k e) ρ := rfl
def kLL1 (b c : M B) (k : Ct B β) (e : Ex β) : Ct B β := fun x ρ => K b ρ (kLL2 x c k e) e
theorem kLL1_eq {b c : M B} {x : B} : kLL1 b c k e x ρ = K b ρ (kLL2 x c k e) e := rfl
theorem K_mLeLe {a b c : M B} : K (mLeLe a b c) ρ k e = K a ρ (kLL1 b c k e) e := by
  unfold mLeLe
  simp only [K_bind]
  congr 1; funext x ρ1
  show K b ρ1 _ e = K b ρ1 _ e
  congr 1; funext y ρ2
  simp only [K_dat, kLL2, K_lift, KO]
  cases x.dat ρ2 with
  | none => rfl
  | some d =>
    dsimp only
    cases y.dat ρ2 with
    | none => rfl
    | some g =>
      dsimp only [op2, Option.bind_some]
      unfold lele
      cases iLe d g with
      | none => rfl
      | some r =>
        rcases r with d | o | i | bs
        · cases d with
          | bl b =>
            cases b with
            | true =>
              show K (bind c _) ρ2 k e = K c ρ2 _ e
              simp only [K_bind]
              congr 1; funext z ρ3
              simp only [K_dat, kOp2]
              cases z.dat ρ3 with
              | none => rfl
              | some h => exact K_lift
            | false => rfl
          | _ => rfl
        · rfl
        · rfl
        · rfl
/-! tests -/
def kTV (kb : Ct Bool β) : Ct B β := fun x ρ => KO (un1 D.tru (x.dat ρ)) kb ρ
theorem kTV_eq {x : B} : kTV kb x ρ = KO (un1 D.tru (x.dat ρ)) kb ρ := rfl
theorem K_tV {a : M B} : K (tV a) ρ kb e = K a ρ (kTV kb) e := by
  unfold tV
  simp only [K_bind]
  congr 1; funext x ρ1
  simp only [K_dat, kTV]
  cases x.dat ρ1 with
  | none => rfl
  | some d => exact K_lift
def kTA (b : M Bool) (kb : Ct Bool β) (e : Ex β) : Ct Bool β := fun c ρ => if c = true then K b ρ kb e else kb false ρ
theorem kTA_eq {b : M Bool} {c : Bool} : kTA b kb e c ρ = if c = true then K b ρ kb e else kb false ρ := rfl
theorem K_tAnd {a b : M Bool} : K (tAnd a b) ρ kb e = K a ρ (kTA b kb e) e := by
  unfold tAnd
  simp only [K_bind, K_if, K_ret]
  rfl
def kTO (b : M Bool) (kb : Ct Bool β) (e : Ex β) : Ct Bool β := fun c ρ => if c = true then kb true ρ else K b ρ kb e
theorem kTO_eq {b : M Bool} {c : Bool} : kTO b kb e c ρ = if c = true then kb true ρ else K b ρ kb e := rfl
theorem K_tOr {a b : M Bool} : K (tOr a b) ρ kb e = K a ρ (kTO b kb e) e := by
  unfold tOr
  simp only [K_bind, K_if, K_ret]
  rfl
def kTN (kb : Ct Bool β) : Ct Bool β := fun c ρ => kb (!c) ρ
theorem kTN_eq {c : Bool} : kTN kb c ρ = kb (!c) ρ := rfl
theorem K_tNot {a : M Bool} : K (tNot a) ρ kb e = K a ρ (kTN kb) e := by
  unfold tNot
  simp only [K_bind, K_ret]
  rfl
theorem K_yes : K yes ρ kb e = kb true ρ := rfl
def kMA2 (b : M B) (k : Ct B β) (e : Ex β) : Ct Bool β := fun c ρ => if c = true then K b ρ k e else k (.sh (.bl false)) ρ
theorem kMA2_eq {b : M B} {c : Bool} : kMA2 b k e c ρ = if c = true then K b ρ k e else k (.sh (.bl false)) ρ := rfl
def kMA1 (b : M B) (k : Ct B β) (e : Ex β) : Ct B β := fun x ρ => KO (un1 D.boolV (x.dat ρ)) (kMA2 b k e) ρ
theorem kMA1_eq {b : M B} {x : B} : kMA1 b k e x ρ = KO (un1 D.boolV (x.dat ρ)) (kMA2 b k e) ρ := rfl
theorem K_mAnd {a b : M B} : K (mAnd a b) ρ k e = K a ρ (kMA1 b k e) e := by
  unfold mAnd
  simp only [K_bind, K_dat, K_lift, K_if, K_ret, boo]
  congr 1; funext x ρ1
  unfold kMA1
  cases x.dat ρ1 <;> rfl
def kMO2 (b : M B) (k : Ct B β) (e : Ex β) : Ct Bool β := fun c ρ => if c = true then k (.sh (.bl true)) ρ else K b ρ k e
theorem kMO2_eq {b : M B} {c : Bool} : kMO2 b k e c ρ = if c = true then k (.sh (.bl true)) ρ else K b ρ k e := rfl
def kMO1 (b : M B) (k : Ct B β) (e : Ex β) : Ct B β := fun x ρ => KO (un1 D.boolV (x.dat ρ)) (kMO2 b k e) ρ
theorem kMO1_eq {b : M B} {x : B} : kMO1 b k e x ρ = KO (un1 D.boolV (x.dat ρ)) (kMO2 b k e) ρ := rfl
theorem K_mOr {a b : M B} : K (mOr a b) ρ k e = K a ρ (kMO1 b k e) e := by
  unfold mOr
  simp only [K_bind, K_dat, K_lift, K_if, K_ret, boo]
  congr 1; funext x ρ1
  unfold kMO1
  cases x.dat ρ1 <;> rfl
def notB (d : D) : Option B := d.boolV.map fun c => .sh (.bl (!c))
theorem notB_bl {b : Bool} : notB (.bl b) = some (.sh (.bl (!b))) := rfl
theorem K_mNot {a : M B} : K (mNot a) ρ k e = K a ρ (kUn notB k) e := by
  unfold mNot
  simp only [K_bind, K_dat, K_lift, K_ret, boo]
  congr 1; funext x ρ1
  unfold kUn
  cases x.dat ρ1 with
  | none => rfl
  | some d =>
    show KO d.boolV _ ρ1 = KO (d.boolV.map _) k ρ1
    cases d.boolV <;> rfl
def kIf {α : Type} (a b : M α) (k : Ct α β) (e : Ex β) : Ct Bool β := fun c ρ => if c = true then K a ρ k e else K b ρ k e
theorem kIf_eq {α : Type} {a b : M α} {k : Ct α β} {c : Bool} : kIf a b k e c ρ = if c = true then K a ρ k e else K b ρ k e := rfl
theorem K_mIf {t : M Bool} {a b : M B} : K (mIf t a b) ρ k e = K t ρ (kIf a b k e) e := by
  unfold mIf
  simp only [K_bind, K_if]
  rfl
theorem boolV_bl {b : Bool} : (D.bl b).boolV = some b := rfl
theorem tru_bl {b : Bool} : (D.bl b).tru = some b := rfl
theorem tru_non : D.non.tru = some false := rfl
theorem tru_int {i : Int} : (D.int i).tru = some (i != 0) := rfl
theorem tru_str {s : Txt} : (D.str s).tru = some (!s.isEmpty) := rfl
theorem tru_tup {s : List D} : (D.tup s).tru = some (!s.isEmpty) := rfl
theorem tru_lst {s : List D} : (D.lst s).tru = some (!s.isEmpty) := rfl
/-! displays -/
theorem K_mNil : K mNil ρ ks e = ks [] ρ := rfl
def kC2 (x : B) (ks : Ct (List B) β) : Ct (List B) β := fun xs ρ => ks (x :: xs) ρ
theorem kC2_eq {x : B} {xs : List B} : kC2 x ks xs ρ = ks (x :: xs) ρ := rfl
def kC1 (r : M (List B)) (ks : Ct (List B) β) (e : Ex β) : Ct B β := fun x ρ => K r ρ (kC2 x ks) e
theorem kC1_eq {r : M (List B)} {x : B} : kC1 r ks e x ρ = K r ρ (kC2 x ks) e := rfl
theorem K_mCons {a : M B} {r : M (List B)} : K (mCons a r) ρ ks e = K a ρ (kC1 r ks e) e := by
  unfold mCons
  simp only [K_bind, K_ret]
  rfl
theorem datsL_nil : datsL ρ [] = some [] := rfl
theorem datsL_cons {b : B} {r : List B} : datsL ρ (b :: r) = (b.dat ρ).bind fun d => (datsL ρ r).map fun ds => d :: ds := by
  show (match b.dat ρ, datsL ρ r with | some d, some ds => some (d :: ds) | _, _ => none) = _
  cases b.dat ρ <;> cases datsL ρ r <;> rfl
def keptO (ρ : Env) (bs : List B) : Option (List D) := if bs.all noPl = true then datsL ρ bs else none
theorem keptO_nil : keptO ρ [] = some [] := rfl
theorem keptO_sh {d : D} {bs : List B} : keptO ρ (.sh d :: bs) = (keptO ρ bs).map fun ds => d :: ds := by
  unfold keptO
  rw [List.all_cons, show noPl (B.sh d) = true from rfl, Bool.true_and, datsL_cons]
  by_cases h : bs.all noPl = true
  · rw [if_pos h, if_pos h]; rfl
  · rw [if_neg h, if_neg h]; rfl
theorem keptO_ow {o : O} {bs : List B} : keptO ρ (.ow o :: bs) = o.toD.bind fun d => (keptO ρ bs).map fun ds => d :: ds := by
  unfold keptO
  rw [List.all_cons, show noPl (B.ow o) = true from rfl, Bool.true_and, datsL_cons]
  by_cases h : bs.all noPl = true
  · rw [if_pos h, if_pos h]; rfl
  · rw [if_neg h, if_neg h]; cases o.toD <;> rfl
theorem keptO_tp {o : List SB} {bs : List B} : keptO ρ (.tp o :: bs) = (sbsD o).bind fun d => (keptO ρ bs).map fun ds => .tup d :: ds := by
  unfold keptO
  rw [List.all_cons, show noPl (B.tp o) = true from rfl, Bool.true_and, datsL_cons, dat_tp]
  by_cases h : bs.all noPl = true
  · rw [if_pos h, if_pos h]; cases sbsD o <;> rfl
  · rw [if_neg h, if_neg h]; cases sbsD o <;> rfl
theorem K_kept {bs : List B} : K (kept bs) ρ kd e = KO (keptO ρ bs) kd ρ := by
  unfold kept keptO
  by_cases h : bs.all noPl = true
  · rw [if_pos h, if_pos h]
    unfold K dats
    cases datsL ρ bs <;> rfl
  · rw [if_neg h, if_neg h]
    rfl
def tupO (ρ : Env) (bs : List B) : Option B := if bs.length ≤ 1000 then (keptO ρ bs).map fun ds => B.sh (.tup ds) else none
def lstO (ρ : Env) (bs : List B) : Option B := if bs.length ≤ 1000 then (keptO ρ bs).map fun ds => B.ow (.lst ds) else none
theorem tupO_eq {bs : List B} : tupO ρ bs = if bs.length ≤ 1000 then (keptO ρ bs).map fun ds => B.sh (.tup ds) else none := rfl
theorem lstO_eq {bs : List B} : lstO ρ bs = if bs.length ≤ 1000 then (keptO ρ bs).map fun ds => B.ow (.lst ds) else none := rfl
def kTup (k : Ct B β) : Ct (List B) β := fun bs ρ => KO (tupO ρ bs) k ρ
def kLst (k : Ct B β) : Ct (List B) β := fun bs ρ => KO (lstO ρ bs) k ρ
theorem kTup_eq {bs : List B} : kTup k bs ρ = KO (tupO ρ bs) k ρ := rfl
theorem kLst_eq {bs : List B} : kLst k bs ρ = KO (lstO ρ bs) k ρ := rfl
theorem K_mTup {es : M (List B)} : K (mTup es) ρ k e = K es ρ (kTup k) e := by
  unfold mTup few
  simp only [K_bind]
  congr 1; funext bs ρ1
  unfold kTup tupO
  by_cases h : bs.length ≤ 1000
  · simp only [h, decide_true, if_true, K_bind, K_kept]; cases keptO ρ1 bs <;> rfl
  · simp [h, K_stuck, KO]
theorem K_mLst {es : M (List B)} : K (mLst es) ρ k e = K es ρ (kLst k) e := by
  unfold mLst few
  simp only [K_bind]
  congr 1; funext bs ρ1
  unfold kLst lstO
  by_cases h : bs.length ≤ 1000
  · simp only [h, decide_true, if_true, K_bind, K_kept]; cases keptO ρ1 bs <;> rfl
  · simp [h, K_stuck, KO]
def fzO (ds : List D) : Option B := match ds with | [d] => some (.sh d) | _ => none
theorem fzO_eq {d : D} : fzO [d] = some (.sh d) := rfl
def kFz (k : Ct B β) : Ct B β := fun x ρ => KO ((keptO ρ [x]).bind fzO) k ρ
theorem kFz_eq {x : B} : kFz k x ρ = KO ((keptO ρ [x]).bind fzO) k ρ := rfl
theorem K_mFz {a : M B} : K (mFz a) ρ k e = K a ρ (kFz k) e := by
  unfold mFz
  simp only [K_bind]
  congr 1; funext x ρ1
  rw [K_kept]
  unfold kFz
  cases keptO ρ1 [x] with
  | none => rfl
  | some ds =>
    match ds with
    | [] => rfl
    | [d] => rfl
    | _ :: _ :: _ => rfl
theorem lzip2_eq {a b c d : D} : lzip2 [.tup [a, b], .tup [c, d]] = some (.ow (.lst [.tup [a, c], .tup [b, d]])) := rfl
def kLZ2 (x : B) (k : Ct B β) : Ct B β := fun y ρ => KO ((keptO ρ [x, y]).bind lzip2) k ρ
theorem kLZ2_eq {x y : B} : kLZ2 x k y ρ = KO ((keptO ρ [x, y]).bind lzip2) k ρ := rfl
def kLZ1 (b : M B) (k : Ct B β) (e : Ex β) : Ct B β := fun x ρ => K b ρ (kLZ2 x k) e
theorem kLZ1_eq {b : M B} {x : B} : kLZ1 b k e x ρ = K b ρ (kLZ2 x k) e := rfl
theorem K_mLZip {a b : M B} : K (mLZip a b) ρ k e = K a ρ (kLZ1 b k e) e := by
  unfold mLZip
  simp only [K_bind]
  congr 1; funext x ρ1
  show K b ρ1 _ e = K b ρ1 _ e
  congr 1; funext y ρ2
  rw [K_kept]
  unfold kLZ2
  cases keptO ρ2 [x, y] with
  | none => rfl
  | some ds => exact K_lift
theorem K_mDic0 : K mDic0 ρ k e = k (.ow (.dic false [])) ρ := rfl
def dic1 (ds : List D) : Option B := match ds with | [d, g] => if keyT d = true then some (.ow (.dic true [(d, g)])) else none | _ => none
theorem dic1_eq {d g : D} : dic1 [d, g] = if keyT d = true then some (.ow (.dic true [(d, g)])) else none := rfl
def kD2 (x : B) (k : Ct B β) : Ct B β := fun y ρ => KO ((keptO ρ [x, y]).bind dic1) k ρ
theorem kD2_eq {x y : B} : kD2 x k y ρ = KO ((keptO ρ [x, y]).bind dic1) k ρ := rfl
def kD1 (b : M B) (k : Ct B β) (e : Ex β) : Ct B β := fun x ρ => K b ρ (kD2 x k) e
theorem kD1_eq {b : M B} {x : B} : kD1 b k e x ρ = K b ρ (kD2 x k) e := rfl
theorem K_mDic1 {a b : M B} : K (mDic1 a b) ρ k e = K a ρ (kD1 b k e) e := by
  unfold mDic1
  simp only [K_bind]
  congr 1; funext x ρ1
  show K b ρ1 _ e = K b ρ1 _ e
  congr 1; funext y ρ2
  rw [K_kept]
  unfold kD2
  cases keptO ρ2 [x, y] with
  | none => rfl
  | some ds =>
    show K _ ρ2 k e = KO (dic1 ds) k ρ2
    match ds with
    | [] => rfl
    | [_] => rfl
    | [d, g] =>
      rw [dic1_eq]
      show K (if keyT d then ret (.ow (.dic true [(d, g)])) else stuck) ρ2 k e = _
      cases keyT d <;> rfl
    | _ :: _ :: _ :: _ => rfl
/-! subscripts -/
def elB : SB → Option B
  | .sh d => some (.sh d)
  | .ow o => some (.ow o)
  | .io _ => none
theorem elB_sh {d : D} : elB (.sh d) = some (.sh d) := rfl
theorem elB_ow {d : O} : elB (.ow d) = some (.ow d) := rfl
def ixO (ρ : Env) (x y : B) : Option B := match x with
  | .tp bs => (y.dat ρ).bind fun g => match g with
    | .int j => (atI bs j).bind elB
    | _ => none
  | _ => op2 iIx (x.dat ρ) (y.dat ρ)
theorem ixO_sh {d : D} {y : B} : ixO ρ (.sh d) y = un1 (iIx d) (y.dat ρ) := by
  show op2 iIx (some d) (y.dat ρ) = _
  cases y.dat ρ <;> rfl
theorem ixO_ow {o : O} {y : B} : ixO ρ (.ow o) y = op2 iIx o.toD (y.dat ρ) := rfl
theorem ixO_pl {i : Nat} {y : B} : ixO ρ (.pl i) y = op2 iIx ((B.pl i).dat ρ) (y.dat ρ) := rfl
theorem ixO_tp {bs : List SB} {j : Int} : ixO ρ (.tp bs) (.sh (.int j)) = (atI bs j).bind elB := rfl
def kIx2 (x : B) (k : Ct B β) : Ct B β := fun y ρ => KO (ixO ρ x y) k ρ
theorem kIx2_eq {x y : B} : kIx2 x k y ρ = KO (ixO ρ x y) k ρ := rfl
def kIx1 (i : M B) (k : Ct B β) (e : Ex β) : Ct B β := fun x ρ => K i ρ (kIx2 x k) e
theorem kIx1_eq {i : M B} {x : B} : kIx1 i k e x ρ = K i ρ (kIx2 x k) e := rfl
theorem K_mIx {a i : M B} : K (mIx a i) ρ k e = K a ρ (kIx1 i k e) e := by
  unfold mIx
  simp only [K_bind]
  congr 1; funext x ρ1
  show K i ρ1 _ e = K i ρ1 _ e
  congr 1; funext y ρ2
  have gen : ∀ b : B, (∀ bs, b ≠ .tp bs) → K (bind (dat b) fun d => bind (dat y) fun g => lift (iIx d g)) ρ2 k e = KO (op2 iIx (b.dat ρ2) (y.dat ρ2)) k ρ2 := fun b _ => by
    simp only [K_bind, K_dat]
    cases b.dat ρ2 with
    | none => rfl
    | some d =>
      show KO (y.dat ρ2) (fun a ρ1 => K (lift (iIx d a)) ρ1 k e) ρ2 = _
      cases y.dat ρ2 with
      | none => rfl
      | some g => exact K_lift
  cases x with
  | tp bs =>
    show K (bind (dat y) _) ρ2 k e = KO ((y.dat ρ2).bind _) k ρ2
    simp only [K_bind, K_dat]
    cases y.dat ρ2 with
    | none => rfl
    | some g =>
      cases g with
      | int j =>
        show K (match atI bs j with | some (.sh d) => ret (.sh d) | some (.ow o) => ret (.ow o) | _ => stuck) ρ2 k e = KO ((atI bs j).bind elB) k ρ2
        cases atI bs j with
        | none => rfl
        | some s => cases s <;> rfl
      | _ => rfl
  | sh d => exact gen (.sh d) (fun _ h => by cases h)
  | ow d => exact gen (.ow d) (fun _ h => by cases h)
  | pl d => exact gen (.pl d) (fun _ h => by cases h)
def slO (l h : Option Int) (d : D) : Option B := iSl d l h
theorem slO_eq {l h : Option Int} {d : D} : slO l h d = iSl d l h := rfl
def kSl3 (x : B) (l : Option Int) (k : Ct B β) : Ct (Option Int) β := fun h ρ => KO (un1 (slO l h) (x.dat ρ)) k ρ
theorem kSl3_eq {x : B} {l h : Option Int} : kSl3 x l k h ρ = KO (un1 (slO l h) (x.dat ρ)) k ρ := rfl
def kSl2 (x : B) (hi : Option (M B)) (k : Ct B β) (e : Ex β) : Ct (Option Int) β := fun l ρ => K (mEnd hi) ρ (kSl3 x l k) e
theorem kSl2_eq {x : B} {hi : Option (M B)} {l : Option Int} : kSl2 x hi k e l ρ = K (mEnd hi) ρ (kSl3 x l k) e := rfl
def kSl1 (lo hi : Option (M B)) (k : Ct B β) (e : Ex β) : Ct B β := fun x ρ => K (mEnd lo) ρ (kSl2 x hi k e) e
theorem kSl1_eq {lo hi : Option (M B)} {x : B} : kSl1 lo hi k e x ρ = K (mEnd lo) ρ (kSl2 x hi k e) e := rfl
theorem K_mSl {a : M B} {lo hi : Option (M B)} : K (mSl a lo hi) ρ k e = K a ρ (kSl1 lo hi k e) e := by
  unfold mSl
  simp only [K_bind]
  congr 1; funext x ρ1
  show K (mEnd lo) ρ1 _ e = K (mEnd lo) ρ1 _ e
  congr 1; funext l ρ2
  show K (mEnd hi) ρ2 _ e = K (mEnd hi) ρ2 _ e
  congr 1; funext h ρ3
  simp only [K_dat, kSl3]
  cases x.dat ρ3 with
  | none => rfl
  | some d => exact K_lift
def intD : D → Option (Option Int)
  | .int i => some (some i)
  | _ => none
theorem intD_int {i : Int} : intD (.int i) = some (some i) := rfl
variable {ko : Ct (Option Int) β}
theorem K_mEndN : K (mEnd none) ρ ko e = ko none ρ := rfl
def kEnd (ko : Ct (Option Int) β) : Ct B β := fun x ρ => KO (un1 intD (x.dat ρ)) ko ρ
theorem kEnd_eq {x : B} : kEnd ko x ρ = KO (un1 intD (x.dat ρ)) ko ρ := rfl
theorem K_mEndS {a : M B} : K (mEnd (some a)) ρ ko e = K a ρ (kEnd ko) e := by
  show K (bind a _) ρ ko e = _
  simp only [K_bind]
  congr 1; funext x ρ1
  simp only [K_dat, kEnd]
  cases x.dat ρ1 with
  | none => rfl
  | some d => cases d <;> rfl
theorem K_mRev {a : M B} : K (mRev a) ρ k e = K a ρ (kUn iRev k) e := K_mUn
def get3 (z : Option D) (d g : D) : Option B := z.bind fun h => iGet d g h
theorem get3_eq {z d g : D} : get3 (some z) d g = iGet d g z := rfl
def kG3 (x y : B) (k : Ct B β) : Ct B β := fun z ρ => KO (op2 (get3 (z.dat ρ)) (x.dat ρ) (y.dat ρ)) k ρ
theorem kG3_eq {x y z : B} : kG3 x y k z ρ = KO (op2 (get3 (z.dat ρ)) (x.dat ρ) (y.dat ρ)) k ρ := rfl
def kG2 (x : B) (c : M B) (k : Ct B β) (e : Ex β) : Ct B β := fun y ρ => K c ρ (kG3 x y k) e
theorem kG2_eq {x y : B} {c : M B} : kG2 x c k e y ρ = K c ρ (kG3 x y k) e := rfl
def kG1 (b c : M B) (k : Ct B β) (e : Ex β) : Ct B β := fun x ρ => K b ρ (kG2 x c k e) e
theorem kG1_eq {b c : M B} {x : B} : kG1 b c k e x ρ = K b ρ (kG2 x c k e) e := rfl
theorem K_mGet {a b c : M B} : K (mGet a b c) ρ k e = K a ρ (kG1 b c k e) e := by
  unfold mGet
  simp only [K_bind]
  congr 1; funext x ρ1
  show K b ρ1 _ e = K b ρ1 _ e
  congr 1; funext y ρ2
  show K c ρ2 _ e = K c ρ2 _ e
  congr 1; funext z ρ3
  simp only [K_dat, kG3]
  cases x.dat ρ3 with
  | none => rfl
  | some d =>
    show KO (y.dat ρ3) (fun a ρ1 => KO (z.dat ρ1) (fun b ρ1 => K (lift (iGet d a b)) ρ1 k e) ρ1) ρ3 = _
    cases y.dat ρ3 with
    | none => rfl
    | some g =>
      show KO (z.dat ρ3) (fun b ρ1 => K (lift (iGet d g b)) ρ1 k e) ρ3 = _
      cases z.dat ρ3 with
      | none => rfl
      | some h => exact K_lift
def txtB : B → Option Txt
  | .sh (.str s) => some s
  | _ => none
theorem txtB_str {s : Txt} : txtB (.sh (.str s)) = some s := rfl
def kSp3 (s : Txt) (k : Ct B β) : Ct B β := fun y ρ => KO (un1 (iSplit (.str s)) (y.dat ρ)) k ρ
theorem kSp3_eq {s : Txt} {y : B} : kSp3 s k y ρ = KO (un1 (iSplit (.str s)) (y.dat ρ)) k ρ := rfl
def kSp2 (b : M B) (k : Ct B β) (e : Ex β) : Ct Txt β := fun s ρ => K b ρ (kSp3 s k) e
theorem kSp2_eq {b : M B} {s : Txt} : kSp2 b k e s ρ = K b ρ (kSp3 s k) e := rfl
def kSp1 (b : M B) (k : Ct B β) (e : Ex β) : Ct B β := fun x ρ => KO (txtB x) (kSp2 b k e) ρ
theorem kSp1_eq {b : M B} {x : B} : kSp1 b k e x ρ = KO (txtB x) (kSp2 b k e) ρ := rfl
theorem K_mSplit {a b : M B} : K (mSplit a b) ρ k e = K a ρ (kSp1 b k e) e := by
  unfold mSplit
  simp only [K_bind]
  congr 1; funext x ρ1
  rcases x with d | o | i | bs
  · cases d with
    | str s =>
      show K (bind b _) ρ1 k e = K b ρ1 _ e
      simp only [K_bind]
      congr 1; funext y ρ2
      simp only [K_dat, kSp3]
      cases y.dat ρ2 with
      | none => rfl
      | some g => exact K_lift
    | _ => rfl
  · rfl
  · rfl
  · rfl
def kJn3 (s : Txt) (k : Ct B β) : Ct B β := fun y ρ => KO (un1 (iJoin (.str s)) (y.dat ρ)) k ρ
theorem kJn3_eq {s : Txt} {y : B} : kJn3 s k y ρ = KO (un1 (iJoin (.str s)) (y.dat ρ)) k ρ := rfl
def kJn2 (b : M B) (k : Ct B β) (e : Ex β) : Ct Txt β := fun s ρ => K b ρ (kJn3 s k) e
theorem kJn2_eq {b : M B} {s : Txt} : kJn2 b k e s ρ = K b ρ (kJn3 s k) e := rfl
def kJn1 (b : M B) (k : Ct B β) (e : Ex β) : Ct B β := fun x ρ => KO (txtB x) (kJn2 b k e) ρ
theorem kJn1_eq {b : M B} {x : B} : kJn1 b k e x ρ = KO (txtB x) (kJn2 b k e) ρ := rfl
theorem K_mJoinS {a b : M B} : K (mJoinS a b) ρ k e = K a ρ (kJn1 b k e) e := by
  unfold mJoinS
  simp only [K_bind]
  congr 1; funext x ρ1
  rcases x with d | o | i | bs
  · cases d with
    | str s =>
      show K (bind b _) ρ1 k e = K b ρ1 _ e
      simp only [K_bind]
      congr 1; funext y ρ2
      simp only [K_dat, kJn3]
      cases y.dat ρ2 with
      | none => rfl
      | some g => exact K_lift
    | _ => rfl
  · rfl
  · rfl
  · rfl
/-! calls -/
theorem lent_nil : lent [] = [] := rfl
theorem lent_sh1 {d : D} {r : List B} : lent (.sh d :: r) = lent r := rfl
theorem lent_ow {d : O} {r : List B} : lent (.ow d :: r) = lent r := rfl
theorem lent_tp {d : List SB} {r : List B} : lent (.tp d :: r) = lent r := rfl
theorem lent_pl {i : Nat} {r : List B} : lent (.pl i :: r) = i :: lent r := rfl
theorem nodup0 : nodupN [] = true := rfl
theorem nodup1 {a : Nat} : nodupN [a] = true := rfl
theorem nodup2 {a b : Nat} {r : List Nat} : nodupN (a :: b :: r) = (!((b :: r).elem a) && nodupN (b :: r)) := rfl
theorem handL_nil : handL ρ [] = some [] := rfl
theorem handL_cons {b : B} {r : List B} : handL ρ (b :: r) = (handB ρ b).bind fun x => (handL ρ r).map fun xs => x :: xs := by
  show (match handB ρ b, handL ρ r with | some x, some xs => some (x :: xs) | _, _ => none) = _
  cases handB ρ b <;> cases handL ρ r <;> rfl
theorem handB_sh {d : D} : handB ρ (.sh d) = some (.sh d) := rfl
theorem handB_lst {d : List D} : handB ρ (.ow (.lst d)) = some (.sh (.lst d)) := rfl
theorem handB_dic {t : Bool} {d : List (D × D)} : handB ρ (.ow (.dic t d)) = some (.sh (.dic t d)) := rfl
theorem handB_tp {bs : List SB} : handB ρ (.tp bs) = (sbsD bs).map fun ds => SB.sh (.tup ds) := rfl
def lendS : SB → SB
  | .sh d => .sh d
  | .ow o => .io o
  | .io o => .io o
theorem handB_pl {i : Nat} : handB ρ (.pl i) = (ρ.at i).map lendS := by
  show (match ρ.at i with | some (.sh d) => some (SB.sh d) | some (.ow o) => some (.io o) | some (.io o) => some (.io o) | none => none) = _
  cases ρ.at i with
  | none => rfl
  | some b => cases b <;> rfl
theorem lendS_sh {d : D} : lendS (.sh d) = .sh d := rfl
theorem lendS_ow {o : O} : lendS (.ow o) = .io o := rfl
theorem lendS_io {o : O} : lendS (.io o) = .io o := rfl
def argsO (ρ : Env) (bs : List B) : Option (List SB) := if nodupN (lent bs) = true then handL ρ bs else none
theorem argsO_eq {bs : List B} : argsO ρ bs = if nodupN (lent bs) = true then handL ρ bs else none := rfl
theorem backL_nil {os : Env} : backL ρ [] os = ρ := by cases os <;> rfl
theorem backL_cons {b : B} {r : List B} {o : Option SB} {os : Env} : backL ρ (b :: r) (o :: os) = backL (backB ρ b o) r os := rfl
theorem backB_sh {d : D} {o : Option SB} : backB ρ (.sh d) o = ρ := rfl
theorem backB_ow {d : O} {o : Option SB} : backB ρ (.ow d) o = ρ := rfl
theorem backB_tp {d : List SB} {o : Option SB} : backB ρ (.tp d) o = ρ := rfl
def putE (ρ : Env) (i : Nat) (o : O) : Env := match ρ.at i with | some c => ρ.set i (some (c.put o)) | none => ρ
theorem backB_plN {i : Nat} : backB ρ (.pl i) none = ρ := by
  show (match ρ.at i, (none : Option SB) with | some c, some (.io o) => ρ.set i (some (c.put o)) | _, _ => ρ) = ρ
  cases ρ.at i <;> rfl
theorem backB_plS {i : Nat} {o : O} : backB ρ (.pl i) (some (.io o)) = putE ρ i o := by
  show (match ρ.at i, some (SB.io o) with | some c, some (.io o) => ρ.set i (some (c.put o)) | _, _ => ρ) = _
  unfold putE
  cases ρ.at i <;> rfl
theorem putE_zero {c : SB} {r : Env} {o : O} : putE (some c :: r) 0 o = some (c.put o) :: r := rfl
theorem putE_succ {x : Option SB} {r : Env} {i : Nat} {o : O} : putE (x :: r) (i + 1) o = x :: putE r i o := by
  unfold putE
  rw [at_succ]
  cases Env.at r i <;> rfl
theorem put_ow {o o' : O} : (SB.ow o).put o' = .ow o' := rfl
theorem put_io {o o' : O} : (SB.io o).put o' = .io o' := rfl
theorem sput_sh {d : D} {o' : O} : (SB.sh d).put o' = .sh d := rfl
/-- what a call gave -/
def KF (o : Option (Res B × Env)) (bs : List B) (ρ : Env) (k : Ct B β) (e : Ex β) : Option β :=
  match o with
  | none => none
  | some (.ok a, os) => k a (backL ρ bs os)
  | some (.exc c p, os) => e c p (backL ρ bs os)
theorem KF_ok {a : B} {os : Env} {bs : List B} : KF (some (.ok a, os)) bs ρ k e = k a (backL ρ bs os) := rfl
theorem KF_exc {c p} {os : Env} {bs : List B} : KF (some (.exc c p, os)) bs ρ k e = e c p (backL ρ bs os) := rfl
theorem KF_none {bs : List B} : KF none bs ρ k e = none := rfl
theorem KF_ite {c : Prop} [Decidable c] {a b : Option (Res B × Env)} {bs : List B} : KF (if c then a else b) bs ρ k e = if c then KF a bs ρ k e else KF b bs ρ k e := by split <;> rfl
theorem KF_r {c : Prop} [Decidable c] {a b : Res B} {os : Env} {bs : List B} : KF (some (if c then a else b, os)) bs ρ k e = if c then KF (some (a, os)) bs ρ k e else KF (some (b, os)) bs ρ k e := by split <;> rfl
def kArg (f : Fn) (bs : List B) (k : Ct B β) (e : Ex β) : Ct (List SB) β := fun sbs ρ => KF (f sbs) bs ρ k e
theorem kArg_eq {f : Fn} {bs : List B} {sbs : List SB} : kArg f bs k e sbs ρ = KF (f sbs) bs ρ k e := rfl
def kCall (f : Fn) (k : Ct B β) (e : Ex β) : Ct (List B) β := fun bs ρ => KO (argsO ρ bs) (kArg f bs k e) ρ
theorem kCall_eq {f : Fn} {bs : List B} : kCall f k e bs ρ = KO (argsO ρ bs) (kArg f bs k e) ρ := rfl
theorem K_callF {f : Fn} {bs : List B} : K (callF f bs) ρ k e = KO (argsO ρ bs) (kArg f bs k e) ρ := by
  unfold K callF argsO
  by_cases h : nodupN (lent bs) = true
  · rw [if_pos h, if_pos h]
    cases handL ρ bs with
    | none => rfl
    | some sbs =>
      dsimp only [KO, kArg]
      cases f sbs with
      | none => rfl
      | some q => obtain ⟨r, os⟩ := q; cases r <;> rfl
  · rw [if_neg h, if_neg h]; rfl
theorem K_mCall {f : Fn} {as : M (List B)} : K (mCall f as) ρ k e = K as ρ (kCall f k e) e := by
  unfold mCall
  simp only [K_bind, K_callF]
  rfl
def ioS : Option SB → Option SB
  | some (.io o) => some (.io o)
  | _ => none
theorem ioS_io {o : O} : ioS (some (.io o)) = some (.io o) := rfl
theorem ioS_sh {o : D} : ioS (some (.sh o)) = none := rfl
theorem ioS_ow {o : O} : ioS (some (.ow o)) = none := rfl
theorem ioS_no : ioS none = none := rfl
theorem outs0 : outs 0 ρ = [] := rfl
theorem outs1 : outs 1 ρ = [ioS (ρ.at 0)] := rfl
theorem outs2 : outs 2 ρ = [ioS (ρ.at 0), ioS (ρ.at 1)] := rfl
theorem outs3 : outs 3 ρ = [ioS (ρ.at 0), ioS (ρ.at 1), ioS (ρ.at 2)] := rfl
theorem outs4 : outs 4 ρ = [ioS (ρ.at 0), ioS (ρ.at 1), ioS (ρ.at 2), ioS (ρ.at 3)] := rfl
theorem outs5 : outs 5 ρ = [ioS (ρ.at 0), ioS (ρ.at 1), ioS (ρ.at 2), ioS (ρ.at 3), ioS (ρ.at 4)] := rfl
def kFn (np : Nat) : Ct Fl (Res B × Env) := fun f ρ => match f with
  | .rt b => some (.ok b, outs np ρ)
  | .nx => some (.ok (.sh .non), outs np ρ)
  | _ => none
def eFn (np : Nat) : Ex (Res B × Env) := fun c p ρ => some (.exc c p, outs np ρ)
theorem kFn_rt {np : Nat} {b : B} : kFn np (.rt b) ρ = some (.ok b, outs np ρ) := rfl
theorem kFn_nx {np : Nat} : kFn np .nx ρ = some (.ok (.sh .non), outs np ρ) := rfl
theorem eFn_eq {np c : Nat} {p : Option (Txt × D)} : eFn np c p ρ = some (.exc c p, outs np ρ) := rfl
theorem mkFn_eq {np n : Nat} {body : S} {args : List SB} : mkFn np n body args = if args.length = np then K body (args.map some ++ List.replicate (n - np) none) (kFn np) (eFn np) else none := by
  unfold mkFn K
  by_cases h : args.length = np
  · rw [if_pos h, if_pos h]
    cases body (args.map some ++ List.replicate (n - np) none) with
    | none => rfl
    | some q => obtain ⟨r, ρ1⟩ := q; cases r with
      | exc => rfl
      | ok f => cases f <;> rfl
  · rw [if_neg h, if_neg h]
theorem rep0 : List.replicate 0 (none : Option SB) = [] := rfl
theorem repS {n : Nat} : List.replicate (n + 1) (none : Option SB) = none :: List.replicate n none := rfl
/-! walks -/
def itO (ρ : Env) (x : B) : Option (List D) := (keptO ρ [x]).bind fun ds => ds.head?.bind dItems
theorem itO_eq {x : B} : itO ρ x = (keptO ρ [x]).bind fun ds => ds.head?.bind dItems := rfl
def kIt (kd : Ct (List D) β) : Ct B β := fun x ρ => KO (itO ρ x) kd ρ
theorem kIt_eq {x : B} : kIt kd x ρ = KO (itO ρ x) kd ρ := rfl
theorem K_items {a : M B} : K (items a) ρ kd e = K a ρ (kIt kd) e := by
  unfold items
  simp only [K_bind, K_kept]
  congr 1; funext x ρ1
  unfold kIt itO keptO
  cases hx : ([x] : List B).all noPl with
  | false => rfl
  | true =>
    simp only [if_true]
    rw [datsL_cons, datsL_nil]
    cases x.dat ρ1 with
    | none => rfl
    | some d => exact K_lift
theorem dItems_tup {xs : List D} : dItems (.tup xs) = some xs := rfl
theorem dItems_lst {xs : List D} : dItems (.lst xs) = some xs := rfl
def rngD : D → Option (List D)
  | .int n => if n < 2 ^ 62 ∧ -(2 ^ 62) ≤ n then some (upto n.toNat) else none
  | _ => none
theorem rngD_int {n : Int} : rngD (.int n) = if n < 2 ^ 62 ∧ -(2 ^ 62) ≤ n then some (upto n.toNat) else none := rfl
def kRg (kd : Ct (List D) β) : Ct B β := fun x ρ => KO (un1 rngD (x.dat ρ)) kd ρ
theorem kRg_eq {x : B} : kRg kd x ρ = KO (un1 rngD (x.dat ρ)) kd ρ := rfl
theorem K_itRange {a : M B} : K (itRange a) ρ kd e = K a ρ (kRg kd) e := by
  unfold itRange
  simp only [K_bind]
  congr 1; funext x ρ1
  simp only [K_dat, kRg]
  cases x.dat ρ1 with
  | none => rfl
  | some d =>
    cases d with
    | int n => show K (if _ then ret (upto n.toNat) else stuck) ρ1 kd e = KO (if _ then _ else _) kd ρ1; by_cases h : n < 2 ^ 62 <;> by_cases g : -(2 ^ 62) ≤ n <;> simp only [h, g, decide_true, decide_false, Bool.and_true, Bool.and_false, Bool.true_and, Bool.false_and, and_true, and_false, if_true, if_false, Bool.false_eq_true] <;> rfl
    | _ => rfl
def zipO (ds : List D) : Option (List D) := match ds with | [d, g] => iZip2 d g | _ => none
theorem zipO_eq {d g : D} : zipO [d, g] = iZip2 d g := rfl
def kZ2 (x : B) (kd : Ct (List D) β) : Ct B β := fun y ρ => KO ((keptO ρ [x, y]).bind zipO) kd ρ
theorem kZ2_eq {x y : B} : kZ2 x kd y ρ = KO ((keptO ρ [x, y]).bind zipO) kd ρ := rfl
def kZ1 (b : M B) (kd : Ct (List D) β) (e : Ex β) : Ct B β := fun x ρ => K b ρ (kZ2 x kd) e
theorem kZ1_eq {b : M B} {x : B} : kZ1 b kd e x ρ = K b ρ (kZ2 x kd) e := rfl
theorem K_itZip {a b : M B} : K (itZip a b) ρ kd e = K a ρ (kZ1 b kd e) e := by
  unfold itZip
  simp only [K_bind]
  congr 1; funext x ρ1
  show K b ρ1 _ e = K b ρ1 _ e
  congr 1; funext y ρ2
  rw [K_kept]
  unfold kZ2
  cases keptO ρ2 [x, y] with
  | none => rfl
  | some ds =>
    show K _ ρ2 kd e = KO (zipO ds) kd ρ2
    match ds with
    | [] => rfl
    | [_] => rfl
    | [d, g] => exact K_lift
    | _ :: _ :: _ :: _ => rfl
def enO (ρ : Env) (x : B) : Option (List D) := (keptO ρ [x]).bind fun ds => ds.head?.bind enumD
theorem enO_eq {x : B} : enO ρ x = (keptO ρ [x]).bind fun ds => ds.head?.bind enumD := rfl
def kEn (kd : Ct (List D) β) : Ct B β := fun x ρ => KO (enO ρ x) kd ρ
theorem kEn_eq {x : B} : kEn kd x ρ = KO (enO ρ x) kd ρ := rfl
theorem K_itEnum {a : M B} : K (itEnum a) ρ kd e = K a ρ (kEn kd) e := by
  unfold itEnum
  simp only [K_bind, K_kept]
  congr 1; funext x ρ1
  unfold kEn enO keptO
  cases hx : ([x] : List B).all noPl with
  | false => rfl
  | true =>
    simp only [if_true]
    rw [datsL_cons, datsL_nil]
    cases x.dat ρ1 with
    | none => rfl
    | some d => exact K_lift
theorem zip2_tup {xs ys : List D} : iZip2 (.tup xs) (.tup ys) = some (zipD xs ys) := rfl
theorem zip2_lst {xs ys : List D} : iZip2 (.lst xs) (.lst ys) = some (zipD xs ys) := rfl
theorem zipD_cons {x y : D} {xs ys : List D} : zipD (x :: xs) (y :: ys) = .tup [x, y] :: zipD xs ys := rfl
theorem zipD_nil {ys : List D} : zipD [] ys = [] := rfl
theorem zipD_nil2 {xs : List D} : zipD xs [] = [] := by cases xs <;> rfl
theorem enumD_tup {xs : List D} : enumD (.tup xs) = some (zipD (upto xs.length) xs) := rfl
theorem enumD_lst {xs : List D} : enumD (.lst xs) = some (zipD (upto xs.length) xs) := rfl
theorem putS_succ {x : Option SB} {r : Env} {n : Nat} {b : SB} : putS (x :: r) (n + 1) b = (putS r n b).map fun s => x :: s := by
  unfold putS
  rw [at_succ]
  by_cases h : n < r.length
  · rw [if_pos h, if_pos (by simpa using h)]
    cases Env.at r n with
    | none => rfl
    | some c => cases c <;> rfl
  · rw [if_neg h, if_neg (by simpa using h)]
    rfl
theorem putS_no {r : Env} {b : SB} : putS (none :: r) 0 b = some (some b :: r) := by
  unfold putS
  rw [if_pos (by simp)]
  rfl
theorem putS_sh {r : Env} {b : SB} {d : D} : putS (some (.sh d) :: r) 0 b = some (some b :: r) := by
  unfold putS
  rw [if_pos (by simp)]
  rfl
theorem putS_ow {r : Env} {b : SB} {d : O} : putS (some (.ow d) :: r) 0 b = some (some b :: r) := by
  unfold putS
  rw [if_pos (by simp)]
  rfl
theorem putTg_one {i : Nat} {d : D} : putTg ρ (.one i) d = putS ρ i (.sh d) := rfl
theorem putTg_tup {is : List Nat} {ds : List D} : putTg ρ (.tup is) (.tup ds) = if is.length = ds.length then putSs ρ is ds else none := rfl
theorem putSs_nil : putSs ρ [] [] = some ρ := rfl
theorem putSs_cons {i : Nat} {is : List Nat} {d : D} {ds : List D} : putSs ρ (i :: is) (d :: ds) = (putS ρ i (.sh d)).bind fun ρ1 => putSs ρ1 is ds := by
  show (match putS ρ i (.sh d) with | some ρ1 => putSs ρ1 is ds | none => none) = _
  cases putS ρ i (.sh d) <;> rfl
theorem slots_one {i : Nat} : (Tg.one i).slots = [i] := rfl
theorem slots_tup {is : List Nat} : (Tg.tup is).slots = is := rfl
theorem clr_nil : clr ρ [] = ρ := rfl
theorem clr_cons {i : Nat} {is : List Nat} : clr ρ (i :: is) = (clr ρ is).set i none := rfl
theorem back_nil {ρ1 : Env} : back ρ ρ1 [] = ρ1 := rfl
theorem back_cons {ρ1 : Env} {i : Nat} {is : List Nat} : back ρ ρ1 (i :: is) = (back ρ ρ1 is).set i (ρ.at i) := rfl
def fr1 (ρ : Env) (i : Nat) : Bool := match ρ.at i with | none => decide (i < ρ.length) | some (.sh _) => true | some _ => false
theorem free_nil : free ρ [] = true := rfl
theorem free_cons {i : Nat} {is : List Nat} : free ρ (i :: is) = (fr1 ρ i && free ρ is) := rfl
theorem fr1_succ {x : Option SB} {r : Env} {n : Nat} : fr1 (x :: r) (n + 1) = fr1 r n := by
  unfold fr1
  rw [at_succ]
  cases Env.at r n with
  | none => simp
  | some c => cases c <;> rfl
theorem fr1_no {r : Env} : fr1 (none :: r) 0 = true := by simp [fr1, Env.at]
theorem fr1_sh {r : Env} {d : D} : fr1 (some (.sh d) :: r) 0 = true := rfl
def kCoE (t : Tg) (ρ0 : Env) (k : Ct B β) : Ct (List D) β := fun vs ρ => if vs.length ≤ LIM then k (.ow (.lst vs)) (back ρ0 ρ t.slots) else none
theorem kCoE_eq {t : Tg} {ρ0 : Env} {vs : List D} : kCoE t ρ0 k vs ρ = if vs.length ≤ LIM then k (.ow (.lst vs)) (back ρ0 ρ t.slots) else none := rfl
def kCo (t : Tg) (c : M Bool) (el : M B) (k : Ct B β) : Ct (List D) β := fun ds ρ => if free ρ t.slots = true then K (compGo t c el ds []) ρ (kCoE t ρ k) noX else none
theorem kCo_eq {t : Tg} {c : M Bool} {el : M B} {ds : List D} : kCo t c el k ds ρ = if free ρ t.slots = true then K (compGo t c el ds []) ρ (kCoE t ρ k) noX else none := rfl
theorem K_mComp {t : Tg} {it : M (List D)} {c : M Bool} {el : M B} : K (mComp t it c el) ρ k e = K it ρ (kCo t c el k) e := by
  unfold mComp
  simp only [K_bind]
  congr 1; funext ds ρ1
  unfold kCo K
  dsimp only
  by_cases h : free ρ1 t.slots = true
  · rw [if_pos h, if_pos h]
    unfold noExc
    cases compGo t c el ds [] ρ1 with
    | none => rfl
    | some q =>
      obtain ⟨r, ρ2⟩ := q
      cases r with
      | exc => rfl
      | ok vs => show _ = kCoE t ρ1 k vs ρ2; unfold kCoE; by_cases g : vs.length ≤ LIM <;> simp [g]
  · rw [if_neg h, if_neg h]
theorem K_comp0 {t : Tg} {c : M Bool} {el : M B} {acc : List D} {e : Ex β} : K (compGo t c el [] acc) ρ kd e = kd acc ρ := rfl
def kCo3 (t : Tg) (c : M Bool) (el : M B) (ds acc : List D) (kd : Ct (List D) β) (e : Ex β) : Ct (List D) β := fun v ρ => K (compGo t c el ds (acc ++ v)) ρ kd e
theorem kCo3_eq {t : Tg} {c : M Bool} {el : M B} {ds acc v : List D} : kCo3 t c el ds acc kd e v ρ = K (compGo t c el ds (acc ++ v)) ρ kd e := rfl
def kCo2 (t : Tg) (c : M Bool) (el : M B) (ds acc : List D) (kd : Ct (List D) β) (e : Ex β) : Ct B β := fun x ρ => KO (keptO ρ [x]) (kCo3 t c el ds acc kd e) ρ
theorem kCo2_eq {t : Tg} {c : M Bool} {el : M B} {ds acc : List D} {x : B} : kCo2 t c el ds acc kd e x ρ = KO (keptO ρ [x]) (kCo3 t c el ds acc kd e) ρ := rfl
def kCo1 (t : Tg) (c : M Bool) (el : M B) (ds acc : List D) (kd : Ct (List D) β) (e : Ex β) : Ct Bool β := fun b ρ => if b = true then K el ρ (kCo2 t c el ds acc kd e) e else K (compGo t c el ds acc) ρ kd e
theorem kCo1_eq {t : Tg} {c : M Bool} {el : M B} {ds acc : List D} {b : Bool} : kCo1 t c el ds acc kd e b ρ = if b = true then K el ρ (kCo2 t c el ds acc kd e) e else K (compGo t c el ds acc) ρ kd e := rfl
def kCo0 (t : Tg) (c : M Bool) (el : M B) (ds acc : List D) (kd : Ct (List D) β) (e : Ex β) : Env → Option β := fun ρ => K c ρ (kCo1 t c el ds acc kd e) e
theorem kCo0_eq {t : Tg} {c : M Bool} {el : M B} {ds acc : List D} : kCo0 t c el ds acc kd e ρ = K c ρ (kCo1 t c el ds acc kd e) e := rfl
theorem K_comp1 {t : Tg} {c : M Bool} {el : M B} {d : D} {ds acc : List D} : K (compGo t c el (d :: ds) acc) ρ kd e = KE (putTg (clr ρ t.slots) t d) (kCo0 t c el ds acc kd e) := by
  cases h : putTg (clr ρ t.slots) t d with
  | none =>
    have u : compGo t c el (d :: ds) acc ρ = none := by
      show (match putTg (clr ρ t.slots) t d with | none => none | some ρ1 => bind c _ ρ1) = _
      rw [h]
    unfold K
    rw [u]
    rfl
  | some ρ1 =>
    have u : compGo t c el (d :: ds) acc ρ = bind c (fun k => if k then bind el fun x => bind (kept [x]) fun v => compGo t c el ds (acc ++ v) else compGo t c el ds acc) ρ1 := by
      show (match putTg (clr ρ t.slots) t d with | none => none | some ρ1 => bind c _ ρ1) = _
      rw [h]
    have v : K (compGo t c el (d :: ds) acc) ρ kd e = K (bind c (fun k => if k then bind el fun x => bind (kept [x]) fun v => compGo t c el ds (acc ++ v) else compGo t c el ds acc)) ρ1 kd e := by
      unfold K
      rw [u]
    rw [v]
    simp only [K_bind, K_if, K_kept]
    rfl
/-! statements -/
theorem K_sPass : K sPass ρ kf e = kf .nx ρ := rfl
theorem K_sBreak : K sBreak ρ kf e = kf .bk ρ := rfl
theorem K_sCont : K sCont ρ kf e = kf .ct ρ := rfl
def kSeq (b : S) (kf : Ct Fl β) (e : Ex β) : Ct Fl β := fun f ρ => match f with
  | .nx => K b ρ kf e
  | f => kf f ρ
theorem kSeq_nx {b : S} : kSeq b kf e .nx ρ = K b ρ kf e := rfl
theorem kSeq_rt {b : S} {x : B} : kSeq b kf e (.rt x) ρ = kf (.rt x) ρ := rfl
theorem kSeq_bk {b : S} : kSeq b kf e .bk ρ = kf .bk ρ := rfl
theorem kSeq_ct {b : S} : kSeq b kf e .ct ρ = kf .ct ρ := rfl
theorem K_sSeq {a b : S} : K (sSeq a b) ρ kf e = K a ρ (kSeq b kf e) e := by
  unfold sSeq
  simp only [K_bind]
  congr 1; funext f ρ1
  cases f <;> rfl
def kDrop (kf : Ct Fl β) : Ct B β := fun _ ρ => kf .nx ρ
theorem kDrop_eq {x : B} : kDrop kf x ρ = kf .nx ρ := rfl
theorem K_sDrop {a : M B} : K (sDrop a) ρ kf e = K a ρ (kDrop kf) e := by
  unfold sDrop
  simp only [K_bind, K_ret]
  rfl
theorem K_sIf {t : M Bool} {a b : S} : K (sIf t a b) ρ kf e = K t ρ (kIf a b kf e) e := by
  unfold sIf
  simp only [K_bind, K_if]
  rfl
def kNx (kf : Ct Fl β) : Env → Option β := fun ρ => kf .nx ρ
theorem kNx_eq : kNx kf ρ = kf .nx ρ := rfl
def ownO : B → Option SB
  | .sh d => some (.sh d)
  | .ow o => some (.ow o)
  | .pl _ => none
  | .tp bs => (sbsD bs).map fun ds => SB.sh (.tup ds)
theorem ownO_sh {d : D} : ownO (.sh d) = some (.sh d) := rfl
theorem ownO_ow {d : O} : ownO (.ow d) = some (.ow d) := rfl
theorem ownO_tp {bs : List SB} : ownO (.tp bs) = (sbsD bs).map fun ds => SB.sh (.tup ds) := rfl
theorem K_ownB {b : B} {kk : Ct SB β} : K (ownB b) ρ kk e = KO (ownO b) kk ρ := by
  cases b with
  | tp bs => exact K_lift
  | _ => rfl
theorem K_bindS {i : Nat} {b : SB} : K (bindS i b) ρ kf e = KE (putS ρ i b) (kNx kf) := by
  unfold K bindS
  cases putS ρ i b <;> rfl
def setO (ρ : Env) (i : Nat) (x : B) : Option Env := (ownO x).bind fun b => putS ρ i b
theorem setO_eq {i : Nat} {x : B} : setO ρ i x = (ownO x).bind fun b => putS ρ i b := rfl
def kSet (i : Nat) (kf : Ct Fl β) : Ct B β := fun x ρ => KE (setO ρ i x) (kNx kf)
theorem kSet_eq {i : Nat} {x : B} : kSet i kf x ρ = KE (setO ρ i x) (kNx kf) := rfl
theorem K_sSet {i : Nat} {a : M B} : K (sSet i a) ρ kf e = K a ρ (kSet i kf) e := by
  unfold sSet
  simp only [K_bind, K_ownB, K_bindS]
  congr 1; funext x ρ1
  unfold kSet setO
  cases ownO x <;> rfl
def ownOs : List B → Option (List SB)
  | [] => some []
  | b :: r => (ownO b).bind fun x => (ownOs r).map fun xs => x :: xs
theorem ownOs_nil : ownOs [] = some [] := rfl
theorem ownOs_cons {b : B} {r : List B} : ownOs (b :: r) = (ownO b).bind fun x => (ownOs r).map fun xs => x :: xs := rfl
theorem K_ownBs : ∀ {bs : List B} {kk : Ct (List SB) β}, K (ownBs bs) ρ kk e = KO (ownOs bs) kk ρ
  | [], kk => rfl
  | b :: r, kk => by
    show K (bind (ownB b) fun x => bind (ownBs r) fun xs => ret (x :: xs)) ρ kk e = _
    simp only [K_bind, K_ownB, K_ret, ownOs_cons]
    cases ownO b with
    | none => rfl
    | some x => dsimp only [KO, Option.bind_some]; rw [K_ownBs (bs := r)]; cases ownOs r <;> rfl
def putA (ρ : Env) : List Nat → List SB → Option Env
  | [], [] => some ρ
  | i :: is, b :: bs => (putS ρ i b).bind fun ρ1 => putA ρ1 is bs
  | _, _ => none
theorem putA_nil : putA ρ [] [] = some ρ := rfl
theorem putA_cons {i : Nat} {is : List Nat} {b : SB} {bs : List SB} : putA ρ (i :: is) (b :: bs) = (putS ρ i b).bind fun ρ1 => putA ρ1 is bs := rfl
theorem K_bindSs : ∀ {is : List Nat} {bs : List SB} {ρ : Env}, K (bindSs is bs) ρ kf e = KE (putA ρ is bs) (kNx kf)
  | [], [], ρ => rfl
  | [], _ :: _, ρ => rfl
  | _ :: _, [], ρ => rfl
  | i :: is, b :: bs, ρ => by
    show K (sSeq (bindS i b) (bindSs is bs)) ρ kf e = _
    rw [K_sSeq, K_bindS, putA_cons]
    cases putS ρ i b with
    | none => rfl
    | some ρ1 => exact K_bindSs (is := is)
def parO (ρ : Env) (is : List Nat) (xs : List B) : Option Env := (ownOs xs).bind fun bs => putA ρ is bs
theorem parO_eq {is : List Nat} {xs : List B} : parO ρ is xs = (ownOs xs).bind fun bs => putA ρ is bs := rfl
def kPar (is : List Nat) (kf : Ct Fl β) : Ct (List B) β := fun xs ρ => KE (parO ρ is xs) (kNx kf)
theorem kPar_eq {is : List Nat} {xs : List B} : kPar is kf xs ρ = KE (parO ρ is xs) (kNx kf) := rfl
theorem K_sPar {is : List Nat} {es : M (List B)} : K (sPar is es) ρ kf e = K es ρ (kPar is kf) e := by
  unfold sPar
  simp only [K_bind, K_ownBs, K_bindSs]
  congr 1; funext xs ρ1
  unfold kPar parO
  cases ownOs xs <;> rfl
def tupB : B → Option (List SB)
  | .tp bs => some bs
  | .sh (.tup vs) => some (vs.map SB.sh)
  | _ => none
theorem tupB_tp {bs : List SB} : tupB (.tp bs) = some bs := rfl
theorem tupB_sh {vs : List D} : tupB (.sh (.tup vs)) = some (vs.map SB.sh) := rfl
def unpO (ρ : Env) (is : List Nat) (x : B) : Option Env := (tupB x).bind fun bs => putA ρ is bs
theorem unpO_eq {is : List Nat} {x : B} : unpO ρ is x = (tupB x).bind fun bs => putA ρ is bs := rfl
def kUnp (is : List Nat) (kf : Ct Fl β) : Ct B β := fun x ρ => KE (unpO ρ is x) (kNx kf)
theorem kUnp_eq {is : List Nat} {x : B} : kUnp is kf x ρ = KE (unpO ρ is x) (kNx kf) := rfl
theorem K_sUnp {is : List Nat} {a : M B} : K (sUnp is a) ρ kf e = K a ρ (kUnp is kf) e := by
  unfold sUnp
  simp only [K_bind]
  congr 1; funext x ρ1
  rcases x with d | o | i | bs
  · cases d with
    | tup vs => exact K_bindSs
    | _ => rfl
  · cases o <;> rfl
  · rfl
  · exact K_bindSs
def putOE (ρ : Env) (i : Nat) (f : O → Option O) : Option Env := (ρ.at i).bind fun c => c.obj.bind fun o => (f o).map fun o1 => ρ.set i (some (c.put o1))
theorem putOE_zero {c : SB} {r : Env} {f : O → Option O} : putOE (some c :: r) 0 f = c.obj.bind fun o => (f o).map fun o1 => some (c.put o1) :: r := rfl
theorem putOE_succ {x : Option SB} {r : Env} {i : Nat} {f : O → Option O} : putOE (x :: r) (i + 1) f = (putOE r i f).map fun s => x :: s := by
  unfold putOE
  rw [at_succ]
  cases Env.at r i with
  | none => rfl
  | some c =>
    show (c.obj.bind fun o => (f o).map fun o1 => (x :: r).set (i + 1) (some (c.put o1))) = (c.obj.bind fun o => (f o).map fun o1 => r.set i (some (c.put o1))).map _
    cases c.obj with
    | none => rfl
    | some o =>
      show ((f o).map fun o1 => (x :: r).set (i + 1) (some (c.put o1))) = ((f o).map fun o1 => r.set i (some (c.put o1))).map _
      cases f o <;> rfl
theorem obj_ow {o : O} : (SB.ow o).obj = some o := rfl
theorem obj_io {o : O} : (SB.io o).obj = some o := rfl
theorem K_putO {i : Nat} {f : O → Option O} {kk : Ct Unit β} : K (putO i f) ρ kk e = KE (putOE ρ i f) (kk ()) := by
  unfold K putO putOE
  cases ρ.at i with
  | none => rfl
  | some c =>
    dsimp only [Option.bind_some]
    cases c.obj with
    | none => rfl
    | some o =>
      dsimp only [Option.bind_some]
      cases f o <;> rfl
def hasO (ρ : Env) (i : Nat) : Option O := (ρ.at i).bind SB.obj
theorem hasO_zero {c : SB} {r : Env} : hasO (some c :: r) 0 = c.obj := rfl
theorem hasO_succ {c : Option SB} {r : Env} {i : Nat} : hasO (c :: r) (i + 1) = hasO r i := rfl
theorem K_mHas {i : Nat} {kk : Ct O β} : K (mHas i) ρ kk e = KO (hasO ρ i) kk ρ := by
  unfold K mHas hasO
  cases ρ.at i with
  | none => rfl
  | some c =>
    dsimp only [Option.bind_some]
    cases c.obj <;> rfl
def xsO (ρ : Env) (i : Nat) (ds : List D) : Option Env := match ds with | [d, q] => putOE ρ i (fun o => setAt o q d) | _ => none
theorem xsO_eq {i : Nat} {d q : D} : xsO ρ i [d, q] = putOE ρ i (fun o => setAt o q d) := rfl
def kXS3 (i : Nat) (v : B) (kf : Ct Fl β) : Ct B β := fun x ρ => KE ((keptO ρ [v, x]).bind (xsO ρ i)) (kNx kf)
theorem kXS3_eq {i : Nat} {v x : B} : kXS3 i v kf x ρ = KE ((keptO ρ [v, x]).bind (xsO ρ i)) (kNx kf) := rfl
def kXS2 (i : Nat) (v : B) (kx : M B) (kf : Ct Fl β) (e : Ex β) : Ct O β := fun _ ρ => K kx ρ (kXS3 i v kf) e
theorem kXS2_eq {i : Nat} {v : B} {kx : M B} {o : O} : kXS2 i v kx kf e o ρ = K kx ρ (kXS3 i v kf) e := rfl
def kXS1 (i : Nat) (kx : M B) (kf : Ct Fl β) (e : Ex β) : Ct B β := fun v ρ => KO (hasO ρ i) (kXS2 i v kx kf e) ρ
theorem kXS1_eq {i : Nat} {kx : M B} {v : B} : kXS1 i kx kf e v ρ = KO (hasO ρ i) (kXS2 i v kx kf e) ρ := rfl
theorem K_sIxSet {i : Nat} {kx ex : M B} : K (sIxSet i kx ex) ρ kf e = K ex ρ (kXS1 i kx kf e) e := by
  unfold sIxSet
  simp only [K_bind, K_mHas]
  congr 1; funext v ρ1
  unfold kXS1
  congr 1; funext o ρ2
  show K kx ρ2 _ e = K kx ρ2 _ e
  congr 1; funext x ρ3
  rw [K_kept]
  unfold kXS3
  cases keptO ρ3 [v, x] with
  | none => rfl
  | some ds =>
    show K _ ρ3 kf e = KE (xsO ρ3 i ds) _
    match ds with
    | [] => rfl
    | [_] => rfl
    | [d, q] =>
      show K (bind (putO i fun o => setAt o q d) fun _ => ret .nx) ρ3 kf e = _
      rw [K_bind, K_putO]
      rfl
    | _ :: _ :: _ :: _ => rfl
def apO (ρ : Env) (i : Nat) (ds : List D) : Option Env := match ds with | [d] => putOE ρ i (addAt d) | _ => none
theorem apO_eq {i : Nat} {d : D} : apO ρ i [d] = putOE ρ i (addAt d) := rfl
def kNon (k : Ct B β) : Env → Option β := fun ρ => k (.sh .non) ρ
theorem kNon_eq : kNon k ρ = k (.sh .non) ρ := rfl
def kAp2 (i : Nat) (k : Ct B β) : Ct B β := fun v ρ => KE ((keptO ρ [v]).bind (apO ρ i)) (kNon k)
theorem kAp2_eq {i : Nat} {v : B} : kAp2 i k v ρ = KE ((keptO ρ [v]).bind (apO ρ i)) (kNon k) := rfl
def kAp1 (i : Nat) (a : M B) (k : Ct B β) (e : Ex β) : Ct O β := fun o ρ => if isLstO o = true then K a ρ (kAp2 i k) e else none
theorem kAp1_eq {i : Nat} {a : M B} {xs : List D} : kAp1 i a k e (.lst xs) ρ = K a ρ (kAp2 i k) e := rfl
theorem K_mApp {i : Nat} {a : M B} : K (mApp i a) ρ k e = KO (hasO ρ i) (kAp1 i a k e) ρ := by
  unfold mApp
  simp only [K_bind, K_mHas]
  congr 1; funext o ρ1
  unfold kAp1
  cases isLstO o with
  | false => rfl
  | true =>
    simp only [if_true, K_bind, K_kept]
    congr 1; funext v ρ2
    unfold kAp2
    cases keptO ρ2 [v] with
    | none => rfl
    | some ds =>
      show K _ ρ2 k e = KE (apO ρ2 i ds) _
      match ds with
      | [] => rfl
      | [d] =>
        show K (bind (putO i (addAt d)) fun _ => ret (.sh .non)) ρ2 k e = _
        rw [K_bind, K_putO]
        rfl
      | _ :: _ :: _ => rfl
def kKy (kd : Ct (List D) β) : Ct B β := fun x ρ => KO (keysOf x) kd ρ
theorem kKy_eq {x : B} : kKy kd x ρ = KO (keysOf x) kd ρ := rfl
theorem K_itKeys {a : M B} : K (itKeys a) ρ kd e = K a ρ (kKy kd) e := by
  unfold itKeys
  simp only [K_bind]
  congr 1; funext x ρ1
  exact K_lift
theorem keysOf_dic {kvs : List (D × D)} : keysOf (.ow (.dic true kvs)) = some (kvs.map (·.1)) := rfl
def strD : D → Option Txt | .str s => some s | _ => none
theorem strD_str {s : Txt} : strD (.str s) = some s := rfl
def getO (s : Txt) (ρ : Env) (i : Nat) (ds : List D) : Option B := match ds with | [d] => (hasO ρ i).bind fun o => getS o s d | _ => none
theorem getO_eq {s : Txt} {i : Nat} {d : D} : getO s ρ i [d] = (hasO ρ i).bind fun o => getS o s d := rfl
theorem getS_dic {kvs : List (D × D)} {s : Txt} {d : D} : getS (.dic false kvs) s d = some (.sh ((lookD kvs (.str s)).getD d)) := rfl
def kGt3 (i : Nat) (s : Txt) (k : Ct B β) : Ct B β := fun z ρ => KO ((keptO ρ [z]).bind (getO s ρ i)) k ρ
theorem kGt3_eq {i : Nat} {s : Txt} {z : B} : kGt3 i s k z ρ = KO ((keptO ρ [z]).bind (getO s ρ i)) k ρ := rfl
def kGt2 (i : Nat) (c : M B) (k : Ct B β) (e : Ex β) : Ct Txt β := fun s ρ => K c ρ (kGt3 i s k) e
theorem kGt2_eq {i : Nat} {c : M B} {s : Txt} : kGt2 i c k e s ρ = K c ρ (kGt3 i s k) e := rfl
def kGt1 (i : Nat) (c : M B) (k : Ct B β) (e : Ex β) : Ct B β := fun y ρ => KO (un1 strD (y.dat ρ)) (kGt2 i c k e) ρ
theorem kGt1_eq {i : Nat} {c : M B} {y : B} : kGt1 i c k e y ρ = KO (un1 strD (y.dat ρ)) (kGt2 i c k e) ρ := rfl
def kGt0 (i : Nat) (b c : M B) (k : Ct B β) (e : Ex β) : Ct O β := fun o ρ => if isDicS o = true then K b ρ (kGt1 i c k e) e else none
theorem kGt0_eq {i : Nat} {b c : M B} {kvs : List (D × D)} : kGt0 i b c k e (.dic false kvs) ρ = K b ρ (kGt1 i c k e) e := rfl
theorem K_mGetN {i : Nat} {b c : M B} : K (mGetN i b c) ρ k e = KO (hasO ρ i) (kGt0 i b c k e) ρ := by
  unfold mGetN
  simp only [K_bind, K_mHas]
  congr 1; funext o ρ1
  unfold kGt0
  cases isDicS o with
  | false => rfl
  | true =>
    simp only [if_true, K_bind, K_dat]
    congr 1; funext y ρ2
    unfold kGt1
    cases y.dat ρ2 with
    | none => rfl
    | some d =>
      cases d with
      | str s =>
        show K (bind c _) ρ2 k e = K c ρ2 (kGt3 i s k) e
        simp only [K_bind, K_kept]
        congr 1; funext z ρ3
        unfold kGt3
        cases keptO ρ3 [z] with
        | none => rfl
        | some ds =>
          show K _ ρ3 k e = KO (getO s ρ3 i ds) k ρ3
          match ds with
          | [] => rfl
          | [d] =>
            show K (bind (mHas i) fun o1 => lift (getS o1 s d)) ρ3 k e = _
            rw [K_bind, K_mHas, getO_eq]
            cases hasO ρ3 i with
            | none => rfl
            | some o => exact K_lift
          | _ :: _ :: _ => rfl
      | _ => rfl
theorem addAt_lst {xs : List D} {d : D} : addAt d (.lst xs) = if xs.length < LIM then some (.lst (xs ++ [d])) else none := rfl
theorem setAt_lst {xs : List D} {j : Int} {d : D} : setAt (.lst xs) (.int j) d = if decide (0 ≤ j) && decide (j.toNat < xs.length) then some (.lst (xs.set j.toNat d)) else none := rfl
theorem setAt_dicS {kvs : List (D × D)} {q d : D} : setAt (.dic false kvs) q d = if kvs.length < LIM then (if keyOf false q then some (.dic false (putD kvs q d)) else none) else none := rfl
theorem setAt_dicT {kvs : List (D × D)} {q d : D} : setAt (.dic true kvs) q d = if kvs.length < LIM then (if keyOf true q then some (.dic true (putD kvs q d)) else none) else none := rfl
def kFor (t : Tg) (body : S) (kf : Ct Fl β) (e : Ex β) : Ct (List D) β := fun ds ρ => K (forGo t body ds) ρ kf e
theorem kFor_eq {t : Tg} {body : S} {ds : List D} : kFor t body kf e ds ρ = K (forGo t body ds) ρ kf e := rfl
theorem K_sFor {t : Tg} {it : M (List D)} {body : S} : K (sFor t it body) ρ kf e = K it ρ (kFor t body kf e) e := by
  unfold sFor
  simp only [K_bind]
  rfl
def kFor2 (t : Tg) (body : S) (ds : List D) (kf : Ct Fl β) (e : Ex β) : Ct Fl β := fun f ρ => match f with
  | .nx => K (forGo t body ds) ρ kf e
  | .ct => K (forGo t body ds) ρ kf e
  | .bk => kf .nx ρ
  | .rt b => kf (.rt b) ρ
theorem kFor2_nx {t : Tg} {body : S} {ds : List D} : kFor2 t body ds kf e .nx ρ = K (forGo t body ds) ρ kf e := rfl
theorem kFor2_ct {t : Tg} {body : S} {ds : List D} : kFor2 t body ds kf e .ct ρ = K (forGo t body ds) ρ kf e := rfl
theorem kFor2_bk {t : Tg} {body : S} {ds : List D} : kFor2 t body ds kf e .bk ρ = kf .nx ρ := rfl
theorem kFor2_rt {t : Tg} {body : S} {ds : List D} {b : B} : kFor2 t body ds kf e (.rt b) ρ = kf (.rt b) ρ := rfl
def kFor1 (t : Tg) (body : S) (ds : List D) (kf : Ct Fl β) (e : Ex β) : Env → Option β := fun ρ => K body ρ (kFor2 t body ds kf e) e
theorem kFor1_eq {t : Tg} {body : S} {ds : List D} : kFor1 t body ds kf e ρ = K body ρ (kFor2 t body ds kf e) e := rfl
theorem K_for0 {t : Tg} {body : S} : K (forGo t body []) ρ kf e = kf .nx ρ := rfl
theorem K_for1 {t : Tg} {body : S} {d : D} {ds : List D} : K (forGo t body (d :: ds)) ρ kf e = KE (putTg ρ t d) (kFor1 t body ds kf e) := by
  cases h : putTg ρ t d with
  | none =>
    have u : forGo t body (d :: ds) ρ = none := by
      show (match putTg ρ t d with | none => none | some ρ1 => bind body _ ρ1) = _
      rw [h]
    unfold K
    rw [u]
    rfl
  | some ρ1 =>
    have v : K (forGo t body (d :: ds)) ρ kf e = K (bind body (fun f => match f with | .nx => forGo t body ds | .ct => forGo t body ds | .bk => ret .nx | .rt b => ret (.rt b))) ρ1 kf e := by
      unfold K
      rw [forGo_cons h] <;> rfl
    rw [v]
    show K (bind body _) ρ1 kf e = K body ρ1 _ e
    rw [K_bind]
    congr 1; funext f ρ2
    cases f <;> rfl
theorem K_sWhile {t : M Bool} {body : S} : K (sWhile t body) ρ kf e = K (whGo t body TURNS) ρ kf e := rfl
def kWh2 (t : M Bool) (body : S) (n : Nat) (kf : Ct Fl β) (e : Ex β) : Ct Fl β := fun f ρ => match f with
  | .nx => K (whGo t body n) ρ kf e
  | .ct => K (whGo t body n) ρ kf e
  | .bk => kf .nx ρ
  | .rt b => kf (.rt b) ρ
theorem kWh2_nx {t : M Bool} {body : S} {n : Nat} : kWh2 t body n kf e .nx ρ = K (whGo t body n) ρ kf e := rfl
theorem kWh2_ct {t : M Bool} {body : S} {n : Nat} : kWh2 t body n kf e .ct ρ = K (whGo t body n) ρ kf e := rfl
theorem kWh2_bk {t : M Bool} {body : S} {n : Nat} : kWh2 t body n kf e .bk ρ = kf .nx ρ := rfl
theorem kWh2_rt {t : M Bool} {body : S} {n : Nat} {b : B} : kWh2 t body n kf e (.rt b) ρ = kf (.rt b) ρ := rfl
def kWh1 (t : M Bool) (body : S) (n : Nat) (kf : Ct Fl β) (e : Ex β) : Ct Bool β := fun c ρ => if c = true then K body ρ (kWh2 t body n kf e) e else kf .nx ρ
theorem kWh1_eq {t : M Bool} {body : S} {n : Nat} {c : Bool} : kWh1 t body n kf e c ρ = if c = true then K body ρ (kWh2 t body n kf e) e else kf .nx ρ := rfl
theorem K_wh1 {t : M Bool} {body : S} {n : Nat} : K (whGo t body (n + 1)) ρ kf e = K t ρ (kWh1 t body n kf e) e := by
  show K (bind t _) ρ kf e = _
  rw [K_bind]
  congr 1; funext c ρ1
  cases c with
  | false => rfl
  | true =>
    show K (bind body _) ρ1 kf e = K body ρ1 _ e
    rw [K_bind]
    congr 1; funext f ρ2
    cases f <;> rfl
def kRet (kf : Ct Fl β) : Ct B β := fun x ρ => match x with
  | .pl _ => none
  | x => kf (.rt x) ρ
theorem kRet_sh {d : D} : kRet kf (.sh d) ρ = kf (.rt (.sh d)) ρ := rfl
theorem kRet_ow {d : O} : kRet kf (.ow d) ρ = kf (.rt (.ow d)) ρ := rfl
theorem kRet_tp {d : List SB} : kRet kf (.tp d) ρ = kf (.rt (.tp d)) ρ := rfl
theorem K_sRet {a : M B} : K (sRet a) ρ kf e = K a ρ (kRet kf) e := by
  unfold sRet
  simp only [K_bind]
  congr 1; funext x ρ1
  cases x <;> rfl
def tpO (bs : List B) : Option B := if bs.length ≤ 1000 then (sbBs bs).map B.tp else none
theorem tpO_eq {bs : List B} : tpO bs = if bs.length ≤ 1000 then (sbBs bs).map B.tp else none := rfl
def kTp (k : Ct B β) : Ct (List B) β := fun bs ρ => KO (tpO bs) k ρ
theorem kTp_eq {bs : List B} : kTp k bs ρ = KO (tpO bs) k ρ := rfl
theorem K_mTp {es : M (List B)} : K (mTp es) ρ k e = K es ρ (kTp k) e := by
  unfold mTp few
  simp only [K_bind]
  congr 1; funext bs ρ1
  unfold kTp tpO
  by_cases h : bs.length ≤ 1000
  · simp only [h, decide_true, if_true, K_bind, K_lift]; cases sbBs bs <;> rfl
  · simp [h, K_stuck, KO]
theorem sbBs_nil : sbBs [] = some [] := rfl
theorem sbBs_cons {b : B} {r : List B} : sbBs (b :: r) = (sbB b).bind fun x => (sbBs r).map fun xs => x :: xs := by
  show (match sbB b, sbBs r with | some x, some xs => some (x :: xs) | _, _ => none) = _
  cases sbB b <;> cases sbBs r <;> rfl
theorem sbB_sh {d : D} : sbB (.sh d) = some (.sh d) := rfl
theorem sbB_ow {d : O} : sbB (.ow d) = some (.ow d) := rfl
theorem K_sRaise {c : Nat} : K (sRaise c) ρ kf e = e c none ρ := rfl
def eTry (n : Nat) (hs : List ((Nat → Bool) × S)) (kf : Ct Fl β) (e : Ex β) : Ex β := fun c p ρ => if c < n then K (tryGo c p hs) ρ kf e else none
theorem eTry_eq {n c : Nat} {p : Option (Txt × D)} {hs : List ((Nat → Bool) × S)} : eTry n hs kf e c p ρ = if c < n then K (tryGo c p hs) ρ kf e else none := rfl
theorem K_sTry {n : Nat} {body : S} {hs : List ((Nat → Bool) × S)} : K (sTry n body hs) ρ kf e = K body ρ kf (eTry n hs kf e) := by
  unfold K sTry
  cases body ρ with
  | none => rfl
  | some q =>
    obtain ⟨r, ρ1⟩ := q
    cases r with
    | ok f => rfl
    | exc c p => show _ = eTry n hs kf e c p ρ1; unfold eTry K; by_cases h : c < n <;> simp [h]
theorem K_tryGo0 {c : Nat} {p : Option (Txt × D)} : K (tryGo c p []) ρ kf e = e c p ρ := rfl
theorem K_tryGo1 {c : Nat} {p : Option (Txt × D)} {t : Nat → Bool} {s : S} {r : List ((Nat → Bool) × S)} : K (tryGo c p ((t, s) :: r)) ρ kf e = if t c = true then K s ρ kf noX else K (tryGo c p r) ρ kf e := by
  show K (if t c then noExc s else tryGo c p r) ρ kf e = _
  rw [K_if, K_noExc]
/-! values -/
theorem Add_int {a b : Int} : iAdd (.int a) (.int b) = some (.sh (.int (a + b))) := rfl
theorem Add_tup {a b : List D} : iAdd (.tup a) (.tup b) = if a.length + b.length ≤ LIM then some (.sh (.tup (a ++ b))) else none := rfl
theorem Add_lst {a b : List D} : iAdd (.lst a) (.lst b) = if a.length + b.length ≤ LIM then some (.ow (.lst (a ++ b))) else none := rfl
theorem Add_str {a b : Txt} : iAdd (.str a) (.str b) = if a.length + b.length ≤ LIM then some (.sh (.str (a ++ b))) else none := rfl
theorem Sub_int {a b : Int} : iSub (.int a) (.int b) = some (.sh (.int (a - b))) := rfl
theorem Mul_int {a b : Int} : iMul (.int a) (.int b) = if smallI a || smallI b then some (.sh (.int (a * b))) else none := rfl
theorem Mul_lst {a : List D} {n : Int} : iMul (.lst a) (.int n) = if decide (0 ≤ n) && decide (n ≤ 1000) && decide (a.length ≤ 1000) then some (.ow (.lst (repL a n.toNat))) else none := rfl
theorem Fdiv_int {a b : Int} : iFdiv (.int a) (.int b) = if decide (0 < b) && decide (b < 1073741824) then some (.sh (.int (a / b))) else none := rfl
theorem Mod_int {a b : Int} : iMod (.int a) (.int b) = if decide (0 < b) then some (.sh (.int (a % b))) else none := rfl
theorem Lt_int {a b : Int} : iLt (.int a) (.int b) = some (.sh (.bl (decide (a < b)))) := rfl
theorem Le_int {a b : Int} : iLe (.int a) (.int b) = some (.sh (.bl (decide (a ≤ b)))) := rfl
theorem Gt_int {a b : Int} : iGt (.int a) (.int b) = some (.sh (.bl (decide (b < a)))) := rfl
theorem Ge_int {a b : Int} : iGe (.int a) (.int b) = some (.sh (.bl (decide (b ≤ a)))) := rfl
theorem Eq_eq {x y : D} : iEq x y = if x.dep ≤ 60 && y.dep ≤ 60 then some (.sh (.bl (D.eqv x y))) else none := rfl
theorem Ne_eq {x y : D} : iNe x y = if x.dep ≤ 60 && y.dep ≤ 60 then some (.sh (.bl (!D.eqv x y))) else none := rfl
theorem In_tup {x : D} {ys : List D} : iIn x (.tup ys) = if x.dep ≤ 60 && D.deps ys ≤ 60 then some (.sh (.bl (memD x ys))) else none := by
  unfold iIn isIn; dsimp only; generalize (decide (x.dep ≤ 60) && decide (D.deps ys ≤ 60)) = b; cases b <;> rfl
theorem In_lst {x : D} {ys : List D} : iIn x (.lst ys) = if x.dep ≤ 60 && D.deps ys ≤ 60 then some (.sh (.bl (memD x ys))) else none := by
  unfold iIn isIn; dsimp only; generalize (decide (x.dep ≤ 60) && decide (D.deps ys ≤ 60)) = b; cases b <;> rfl
theorem Nin_tup {x : D} {ys : List D} : iNin x (.tup ys) = if x.dep ≤ 60 && D.deps ys ≤ 60 then some (.sh (.bl (!memD x ys))) else none := by
  unfold iNin isIn; dsimp only; generalize (decide (x.dep ≤ 60) && decide (D.deps ys ≤ 60)) = b; cases b <;> rfl
theorem Nin_lst {x : D} {ys : List D} : iNin x (.lst ys) = if x.dep ≤ 60 && D.deps ys ≤ 60 then some (.sh (.bl (!memD x ys))) else none := by
  unfold iNin isIn; dsimp only; generalize (decide (x.dep ≤ 60) && decide (D.deps ys ≤ 60)) = b; cases b <;> rfl
theorem mem_nil {x : D} : memD x [] = false := rfl
theorem mem_cons {x y : D} {ys : List D} : memD x (y :: ys) = (D.eqv y x || memD x ys) := rfl
theorem Ix_tup {xs : List D} {i : Int} : iIx (.tup xs) (.int i) = (atI xs i).map B.sh := rfl
theorem Ix_lst {xs : List D} {i : Int} : iIx (.lst xs) (.int i) = (atI xs i).map B.sh := rfl
theorem atI_0 {α : Type} {x : α} {xs : List α} : atI (x :: xs) 0 = some x := rfl
theorem atI_1 {α : Type} {x y : α} {xs : List α} : atI (x :: y :: xs) 1 = some y := rfl
theorem atI_2 {α : Type} {x y z : α} {xs : List α} : atI (x :: y :: z :: xs) 2 = some z := rfl
theorem atI_3 {α : Type} {a b c d : α} {xs : List α} : atI (a :: b :: c :: d :: xs) 3 = some d := rfl
theorem atI_4 {α : Type} {a b c d f : α} {xs : List α} : atI (a :: b :: c :: d :: f :: xs) 4 = some f := rfl
theorem atI_5 {α : Type} {a b c d f g : α} {xs : List α} : atI (a :: b :: c :: d :: f :: g :: xs) 5 = some g := rfl
theorem atI_6 {α : Type} {a b c d f g h : α} {xs : List α} : atI (a :: b :: c :: d :: f :: g :: h :: xs) 6 = some h := rfl
theorem Len_tup {xs : List D} : iLen (.tup xs) = some (.sh (.int xs.length)) := rfl
theorem Len_lst {xs : List D} : iLen (.lst xs) = some (.sh (.int xs.length)) := rfl
theorem Len_dic {t : Bool} {kvs : List (D × D)} : iLen (.dic t kvs) = some (.sh (.int kvs.length)) := rfl
theorem Ix_dic {t : Bool} {kvs : List (D × D)} {q : D} : iIx (.dic t kvs) q = if keyOf t q then (lookD kvs q).map B.sh else none := by cases q <;> rfl
theorem In_dic {t : Bool} {kvs : List (D × D)} {q : D} : iIn q (.dic t kvs) = if keyOf t q then some (.sh (.bl (lookD kvs q).isSome)) else none := by
  unfold iIn isIn; dsimp only; generalize keyOf t q = b; cases b <;> rfl
theorem Nin_dic {t : Bool} {kvs : List (D × D)} {q : D} : iNin q (.dic t kvs) = if keyOf t q then some (.sh (.bl (!(lookD kvs q).isSome))) else none := by
  unfold iNin isIn; dsimp only; generalize keyOf t q = b; cases b <;> rfl
theorem Min_int {a b : Int} : iMin (.int a) (.int b) = some (.sh (.int (if b < a then b else a))) := rfl
theorem Len_str {xs : Txt} : iLen (.str xs) = some (.sh (.int xs.length)) := rfl
theorem Int_int {i : Int} : iInt (.int i) = some (.sh (.int i)) := rfl
theorem Int_bl {b : Bool} : iInt (.bl b) = some (.sh (.int (if b then 1 else 0))) := rfl
theorem Tuple_lst {xs : List D} : iTuple (.lst xs) = some (.sh (.tup xs)) := rfl
theorem Tuple_tup {xs : List D} : iTuple (.tup xs) = some (.sh (.tup xs)) := rfl
theorem List_lst {xs : List D} : iList (.lst xs) = some (.ow (.lst xs)) := rfl
theorem List_tup {xs : List D} : iList (.tup xs) = some (.ow (.lst xs)) := rfl
theorem List_dic {kvs : List (D × D)} : iList (.dic false kvs) = some (.ow (.lst (kvs.map (·.1)))) := rfl
theorem bools_nil : bools [] = some [] := rfl
theorem bools_cons {b : Bool} {r : List D} : bools (.bl b :: r) = (bools r).map fun bs => b :: bs := rfl
theorem All_lst {xs : List D} : iAll (.lst xs) = (bools xs).map fun bs => B.sh (.bl (bs.all id)) := rfl
theorem Any_lst {xs : List D} : iAny (.lst xs) = (bools xs).map fun bs => B.sh (.bl (bs.any id)) := rfl
theorem dep_non : D.dep .non = 0 := rfl
theorem dep_bl {b : Bool} : D.dep (.bl b) = 0 := rfl
theorem dep_int {b : Int} : D.dep (.int b) = 0 := rfl
theorem dep_str {b : Txt} : D.dep (.str b) = 0 := rfl
theorem dep_tupS {xs : List D} : D.dep (.tup xs) = D.deps xs + 1 := by simp [D.dep]
theorem dep_lstS {xs : List D} : D.dep (.lst xs) = D.deps xs + 1 := by simp [D.dep]
theorem deps_nil : D.deps [] = 0 := by simp [D.deps]
theorem deps_cons {x : D} {xs : List D} : D.deps (x :: xs) = max (D.dep x) (D.deps xs) := by simp [D.deps]
theorem isNon_non : D.isNon .non = true := rfl
theorem isNon_int {i : Int} : D.isNon (.int i) = false := rfl
theorem isNon_tup {i : List D} : D.isNon (.tup i) = false := rfl
theorem isNon_lst {i : List D} : D.isNon (.lst i) = false := rfl
theorem isNon_str {i : Txt} : D.isNon (.str i) = false := rfl
theorem isNon_bl {i : Bool} : D.isNon (.bl i) = false := rfl
theorem eqv_ss {x y : Txt} : D.eqv (.str x) (.str y) = (x == y) := by simp [D.eqv]
theorem eqv_ii {x y : Int} : D.eqv (.int x) (.int y) = (x == y) := by simp [D.eqv]
theorem eqv_bb {x y : Bool} : D.eqv (.bl x) (.bl y) = (x == y) := by simp [D.eqv]
theorem eqv_nn : D.eqv .non .non = true := by simp [D.eqv]
theorem eqv_tt {x y : List D} : D.eqv (.tup x) (.tup y) = D.eqvs x y := by simp [D.eqv]
theorem eqv_ll {x y : List D} : D.eqv (.lst x) (.lst y) = D.eqvs x y := by simp [D.eqv]
theorem eqvs_nn : D.eqvs [] [] = true := by simp [D.eqvs]
theorem eqvs_nc {x : D} {xs : List D} : D.eqvs [] (x :: xs) = false := by simp [D.eqvs]
theorem eqvs_cn {x : D} {xs : List D} : D.eqvs (x :: xs) [] = false := by simp [D.eqvs]
theorem eqvs_cc {x y : D} {xs ys : List D} : D.eqvs (x :: xs) (y :: ys) = (D.eqv x y && D.eqvs xs ys) := by simp [D.eqvs]
theorem upto_1 : upto 1 = [.int 0] := rfl
theorem upto_2 : upto 2 = [.int 0, .int 1] := rfl
theorem upto_3 : upto 3 = [.int 0, .int 1, .int 2] := rfl
theorem upto_7 : upto 7 = [.int 0, .int 1, .int 2, .int 3, .int 4, .int 5, .int 6] := rfl
theorem K_mAdd {a b : M B} : K (mAdd a b) ρ k e = K a ρ (kOp1 iAdd b k e) e := K_mOp
theorem K_mSub {a b : M B} : K (mSub a b) ρ k e = K a ρ (kOp1 iSub b k e) e := K_mOp
theorem K_mMul {a b : M B} : K (mMul a b) ρ k e = K a ρ (kOp1 iMul b k e) e := K_mOp
theorem K_mFdiv {a b : M B} : K (mFdiv a b) ρ k e = K a ρ (kOp1 iFdiv b k e) e := K_mOp
theorem K_mMod {a b : M B} : K (mMod a b) ρ k e = K a ρ (kOp1 iMod b k e) e := K_mOp
theorem K_mPow {a b : M B} : K (mPow a b) ρ k e = K a ρ (kOp1 iPow b k e) e := K_mOp
theorem K_mEq {a b : M B} : K (mEq a b) ρ k e = K a ρ (kOp1 iEq b k e) e := K_mOp
theorem K_mNe {a b : M B} : K (mNe a b) ρ k e = K a ρ (kOp1 iNe b k e) e := K_mOp
theorem K_mLt {a b : M B} : K (mLt a b) ρ k e = K a ρ (kOp1 iLt b k e) e := K_mOp
theorem K_mLe {a b : M B} : K (mLe a b) ρ k e = K a ρ (kOp1 iLe b k e) e := K_mOp
theorem K_mGt {a b : M B} : K (mGt a b) ρ k e = K a ρ (kOp1 iGt b k e) e := K_mOp
theorem K_mGe {a b : M B} : K (mGe a b) ρ k e = K a ρ (kOp1 iGe b k e) e := K_mOp
theorem K_mIn {a b : M B} : K (mIn a b) ρ k e = K a ρ (kOp1 iIn b k e) e := K_mOp
theorem K_mNin {a b : M B} : K (mNin a b) ρ k e = K a ρ (kOp1 iNin b k e) e := K_mOp
theorem K_mMin {a b : M B} : K (mMin a b) ρ k e = K a ρ (kOp1 iMin b k e) e := K_mOp
theorem K_mJoin {a b : M B} : K (mJoin a b) ρ k e = K a ρ (kOp1 iJoin b k e) e := K_mOp
theorem K_mIndex {a b : M B} : K (mIndex a b) ρ k e = K a ρ (kOp1 iIndex b k e) e := K_mOp
theorem K_mLen {a : M B} : K (mLen a) ρ k e = K a ρ (kUn iLen k) e := K_mUn
theorem K_mInt {a : M B} : K (mInt a) ρ k e = K a ρ (kUn iInt k) e := K_mUn
theorem K_mStr {a : M B} : K (mStr a) ρ k e = K a ρ (kUn iStr k) e := K_mUn
theorem K_mTuple {a : M B} : K (mTuple a) ρ k e = K a ρ (kUn iTuple k) e := K_mUn
theorem K_mList {a : M B} : K (mList a) ρ k e = K a ρ (kUn iList k) e := K_mUn
theorem K_mAll {a : M B} : K (mAll a) ρ k e = K a ρ (kUn iAll k) e := K_mUn
theorem K_mAny {a : M B} : K (mAny a) ρ k e = K a ρ (kUn iAny k) e := K_mUn
theorem K_mSorted {a : M B} : K (mSorted a) ρ k e = K a ρ (kUn iSorted k) e := K_mUn
theorem K_mDict {a : M B} : K (mDict a) ρ k e = K a ρ (kUn iDict k) e := K_mUn
theorem K_mIsA {t : Ty} {a : M B} : K (mIsA t a) ρ k e = K a ρ (kUn (iIsA t) k) e := K_mUn
theorem IsA_tup {t : Ty} {xs : List D} : iIsA t (.tup xs) = some (.sh (.bl (isA (.tup xs) t))) := rfl
theorem IsA_lst {t : Ty} {xs : List D} : iIsA t (.lst xs) = some (.sh (.bl (isA (.lst xs) t))) := rfl
theorem IsA_str {t : Ty} {xs : Txt} : iIsA t (.str xs) = some (.sh (.bl (isA (.str xs) t))) := rfl
theorem IsA_int {t : Ty} {i : Int} : iIsA t (.int i) = some (.sh (.bl (isA (.int i) t))) := rfl
theorem IsA_bl {t : Ty} {i : Bool} : iIsA t (.bl i) = some (.sh (.bl (isA (.bl i) t))) := rfl
theorem Sl_tup {xs : List D} {l h : Option Int} : iSl (.tup xs) l h = some (.sh (.tup (cutL xs (endI xs.length 0 l) (endI xs.length xs.length h)))) := rfl
theorem Sl_lst {xs : List D} {l h : Option Int} : iSl (.lst xs) l h = some (.ow (.lst (cutL xs (endI xs.length 0 l) (endI xs.length xs.length h)))) := rfl
theorem Sl_str {xs : Txt} {l h : Option Int} : iSl (.str xs) l h = some (.sh (.str (cutL xs (endI xs.length 0 l) (endI xs.length xs.length h)))) := rfl
theorem endI_no {n d : Nat} : endI n d none = d := rfl
theorem endI_so {n d : Nat} {i : Int} : endI n d (some i) = if i < 0 then (i + n).toNat else min i.toNat n := rfl
theorem cutL_eq {α : Type} {xs : List α} {a b : Nat} : cutL xs a b = (xs.drop a).take (b - a) := rfl
theorem Mul_tup {a : List D} {n : Int} : iMul (.tup a) (.int n) = if decide (2 ≤ n) && decide (n ≤ 1000) && decide (a.length ≤ 1000) && !a.isEmpty then some (.sh (.tup (repL a n.toNat))) else none := rfl
theorem txt_nc {a : Nat} {x : Txt} : (([] : Txt) == (a :: x)) = false := rfl
theorem txt_cn {a : Nat} {x : Txt} : ((a :: x) == ([] : Txt)) = false := rfl
theorem IsA_non {t : Ty} : iIsA t .non = some (.sh (.bl (isA .non t))) := rfl
end
end WF

set_option Elab.async false
set_option linter.all false
set_option maxRecDepth 100000
set_option maxHeartbeats 1000000
/-! WFQ: comprehensions whose turns change other names. -/
namespace WF
section
variable {ρ ρ1 ρ2 : Env}
/-- each turn brings an item that R ties to what was walked -/
theorem compGo_rel {t : Tg} {c : M Bool} {e : M B} (I : Env → Prop) (R : D → D → Prop) : ∀ {ds : List D}, (∀ d ∈ ds, ∀ ρ, I ρ → ∃ ρ1 ρ2 ρ3 x b, putTg (clr ρ t.slots) t d = some ρ1 ∧ c ρ1 = some (.ok true, ρ3) ∧ e ρ3 = some (.ok b, ρ2) ∧ noPl b = true ∧ b.dat ρ2 = some x ∧ R d x ∧ I ρ2) →
    ∀ acc ρ, I ρ → ∃ xs ρ', compGo t c e ds acc ρ = some (.ok (acc ++ xs), ρ') ∧ I ρ' ∧ xs.length = ds.length ∧ ∀ (i : Nat) d x, ds[i]? = some d → xs[i]? = some x → R d x
  | [], _, acc, ρ, h => ⟨[], ρ, by rw [List.append_nil]; rfl, h, rfl, fun i d x e => by simp at e⟩
  | d :: ds, st, acc, ρ, h => by
    obtain ⟨ρ1, ρ2, ρ3, x, b, e1, ec, ee, nb, ed, r, h2⟩ := st d List.mem_cons_self ρ h
    have u : compGo t c e (d :: ds) acc ρ = bind c (fun k => if k then bind e fun x => bind (kept [x]) fun v => compGo t c e ds (acc ++ v) else compGo t c e ds acc) ρ1 := by
      show (match putTg (clr ρ t.slots) t d with | none => none | some ρ1 => bind c _ ρ1) = _
      rw [e1]
    have ek : kept [b] ρ2 = some (.ok [x], ρ2) := by
      unfold kept
      rw [if_pos (by simp [nb])]
      show (match datsL ρ2 [b] with | none => none | some ds => some (Res.ok ds, ρ2)) = _
      have : datsL ρ2 [b] = some [x] := by
        show (match b.dat ρ2, datsL ρ2 [] with | some d, some ds => some (d :: ds) | _, _ => none) = _
        rw [ed]
        rfl
      rw [this]
    obtain ⟨xs, ρ', e3, h3, hl, hr⟩ := compGo_rel I R (fun d m => st d (List.mem_cons_of_mem _ m)) (acc ++ [x]) ρ2 h2
    refine ⟨x :: xs, ρ', ?_, h3, by simp [hl], fun i d' y q1 q2 => ?_⟩
    · rw [u, bind_eq ec]
      show bind e (fun x => bind (kept [x]) fun v => compGo t c e ds (acc ++ v)) ρ3 = _
      rw [bind_eq ee, bind_eq ek, e3, List.append_assoc]
      rfl
    · cases i with
      | zero => simp at q1 q2; subst q1; subst q2; exact r
      | succ i => exact hr i d' y (by simpa using q1) (by simpa using q2)
theorem mComp_rel {i : Nat} {it : M (List D)} {c : M Bool} {e : M B} {ds : List D} (I : Env → Prop) (R : D → D → Prop) (hit : it ρ = some (.ok ds, ρ1)) (hi : i < ρ1.length) (h0 : ρ1.at i = none) (hz : ds.length ≤ LIM) (hI : I ρ1)
    (st : ∀ d ∈ ds, ∀ ρ, I ρ → ∃ ρ1 ρ2 ρ3 x b, putTg (clr ρ [i]) (.one i) d = some ρ1 ∧ c ρ1 = some (.ok true, ρ3) ∧ e ρ3 = some (.ok b, ρ2) ∧ noPl b = true ∧ b.dat ρ2 = some x ∧ R d x ∧ I ρ2) :
    ∃ xs ρ', mComp (.one i) it c e ρ = some (.ok (.ow (.lst xs)), ρ'.set i none) ∧ I ρ' ∧ xs.length = ds.length ∧ ∀ (j : Nat) d x, ds[j]? = some d → xs[j]? = some x → R d x := by
  obtain ⟨xs, ρ', e1, h1, hl, hr⟩ := compGo_rel (t := .one i) I R st [] ρ1 hI
  refine ⟨xs, ρ', ?_, h1, hl, hr⟩
  unfold mComp
  rw [bind_eq hit]
  have fr : free ρ1 (Tg.one i).slots = true := by
    show (([i] : List Nat).all fun i => match ρ1.at i with | none => decide (i < ρ1.length) | some (.sh _) => true | some _ => false) = true
    simp [h0, hi]
  have ne : noExc (compGo (.one i) c e ds []) ρ1 = some (.ok xs, ρ') := by
    unfold noExc
    rw [e1]
    rfl
  show (if free ρ1 (Tg.one i).slots then match noExc (compGo (.one i) c e ds []) ρ1 with
      | some (.ok vs, ρ2) => if vs.length ≤ LIM then some (Res.ok (B.ow (.lst vs)), back ρ1 ρ2 (Tg.one i).slots) else none
      | _ => none else none) = _
  rw [fr, ne]
  show (if xs.length ≤ LIM then some (Res.ok (B.ow (.lst xs)), back ρ1 ρ' [i]) else none) = _
  rw [if_pos (by omega)]
  have : back ρ1 ρ' [i] = ρ'.set i none := by
    show ρ'.set i (ρ1.at i) = _
    rw [h0]
  rw [this]
end
end WF

set_option Elab.async false
set_option linter.all false
set_option maxRecDepth 100000
set_option maxHeartbeats 1000000
/-! WFW: slots, depths, the same data; pots and draws. Core Lean, WFA and WFA2 alone. -/
namespace WF
/-- a slot that may be bound anew -/
def Nio (o : Option SB) : Prop := ∀ x, o ≠ some (.io x)
theorem nio_no : Nio none := fun _ h => by cases h
theorem nio_sh {d : D} : Nio (some (.sh d)) := fun _ h => by cases h
theorem nio_ow {d : O} : Nio (some (.ow d)) := fun _ h => by cases h
theorem putS_nio {o : Option SB} {r : Env} {b : SB} (h : Nio o) : putS (o :: r) 0 b = some (some b :: r) := by
  unfold putS
  rw [if_pos (by simp)]
  cases o with
  | none => rfl
  | some c => cases c with
    | io x => exact absurd rfl (h x)
    | _ => rfl
/-- a slot that a comprehension may use -/
def Fre (o : Option SB) : Prop := o = none ∨ ∃ d, o = some (.sh d)
theorem fre_no : Fre none := .inl rfl
theorem fre_sh {d : D} : Fre (some (.sh d)) := .inr ⟨d, rfl⟩
theorem Fre.nio {o : Option SB} (h : Fre o) : Nio o := by
  rcases h with rfl | ⟨d, rfl⟩
  · exact nio_no
  · exact nio_sh
theorem fr1_fre {o : Option SB} {r : Env} (h : Fre o) : fr1 (o :: r) 0 = true := by
  rcases h with rfl | ⟨d, rfl⟩
  · exact fr1_no
  · rfl
mutual
theorem eqv_self : ∀ x : D, D.dep x ≤ 900 → D.eqv x x = true
  | .non, _ => by simp [D.eqv]
  | .bl _, _ => by simp [D.eqv]
  | .int _, _ => by simp [D.eqv]
  | .str _, _ => by simp [D.eqv]
  | .tup xs, h => by rw [eqv_tt]; exact eqvs_self xs (by rw [dep_tupS] at h; omega)
  | .lst xs, h => by rw [eqv_ll]; exact eqvs_self xs (by rw [dep_lstS] at h; omega)
  | .dic _ _, h => absurd h (by show ¬ (1000 ≤ 900); decide)
theorem eqvs_self : ∀ xs : List D, D.deps xs ≤ 900 → D.eqvs xs xs = true
  | [], _ => by simp [D.eqvs]
  | x :: xs, h => by
    rw [deps_cons] at h
    rw [eqvs_cc, eqv_self x (by omega), eqvs_self xs (by omega)]
    rfl
end
theorem deps_le {n : Nat} : ∀ {xs : List D}, (∀ x ∈ xs, D.dep x ≤ n) → D.deps xs ≤ n
  | [], _ => Nat.zero_le _
  | x :: xs, h => Nat.max_le.2 ⟨h x List.mem_cons_self, deps_le fun y m => h y (List.mem_cons_of_mem _ m)⟩
theorem mem_dep : ∀ {xs : List D} {x : D}, x ∈ xs → D.dep x ≤ D.deps xs
  | y :: ys, x, m => by
    rw [deps_cons]
    rcases List.mem_cons.mp m with h | h
    · subst h; exact Nat.le_max_left _ _
    · exact Nat.le_trans (mem_dep h) (Nat.le_max_right _ _)
theorem nodic {v : D} {n : Nat} (h : D.dep v ≤ n) (hn : n < 1000) : ∀ t kvs, v ≠ .dic t kvs := fun t kvs e => by
  subst e
  have h : 1000 ≤ n := h
  omega
theorem upto_len {n : Nat} : (upto n).length = n := by simp [upto]
theorem atI_nat {α : Type} {xs : List α} {j : Nat} (h : j < xs.length) : atI xs (j : Int) = some xs[j] := by
  unfold atI
  rw [if_pos (by omega), Int.toNat_natCast, List.getElem?_eq_getElem h]
/-! ### pots -/
/-- the pot of the law's draws -/
def Pot (g s : Int) : Prop := 0 ≤ g ∧ 0 ≤ s ∧ s < 2147483549
abbrev pot (g s : Int) : SB := .io (.lst [.int g, .int s])
abbrev oPot (g s : Int) : SB := .ow (.lst [.int g, .int s])
end WF

set_option linter.all false
set_option maxRecDepth 100000
namespace WF
namespace CM
abbrev t_0 : Txt := [48]
abbrev t_1 : Txt := [49]
abbrev t_2 : Txt := [50]
abbrev t_Say : Txt := [83, 97, 121]
abbrev t__10 : Txt := [10]
abbrev t__32 : Txt := [32]
abbrev t__32_10_58012no : Txt := [32, 10, 58, 48, 49, 50, 110, 111]
abbrev t__58_32 : Txt := [58, 32]
abbrev t__58_32no : Txt := [58, 32, 110, 111]
abbrev t__58_32yes : Txt := [58, 32, 121, 101, 115]
abbrev t_always : Txt := [97, 108, 119, 97, 121, 115]
abbrev t_bar : Txt := [98, 97, 114]
abbrev t_bars : Txt := [98, 97, 114, 115]
abbrev t_both : Txt := [98, 111, 116, 104]
abbrev t_both_32either_32last : Txt := [98, 111, 116, 104, 32, 101, 105, 116, 104, 101, 114, 32, 108, 97, 115, 116]
abbrev t_clear : Txt := [99, 108, 101, 97, 114]
abbrev t_come : Txt := [99, 111, 109, 101]
abbrev t_court : Txt := [99, 111, 117, 114, 116]
abbrev t_day : Txt := [100, 97, 121]
abbrev t_day_32use : Txt := [100, 97, 121, 32, 117, 115, 101]
abbrev t_either : Txt := [101, 105, 116, 104, 101, 114]
abbrev t_empty : Txt := []
abbrev t_gone : Txt := [103, 111, 110, 101]
abbrev t_handed : Txt := [104, 97, 110, 100, 101, 100]
abbrev t_kept : Txt := [107, 101, 112, 116]
abbrev t_lag : Txt := [108, 97, 103]
abbrev t_lag_58 : Txt := [108, 97, 103, 58]
abbrev t_last : Txt := [108, 97, 115, 116]
abbrev t_morning : Txt := [109, 111, 114, 110, 105, 110, 103]
abbrev t_morning_32now : Txt := [109, 111, 114, 110, 105, 110, 103, 32, 110, 111, 119]
abbrev t_no : Txt := [110, 111]
abbrev t_nobody : Txt := [110, 111, 98, 111, 100, 121]
abbrev t_noted : Txt := [110, 111, 116, 101, 100]
abbrev t_now : Txt := [110, 111, 119]
abbrev t_once : Txt := [111, 110, 99, 101]
abbrev t_own : Txt := [111, 119, 110]
abbrev t_own_32win : Txt := [111, 119, 110, 32, 119, 105, 110]
abbrev t_paper : Txt := [112, 97, 112, 101, 114]
abbrev t_refused : Txt := [114, 101, 102, 117, 115, 101, 100]
abbrev t_say : Txt := [115, 97, 121]
abbrev t_two : Txt := [116, 119, 111]
abbrev t_use : Txt := [117, 115, 101]
abbrev t_void : Txt := [118, 111, 105, 100]
abbrev t_win : Txt := [119, 105, 110]
abbrev t_words : Txt := [119, 111, 114, 100, 115]
abbrev t_words_32bars_32lag_32court_32once_32void_32paper : Txt := [119, 111, 114, 100, 115, 32, 98, 97, 114, 115, 32, 108, 97, 103, 32, 99, 111, 117, 114, 116, 32, 111, 110, 99, 101, 32, 118, 111, 105, 100, 32, 112, 97, 112, 101, 114]
abbrev t_wrong : Txt := [119, 114, 111, 110, 103]
abbrev t_x : Txt := [120]
abbrev t_yes : Txt := [121, 101, 115]
def c_EVENTS : D := D.tup [(.tup [(.str t_clear), (.int 0)]), (.tup [(.str t_clear), (.int 1)]), (.tup [(.str t_come), (.int 0)]), (.tup [(.str t_come), (.int 1)]), (.tup [(.str t_come), (.int 2)]), (.tup [(.str t_court), (.int 0)]), (.tup [(.str t_court), (.int 1)]), (.tup [(.str t_morning)]), (.tup [(.str t_paper), (.int 0)]), (.tup [(.str t_paper), (.int 1)]), (.tup [(.str t_say), (.int 0), (.str t_always)]), (.tup [(.str t_say), (.int 0), (.str t_bar)]), (.tup [(.str t_say), (.int 0), (.str t_no)]), (.tup [(.str t_say), (.int 0), (.str t_once)]), (.tup [(.str t_say), (.int 1), (.str t_always)]), (.tup [(.str t_say), (.int 1), (.str t_bar)]), (.tup [(.str t_say), (.int 1), (.str t_no)]), (.tup [(.str t_say), (.int 1), (.str t_once)])]
def c_HARMS : D := D.tup [(.str t_kept), (.str t_nobody), (.str t_two), (.str t_wrong)]
def c_MOST_EVENTS : D := D.int 60
def c_OTHER : D := D.int 2
def c_PART_NAMES : D := D.tup [(.str t_words), (.str t_bars), (.str t_lag), (.str t_court), (.str t_once), (.str t_void), (.str t_paper)]
def c_VALUES : D := D.tup [(.tup [(.str t_both), (.str t_either), (.str t_last)]), (.tup [(.str t_own), (.str t_win)]), (.tup [(.str t_morning), (.str t_now)]), (.tup [(.str t_morning), (.str t_now)]), (.tup [(.str t_day), (.str t_use)]), (.tup [(.bl false), (.bl true)]), (.tup [(.bl false), (.bl true)])]
def c_WORDS : D := D.tup [(.str t_always), (.str t_bar), (.str t_no), (.str t_once)]
def isC_FetchError (c : Nat) : Bool := true
def isC_InvalidRule (c : Nat) : Bool := c == 1
def isC_InvalidRow (c : Nat) : Bool := c == 2
def isC_InvalidHarm (c : Nat) : Bool := c == 3
def isC_InvalidParent (c : Nat) : Bool := c == 4
def isC_InvalidPart (c : Nat) : Bool := c == 5
def isC_InvalidPerson (c : Nat) : Bool := c == 6
def isC_InvalidWord (c : Nat) : Bool := c == 7
def isC_NothingToUndo (c : Nat) : Bool := c == 8
def isC_TooMany (c : Nat) : Bool := c == 9
def isC_WrongLine (c : Nat) : Bool := c == 10
def isC_Failed (c : Nat) : Bool := c == 11
def f_is_same : Fn := mkFn 2 2
  (sSeq (sIf (tOr (tV (mIsA .bool (mP 0))) (tV (mIsA .bool (mP 1)))) (sRet (mAnd (mIsA .bool (mP 0)) (mAnd (mIsA .bool (mP 1)) (mEq (mP 0) (mP 1))))) sPass)
  (sRet (mAnd (mIsA .str (mP 0)) (mAnd (mIsA .str (mP 1)) (mEq (mP 0) (mP 1))))))
def ce0_is_rule : M B :=
  (mCall f_is_same (mCons (mV 1) (mCons (mV 3) mNil)))
def ce1_is_rule : M B :=
  (mAny (mComp (.one 3) (items (mV 2)) yes ce0_is_rule))
def f_is_rule : Fn := mkFn 1 4
  (sSeq (sIf (tOr (tNot (tV (mIsA .tuple (mP 0)))) (tV (mNe (mLen (mP 0)) (mLen (mK c_PART_NAMES))))) (sRet (mK (.bl false))) sPass)
  (sRet (mAll (mComp (.tup [1, 2]) (itZip (mV 0) (mK c_VALUES)) yes ce1_is_rule))))
def f_is_number : Fn := mkFn 2 2
  (sRet (mAnd (mIsA .int (mP 0)) (mAnd (mNot (mIsA .bool (mP 0))) (mLeLe (mK (.int 0)) (mP 0) (mP 1)))))
def f_is_word : Fn := mkFn 1 1
  (sRet (mAnd (mIsA .str (mP 0)) (mIn (mP 0) (mK c_WORDS))))
def f_is_event : Fn := mkFn 1 1
  (sSeq (sIf (tOr (tNot (tV (mIsA .tuple (mP 0)))) (tOr (tV (mEq (mP 0) (mK (.tup [])))) (tNot (tV (mIsA .str (mIx (mP 0) (mK (.int 0)))))))) (sRet (mK (.bl false))) sPass)
  (sSeq (sIf (tV (mEq (mIx (mP 0) (mK (.int 0))) (mK (.str t_morning)))) (sRet (mEq (mLen (mP 0)) (mK (.int 1)))) sPass)
  (sSeq (sIf (tV (mEq (mIx (mP 0) (mK (.int 0))) (mK (.str t_say)))) (sRet (mAnd (mEq (mLen (mP 0)) (mK (.int 3))) (mAnd (mCall f_is_number (mCons (mIx (mP 0) (mK (.int 1))) (mCons (mK (.int 1)) mNil))) (mCall f_is_word (mCons (mIx (mP 0) (mK (.int 2))) mNil))))) sPass)
  (sSeq (sIf (tV (mEq (mIx (mP 0) (mK (.int 0))) (mK (.str t_come)))) (sRet (mAnd (mEq (mLen (mP 0)) (mK (.int 2))) (mCall f_is_number (mCons (mIx (mP 0) (mK (.int 1))) (mCons (mK (.int 2)) mNil))))) sPass)
  (sRet (mAnd (mIn (mIx (mP 0) (mK (.int 0))) (mK (.tup [(.str t_clear), (.str t_court), (.str t_paper)]))) (mAnd (mEq (mLen (mP 0)) (mK (.int 2))) (mCall f_is_number (mCons (mIx (mP 0) (mK (.int 1))) (mCons (mK (.int 1)) mNil))))))))))
def ce0_are_events : M B :=
  (mCall f_is_event (mCons (mV 1) mNil))
def f_are_events : Fn := mkFn 1 2
  (sRet (mAnd (mIsA .tuple (mP 0)) (mAnd (mLe (mLen (mP 0)) (mK c_MOST_EVENTS)) (mAll (mComp (.one 1) (items (mV 0)) yes ce0_are_events)))))
def f_need_rule : Fn := mkFn 1 1
  (sIf (tNot (tV (mCall f_is_rule (mCons (mP 0) mNil)))) (sRaise 1) sPass)
def cc0_rules_near : M Bool :=
  (tNot (tV (mCall f_is_same (mCons (mV 4) (mCons (mIx (mP 0) (mP 2)) mNil)))))
def ce0_rules_near : M B :=
  (mAdd (mAdd (mSl (mP 0) none (some (mP 2))) (mTup (mCons (mV 4) mNil))) (mSl (mP 0) (some (mAdd (mP 2) (mK (.int 1)))) none))
def fb0_rules_near : S :=
  (sSet 1 (mAdd (mP 1) (mComp (.one 4) (items (mV 3)) cc0_rules_near ce0_rules_near)))
def f_rules_near : Fn := mkFn 1 5
  (sSeq (sSet 1 (mLst (ret (List.map B.sh []))))
  (sSeq (sFor (.tup [2, 3]) (itEnum (mK c_VALUES)) fb0_rules_near)
  (sRet (mSorted (mP 1)))))
def f_is_row : Fn := mkFn 1 1
  (sRet (mCall f_are_events (mCons (mP 0) mNil)))
def f_near : Fn := mkFn 1 1
  (sSeq (sDrop (mCall f_need_rule (mCons (mP 0) mNil)))
  (sRet (mCall f_rules_near (mCons (mP 0) mNil))))
def f__law_pot : Fn := mkFn 2 3
  (sSeq (sSet 2 (mIf (tV (mGe (mP 0) (mPow (mK (.int 10)) (mK (.int 18))))) (mAdd (mFdiv (mP 0) (mK (.int 5))) (mP 1)) (mK (.int 0))))
  (sRet (mLst (mCons (mV 2) (mCons (mAdd (mMod (mInt (mAdd (mMul (mP 0) (mK (.int 43))) (mMul (mK (.int 6007)) (mP 1)))) (mK (.int 1610612711))) (mK (.int 6))) mNil)))))
def f__law_lot : Fn := mkFn 2 4
  (sSeq (sIf (tV (mGt (mIx (mP 0) (mK (.int 0))) (mK (.int 0)))) (sSeq (sSet 2 (mMod (mInt (mIx (mP 0) (mK (.int 0)))) (mP 1)))
  (sSeq (sIxSet 0 (mK (.int 0)) (mFdiv (mIx (mP 0) (mK (.int 0))) (mP 1)))
  (sRet (mMv 2)))) sPass)
  (sSeq (sIxSet 0 (mK (.int 1)) (mMod (mInt (mAdd (mMul (mIx (mP 0) (mK (.int 1))) (mK (.int 1103515))) (mK (.int 12343)))) (mK (.int 2147483549))))
  (sSeq (sSet 3 (mMod (mInt (mMul (mIx (mP 0) (mK (.int 1))) (mAdd (mIx (mP 0) (mK (.int 1))) (mK (.int 87))))) (mK (.int 2147483497))))
  (sRet (mMod (mInt (mFdiv (mP 3) (mK (.int 743)))) (mP 1))))))
def f__law_pick : Fn := mkFn 2 2
  (sRet (mIx (mP 1) (mCall f__law_lot (mCons (mP 0) (mCons (mLen (mP 1)) mNil)))))
def f__law_values : Fn := mkFn 0 1
  (sSeq (sSet 0 (mLst (mCons (mLst (ret (List.map B.sh [(.str t_both), (.str t_either), (.str t_last)]))) (mCons (mLst (ret (List.map B.sh [(.str t_own), (.str t_win)]))) (mCons (mLst (ret (List.map B.sh [(.str t_morning), (.str t_now)]))) (mCons (mLst (ret (List.map B.sh [(.str t_morning), (.str t_now)]))) (mCons (mLst (ret (List.map B.sh [(.str t_day), (.str t_use)]))) mNil)))))))
  (sRet (mAdd (mP 0) (mLst (mCons (mLst (ret (List.map B.sh [(.bl false), (.bl true)]))) (mCons (mLst (ret (List.map B.sh [(.bl false), (.bl true)]))) mNil))))))
def ce0__law_rule : M B :=
  (mCall f__law_pick (mCons (mP 0) (mCons (mV 1) mNil)))
def f__law_rule : Fn := mkFn 1 2
  (sRet (mTuple (mComp (.one 1) (items (mCall f__law_values mNil)) yes ce0__law_rule)))
def f__law_words : Fn := mkFn 0 0
  (sRet (mLst (ret (List.map B.sh [(.str t_always), (.str t_bar), (.str t_no), (.str t_once)]))))
def f__law_event : Fn := mkFn 1 4
  (sSeq (sSet 1 (mLst (ret (List.map B.sh [(.str t_say), (.str t_say), (.str t_say), (.str t_come), (.str t_come), (.str t_come), (.str t_morning), (.str t_morning), (.str t_paper), (.str t_court), (.str t_clear)]))))
  (sSeq (sSet 2 (mCall f__law_pick (mCons (mP 0) (mCons (mV 1) mNil))))
  (sSeq (sIf (tV (mEq (mP 2) (mK (.str t_morning)))) (sRet (mTp (mCons (mMv 2) mNil))) sPass)
  (sSeq (sIf (tV (mEq (mP 2) (mK (.str t_come)))) (sRet (mTp (mCons (mMv 2) (mCons (mCall f__law_pick (mCons (mP 0) (mCons (mLst (ret (List.map B.sh [(.int 0), (.int 1), (.int 2), (.int 2)]))) mNil))) mNil)))) sPass)
  (sSeq (sSet 3 (mCall f__law_lot (mCons (mP 0) (mCons (mK (.int 2)) mNil))))
  (sRet (mIf (tV (mEq (mP 2) (mK (.str t_say)))) (mTp (mCons (mMv 2) (mCons (mMv 3) (mCons (mCall f__law_pick (mCons (mP 0) (mCons (mAdd (mCall f__law_words mNil) (mLst (ret (List.map B.sh [(.str t_always)])))) mNil))) mNil)))) (mTp (mCons (mMv 2) (mCons (mMv 3) mNil))))))))))
def ce0__law_row : M B :=
  (mCall f__law_event (mCons (mP 0) mNil))
def f__law_row : Fn := mkFn 2 3
  (sRet (mTuple (mComp (.one 2) (itRange (mCall f__law_lot (mCons (mP 0) (mCons (mAdd (mP 1) (mK (.int 1))) mNil)))) yes ce0__law_row)))
def fb0__law_is_rule : S :=
  (sIf (tOr (tNot (tV (mIsA .str (mIx (mP 0) (mP 2))))) (tV (mNin (mIx (mP 0) (mP 2)) (mSplit (mIx (mP 1) (mP 2)) (mK (.str t__32)))))) (sRet (mK (.bl false))) sPass)
def f__law_is_rule : Fn := mkFn 1 3
  (sSeq (sIf (tOr (tNot (tV (mIsA .tuple (mP 0)))) (tV (mNe (mLen (mP 0)) (mK (.int 7))))) (sRet (mK (.bl false))) sPass)
  (sSeq (sSet 1 (mLst (ret (List.map B.sh [(.str t_both_32either_32last), (.str t_own_32win), (.str t_morning_32now), (.str t_morning_32now), (.str t_day_32use)]))))
  (sSeq (sFor (.one 2) (itRange (mK (.int 5))) fb0__law_is_rule)
  (sRet (mAnd (mIsA .bool (mIx (mP 0) (mK (.int 5)))) (mIsA .bool (mIx (mP 0) (mK (.int 6)))))))))
def f__law_is_event : Fn := mkFn 1 1
  (sSeq (sIf (tOr (tNot (tV (mIsA .tuple (mP 0)))) (tOr (tV (mEq (mP 0) (mK (.tup [])))) (tNot (tV (mIsA .str (mIx (mP 0) (mK (.int 0)))))))) (sRet (mK (.bl false))) sPass)
  (sSeq (sIf (tV (mEq (mIx (mP 0) (mK (.int 0))) (mK (.str t_morning)))) (sRet (mEq (mLen (mP 0)) (mK (.int 1)))) sPass)
  (sSeq (sIf (tOr (tV (mNin (mIx (mP 0) (mK (.int 0))) (mK (.tup [(.str t_clear), (.str t_come), (.str t_court), (.str t_paper), (.str t_say)])))) (tV (mNe (mLen (mP 0)) (mIf (tV (mEq (mIx (mP 0) (mK (.int 0))) (mK (.str t_say)))) (mK (.int 3)) (mK (.int 2)))))) (sRet (mK (.bl false))) sPass)
  (sSeq (sIf (tOr (tV (mIsA .bool (mIx (mP 0) (mK (.int 1))))) (tNot (tV (mIsA .int (mIx (mP 0) (mK (.int 1))))))) (sRet (mK (.bl false))) sPass)
  (sSeq (sIf (tNot (tV (mLeLe (mK (.int 0)) (mIx (mP 0) (mK (.int 1))) (mIf (tV (mEq (mIx (mP 0) (mK (.int 0))) (mK (.str t_come)))) (mK (.int 2)) (mK (.int 1)))))) (sRet (mK (.bl false))) sPass)
  (sRet (mOr (mEq (mLen (mP 0)) (mK (.int 2))) (mAnd (mIsA .str (mIx (mP 0) (mK (.int 2)))) (mIn (mIx (mP 0) (mK (.int 2))) (mK (.tup [(.str t_always), (.str t_bar), (.str t_no), (.str t_once)])))))))))))
def cc0__law_is_row : M Bool :=
  (tNot (tV (mCall f__law_is_event (mCons (mV 1) mNil))))
def ce0__law_is_row : M B :=
  (mV 1)
def f__law_is_row : Fn := mkFn 1 2
  (sSeq (sIf (tOr (tNot (tV (mIsA .tuple (mP 0)))) (tV (mGt (mLen (mP 0)) (mK (.int 60))))) (sRet (mK (.bl false))) sPass)
  (sRet (mEq (mComp (.one 1) (items (mV 0)) cc0__law_is_row ce0__law_is_row) (mLst (ret (List.map B.sh []))))))
def f__law_odd : Fn := mkFn 1 2
  (sSeq (sSet 1 (mLst (mCons (mK .non) (mCons (mK (.bl true)) (mCons (mK (.bl false)) (mCons (mK (.int 0)) (mCons (mK (.int 1)) (mCons (mK (.int 2)) (mCons (mK (.int 3)) (mCons (mK (.int (-1))) (mCons (mPow (mK (.int 10)) (mK (.int 30))) (mCons (mK (.str t_empty)) (mCons (mK (.str t_both)) (mCons (mK (.str t_win)) (mCons (mK (.str t_now)) (mCons (mK (.str t_day)) (mCons (mK (.str t_always)) (mCons (mK (.str t_once)) (mCons (mK (.str t_come)) mNil)))))))))))))))))))
  (sSeq (sSet 1 (mAdd (mP 1) (mLst (mCons (mK (.str t_Say)) (mCons (mK (.tup [])) (mCons (mLst (ret (List.map B.sh []))) (mCons (mK (.tup [(.str t_morning)])) (mCons (mK (.tup [(.str t_come), (.int 2)])) (mCons (mK (.tup [(.str t_paper), (.bl true)])) (mCons (mK (.tup [(.str t_say), (.int 0), (.str t_bar)])) (mCons (mK (.tup [(.str t_say), (.int 1)])) mNil)))))))))))
  (sRet (mCall f__law_pick (mCons (mP 0) (mCons (mV 1) mNil))))))
def f__law_bent : Nat → Fn
  | 0 => fun _ => none
  | n + 1 => mkFn 2 4
    (sSeq (sIf (tOr (tNot (tV (mIsA .tuple (mP 1)))) (tOr (tV (mEq (mP 1) (mK (.tup [])))) (tV (mEq (mCall f__law_lot (mCons (mP 0) (mCons (mK (.int 7)) mNil))) (mK (.int 0)))))) (sRet (mIf (tV (mIsA .bool (mP 1))) (mNot (mP 1)) (mCall f__law_odd (mCons (mP 0) mNil)))) sPass)
  (sSeq (sPar [2, 3] (mCons (mCall f__law_lot (mCons (mP 0) (mCons (mLen (mP 1)) mNil))) (mCons (mCall f__law_lot (mCons (mP 0) (mCons (mK (.int 11)) mNil))) mNil)))
  (sSeq (sIf (tV (mEq (mP 3) (mK (.int 0)))) (sRet (mAdd (mSl (mP 1) none (some (mP 2))) (mSl (mP 1) (some (mAdd (mP 2) (mK (.int 1)))) none))) sPass)
  (sSeq (sIf (tV (mEq (mP 3) (mK (.int 1)))) (sRet (mAdd (mSl (mP 1) none (some (mAdd (mP 2) (mK (.int 1))))) (mSl (mP 1) (some (mP 2)) none))) sPass)
  (sSeq (sIf (tV (mEq (mP 3) (mK (.int 2)))) (sRet (mAdd (mAdd (mSl (mP 1) none (some (mP 2))) (mTup (mCons (mCall f__law_odd (mCons (mP 0) mNil)) mNil))) (mSl (mP 1) (some (mP 2)) none))) sPass)
  (sSeq (sIf (tV (mEq (mP 3) (mK (.int 3)))) (sRet (mList (mP 1))) sPass)
  (sRet (mAdd (mAdd (mSl (mP 1) none (some (mP 2))) (mTup (mCons (mCall (f__law_bent n) (mCons (mP 0) (mCons (mIx (mP 1) (mP 2)) mNil))) mNil))) (mSl (mP 1) (some (mAdd (mP 2) (mK (.int 1)))) none)))))))))
def cc0__law_near : M Bool :=
  (tV (mNe (mP 4) (mIx (mP 0) (mP 3))))
def ce0__law_near : M B :=
  (mAdd (mAdd (mSl (mP 0) none (some (mP 3))) (mTup (mCons (mV 4) mNil))) (mSl (mP 0) (some (mAdd (mP 3) (mK (.int 1)))) none))
def fb0__law_near : S :=
  (sSet 1 (mAdd (mP 1) (mComp (.one 4) (items (mIx (mP 2) (mP 3))) cc0__law_near ce0__law_near)))
def f__law_near : Fn := mkFn 1 5
  (sSeq (sPar [1, 2] (mCons (mLst (ret (List.map B.sh []))) (mCons (mCall f__law_values mNil) mNil)))
  (sSeq (sFor (.one 3) (itRange (mK (.int 7))) fb0__law_near)
  (sRet (mSorted (mP 1)))))
def f_need_row : Fn := mkFn 1 1
  (sIf (tNot (tV (mCall f_are_events (mCons (mP 0) mNil)))) (sRaise 2) sPass)
def f_begin : Fn := mkFn 0 0
  (sRet (mK (.tup [(.tup [(.str t_no), (.str t_no)]), (.tup [(.bl false), (.bl false)]), (.tup [(.str t_no), (.str t_no)]), (.tup [(.bl false), (.bl false)]), (.bl true)])))
def f_put_at : Fn := mkFn 3 3
  (sRet (mIf (tV (mEq (mP 1) (mK (.int 0)))) (mTup (mCons (mV 2) (mCons (mIx (mP 0) (mK (.int 1))) mNil))) (mTup (mCons (mIx (mP 0) (mK (.int 0))) (mCons (mV 2) mNil)))))
def f_spoken : Fn := mkFn 4 4
  (sSeq (sIf (tV (mEq (mIx (mP 0) (mK (.int 0))) (mK (.str t_last)))) (sSet 1 (mK (.tup [(.str t_no), (.str t_no)]))) sPass)
  (sRet (mCall f_put_at (mCons (mP 1) (mCons (mP 2) (mCons (mP 3) mNil))))))
def ce0_worded : M B :=
  (mIf (tAnd (tV (mIx (mP 0) (mK (.int 5)))) (tV (mP 5))) (mK (.str t_no)) (mV 4))
def f_worded : Fn := mkFn 4 6
  (sSeq (sIf (tAnd (tV (mNotN (mP 3))) (tV (mIx (mP 0) (mK (.int 6))))) (sSet 1 (mCall f_spoken (mCons (mP 0) (mCons (mP 1) (mCons (mP 3) (mCons (mK (.str t_once)) mNil)))))) sPass)
  (sRet (mTuple (mComp (.tup [4, 5]) (itZip (mV 1) (mV 2)) yes ce0_worded))))
def ce0_may : M B :=
  (mIn (mP 7) (mK (.tup [(.str t_always), (.str t_once)])))
def f_may : Fn := mkFn 5 8
  (sSeq (sIf (tV (mNe (mP 3) (mK c_OTHER))) (sRet (mNot (mIx (mP 2) (mP 3)))) sPass)
  (sSeq (sSet 5 (mCall f_worded (mCons (mP 0) (mCons (mP 1) (mCons (mP 2) (mCons (mP 4) mNil))))))
  (sSeq (sIf (tAnd (tV (mEq (mIx (mP 0) (mK (.int 1))) (mK (.str t_win)))) (tV (mIn (mK (.str t_bar)) (mP 5)))) (sRet (mK (.bl false))) sPass)
  (sSeq (sSet 6 (mComp (.one 7) (items (mV 5)) yes ce0_may))
  (sRet (mIf (tV (mEq (mIx (mP 0) (mK (.int 0))) (mK (.str t_both)))) (mAll (mP 6)) (mAny (mP 6))))))))
def ce0_used_up : M B :=
  (mIf (tV (mEq (mP 1) (mK (.str t_once)))) (mK (.str t_no)) (mV 1))
def f_used_up : Fn := mkFn 1 2
  (sRet (mTuple (mComp (.one 1) (items (mV 0)) yes ce0_used_up)))
def f_come : Fn := mkFn 4 9
  (sSeq (sUnp [4, 5, 6, 7, 8] (mV 1))
  (sSeq (sIf (tNot (tV (mP 8))) (sRet (mTup (mCons (mV 1) (mCons (mK (.str t_gone)) mNil)))) sPass)
  (sSeq (sIf (tNot (tV (mCall f_may (mCons (mP 0) (mCons (mV 6) (mCons (mV 7) (mCons (mP 2) (mCons (mP 3) mNil)))))))) (sRet (mTup (mCons (mV 1) (mCons (mK (.str t_refused)) mNil)))) sPass)
  (sSeq (sIf (tAnd (tV (mEq (mP 2) (mK c_OTHER))) (tV (mEq (mIx (mP 0) (mK (.int 4))) (mK (.str t_use))))) (sPar [4, 6] (mCons (mCall f_used_up (mCons (mV 4) mNil)) (mCons (mCall f_used_up (mCons (mV 6) mNil)) mNil))) sPass)
  (sRet (mTup (mCons (mTup (mCons (mV 4) (mCons (mV 5) (mCons (mV 6) (mCons (mV 7) (mCons (mK (.bl false)) mNil)))))) (mCons (mK (.str t_handed)) mNil))))))))
def ce0_morning : M B :=
  (mIf (tAnd (tV (mEq (mP 8) (mK (.str t_once)))) (tV (mEq (mP 9) (mK (.str t_once))))) (mK (.str t_no)) (mV 8))
def f_morning : Fn := mkFn 2 10
  (sSeq (sUnp [2, 3, 4, 5, 6] (mV 1))
  (sSeq (sIf (tV (mEq (mIx (mP 0) (mK (.int 4))) (mK (.str t_day)))) (sSeq (sSet 7 (mLZip (mV 2) (mV 4)))
  (sSet 2 (mTuple (mComp (.tup [8, 9]) (items (mV 7)) yes ce0_morning)))) sPass)
  (sRet (mTp (mCons (mMv 2) (mCons (mMv 3) (mCons (mMv 2) (mCons (mMv 3) (mCons (mK (.bl true)) mNil)))))))))
def f_step : Fn := mkFn 3 8
  (sSeq (sUnp [3, 4, 5, 6, 7] (mV 1))
  (sSeq (sIf (tV (mEq (mIx (mP 2) (mK (.int 0))) (mK (.str t_come)))) (sRet (mCall f_come (mCons (mP 0) (mCons (mP 1) (mCons (mIx (mP 2) (mK (.int 1))) (mCons (mK .non) mNil)))))) sPass)
  (sSeq (sIf (tV (mEq (mIx (mP 2) (mK (.int 0))) (mK (.str t_paper)))) (sRet (mCall f_come (mCons (mP 0) (mCons (mP 1) (mCons (mK c_OTHER) (mCons (mIx (mP 2) (mK (.int 1))) mNil)))))) sPass)
  (sSeq (sIf (tV (mEq (mIx (mP 2) (mK (.int 0))) (mK (.str t_morning)))) (sRet (mTup (mCons (mCall f_morning (mCons (mP 0) (mCons (mP 1) mNil))) (mCons (mK (.str t_noted)) mNil)))) sPass)
  (sSeq (sIf (tV (mEq (mIx (mP 2) (mK (.int 0))) (mK (.str t_say)))) (sSeq (sSet 3 (mCall f_spoken (mCons (mP 0) (mCons (mV 3) (mCons (mIx (mP 2) (mK (.int 1))) (mCons (mIx (mP 2) (mK (.int 2))) mNil))))))
  (sSet 5 (mIf (tV (mEq (mIx (mP 0) (mK (.int 2))) (mK (.str t_now)))) (mV 3) (mV 5)))) (sSeq (sSet 4 (mCall f_put_at (mCons (mV 4) (mCons (mIx (mP 2) (mK (.int 1))) (mCons (mEq (mIx (mP 2) (mK (.int 0))) (mK (.str t_court))) mNil)))))
  (sSet 6 (mIf (tV (mEq (mIx (mP 0) (mK (.int 3))) (mK (.str t_now)))) (mV 4) (mV 6)))))
  (sRet (mTup (mCons (mTup (mCons (mV 3) (mCons (mV 4) (mCons (mV 5) (mCons (mV 6) (mCons (mV 7) mNil)))))) (mCons (mK (.str t_noted)) mNil)))))))))
def fb0_led : S :=
  (sSeq (sUnp [2, 5] (mCall f_step (mCons (mP 0) (mCons (mV 2) (mCons (mV 4) mNil)))))
  (sDrop (mApp 3 (mV 5))))
def f_led : Fn := mkFn 2 6
  (sSeq (sSet 2 (mCall f_begin mNil))
  (sSeq (sSet 3 (mLst (ret (List.map B.sh []))))
  (sSeq (sFor (.one 4) (items (mV 1)) fb0_led)
  (sRet (mTp (mCons (mMv 2) (mCons (mMv 3) mNil)))))))
def ce0_truly_may : M B :=
  (mCall f_may (mCons (mP 0) (mCons (mIx (mP 1) (mK (.int 0))) (mCons (mIx (mP 1) (mK (.int 1))) (mCons (mV 3) (mCons (mIf (tV (mEq (mP 3) (mK c_OTHER))) (mV 2) (mK .non)) mNil))))))
def f_truly_may : Fn := mkFn 3 4
  (sRet (mTuple (mComp (.one 3) (itRange (mK (.int 3))) yes ce0_truly_may)))
def ce0_door_lets : M B :=
  (mCall f_may (mCons (mP 0) (mCons (mIx (mP 1) (mK (.int 2))) (mCons (mIx (mP 1) (mK (.int 3))) (mCons (mV 2) (mCons (mK .non) mNil))))))
def f_door_lets : Fn := mkFn 2 3
  (sRet (mTuple (mComp (.one 2) (itRange (mK (.int 3))) yes ce0_door_lets)))
def f_first_stand : Fn := mkFn 1 1
  (sSeq (sDrop (mCall f_need_rule (mCons (mP 0) mNil)))
  (sRet (mCall f_begin mNil)))
def f_stand_behind : Fn := mkFn 2 2
  (sSeq (sDrop (mCall f_need_rule (mCons (mP 0) mNil)))
  (sSeq (sDrop (mCall f_need_row (mCons (mP 1) mNil)))
  (sRet (mIx (mCall f_led (mCons (mP 0) (mCons (mP 1) mNil))) (mK (.int 0))))))
def f_told : Fn := mkFn 2 2
  (sSeq (sDrop (mCall f_need_rule (mCons (mP 0) mNil)))
  (sSeq (sDrop (mCall f_need_row (mCons (mP 1) mNil)))
  (sRet (mIx (mCall f_led (mCons (mP 0) (mCons (mP 1) mNil))) (mK (.int 1))))))
def f_who_may : Fn := mkFn 2 3
  (sSeq (sDrop (mCall f_need_rule (mCons (mP 0) mNil)))
  (sSeq (sDrop (mCall f_need_row (mCons (mP 1) mNil)))
  (sSeq (sSet 2 (mIx (mCall f_led (mCons (mP 0) (mCons (mP 1) mNil))) (mK (.int 0))))
  (sRet (mTup (mCons (mCall f_truly_may (mCons (mP 0) (mCons (mV 2) (mCons (mK .non) mNil)))) (mCons (mCall f_door_lets (mCons (mP 0) (mCons (mV 2) mNil))) mNil)))))))
def f__law_new : Fn := mkFn 0 0
  (sRet (mK (.tup [(.tup [(.str t_no), (.str t_no)]), (.tup [(.bl false), (.bl false)]), (.tup [(.str t_no), (.str t_no)]), (.tup [(.bl false), (.bl false)]), (.bl true)])))
def f__law_said : Fn := mkFn 4 5
  (sSeq (sSet 4 (mIf (tV (mEq (mIx (mP 0) (mK (.int 0))) (mK (.str t_last)))) (mLst (ret (List.map B.sh [(.str t_no), (.str t_no)]))) (mList (mP 1))))
  (sSeq (sIxSet 4 (mV 2) (mV 3))
  (sRet (mTuple (mP 4)))))
def cc0__law_may : M Bool :=
  (tNot (tAnd (tV (mIx (mP 0) (mK (.int 5)))) (tV (mIx (mP 2) (mP 6)))))
def ce0__law_may : M B :=
  (mIx (mP 1) (mP 6))
def cc1__law_may : M Bool :=
  (tOr (tV (mEq (mP 8) (mK (.str t_always)))) (tV (mEq (mP 8) (mK (.str t_once)))))
def ce1__law_may : M B :=
  (mV 8)
def f__law_may : Fn := mkFn 5 9
  (sSeq (sIf (tV (mLt (mP 3) (mK (.int 2)))) (sRet (mNot (mIx (mP 2) (mP 3)))) sPass)
  (sSeq (sIf (tAnd (tV (mNotN (mP 4))) (tV (mIx (mP 0) (mK (.int 6))))) (sSet 1 (mCall f__law_said (mCons (mP 0) (mCons (mP 1) (mCons (mP 4) (mCons (mK (.str t_once)) mNil)))))) sPass)
  (sSeq (sSet 5 (mComp (.one 6) (items (mK (.tup [(.int 0), (.int 1)]))) cc0__law_may ce0__law_may))
  (sSeq (sIf (tAnd (tV (mIn (mK (.str t_bar)) (mP 5))) (tV (mEq (mIx (mP 0) (mK (.int 1))) (mK (.str t_win))))) (sRet (mK (.bl false))) sPass)
  (sSeq (sSet 7 (mLen (mComp (.one 8) (items (mV 5)) cc1__law_may ce1__law_may)))
  (sRet (mIf (tV (mEq (mIx (mP 0) (mK (.int 0))) (mK (.str t_both)))) (mEq (mP 7) (mK (.int 2))) (mGt (mP 7) (mK (.int 0))))))))))
def ce0__law_comes : M B :=
  (mIf (tV (mEq (mP 9) (mK (.str t_once)))) (mK (.str t_no)) (mV 9))
def ce1__law_comes : M B :=
  (mIf (tV (mEq (mP 9) (mK (.str t_once)))) (mK (.str t_no)) (mV 9))
def f__law_comes : Fn := mkFn 4 10
  (sSeq (sUnp [4, 5, 6, 7, 8] (mV 1))
  (sSeq (sIf (tNot (tV (mP 8))) (sRet (mTup (mCons (mV 1) (mCons (mK (.str t_gone)) mNil)))) sPass)
  (sSeq (sIf (tNot (tV (mCall f__law_may (mCons (mP 0) (mCons (mV 6) (mCons (mV 7) (mCons (mP 2) (mCons (mP 3) mNil)))))))) (sRet (mTup (mCons (mV 1) (mCons (mK (.str t_refused)) mNil)))) sPass)
  (sSeq (sIf (tAnd (tV (mEq (mP 2) (mK (.int 2)))) (tV (mEq (mIx (mP 0) (mK (.int 4))) (mK (.str t_use))))) (sSeq (sSet 4 (mTuple (mComp (.one 9) (items (mV 4)) yes ce0__law_comes)))
  (sSet 6 (mTuple (mComp (.one 9) (items (mV 6)) yes ce1__law_comes)))) sPass)
  (sRet (mTup (mCons (mTup (mCons (mV 4) (mCons (mV 5) (mCons (mV 6) (mCons (mV 7) (mCons (mK (.bl false)) mNil)))))) (mCons (mK (.str t_handed)) mNil))))))))
def ce0__law_on : M B :=
  (mAnd (mEq (mIx (mP 3) (mP 10)) (mK (.str t_once))) (mEq (mIx (mP 5) (mP 10)) (mK (.str t_once))))
def ce1__law_on : M B :=
  (mIf (tV (mIx (mP 9) (mP 10))) (mK (.str t_no)) (mIx (mP 3) (mP 10)))
def f__law_on : Fn := mkFn 3 12
  (sSeq (sUnp [3, 4, 5, 6, 7] (mV 1))
  (sSeq (sIf (tV (mIn (mIx (mP 2) (mK (.int 0))) (mK (.tup [(.str t_come), (.str t_paper)])))) (sSeq (sSet 8 (mIf (tV (mEq (mIx (mP 2) (mK (.int 0))) (mK (.str t_paper)))) (mIx (mP 2) (mK (.int 1))) (mK .non)))
  (sRet (mCall f__law_comes (mCons (mP 0) (mCons (mP 1) (mCons (mIf (tV (mEq (mIx (mP 2) (mK (.int 0))) (mK (.str t_paper)))) (mK (.int 2)) (mIx (mP 2) (mK (.int 1)))) (mCons (mV 8) mNil))))))) sPass)
  (sSeq (sIf (tV (mEq (mIx (mP 2) (mK (.int 0))) (mK (.str t_morning)))) (sSeq (sIf (tV (mEq (mIx (mP 0) (mK (.int 4))) (mK (.str t_day)))) (sSeq (sSet 9 (mComp (.one 10) (items (mK (.tup [(.int 0), (.int 1)]))) yes ce0__law_on))
  (sSet 3 (mTuple (mComp (.one 10) (items (mK (.tup [(.int 0), (.int 1)]))) yes ce1__law_on)))) sPass)
  (sRet (mTup (mCons (mTup (mCons (mV 3) (mCons (mV 4) (mCons (mV 3) (mCons (mV 4) (mCons (mK (.bl true)) mNil)))))) (mCons (mK (.str t_noted)) mNil))))) sPass)
  (sSeq (sIf (tV (mEq (mIx (mP 2) (mK (.int 0))) (mK (.str t_say)))) (sSeq (sSet 3 (mCall f__law_said (mCons (mP 0) (mCons (mV 3) (mCons (mIx (mP 2) (mK (.int 1))) (mCons (mIx (mP 2) (mK (.int 2))) mNil))))))
  (sRet (mTup (mCons (mTup (mCons (mV 3) (mCons (mV 4) (mCons (mIf (tV (mEq (mIx (mP 0) (mK (.int 2))) (mK (.str t_now)))) (mV 3) (mV 5)) (mCons (mV 6) (mCons (mV 7) mNil)))))) (mCons (mK (.str t_noted)) mNil))))) sPass)
  (sSeq (sSet 11 (mList (mP 4)))
  (sSeq (sIxSet 11 (mIx (mP 2) (mK (.int 1))) (mEq (mIx (mP 2) (mK (.int 0))) (mK (.str t_court))))
  (sSeq (sSet 11 (mTuple (mP 11)))
  (sRet (mTup (mCons (mTup (mCons (mV 3) (mCons (mV 11) (mCons (mV 5) (mCons (mIf (tV (mEq (mIx (mP 0) (mK (.int 3))) (mK (.str t_now)))) (mV 11) (mV 6)) (mCons (mV 7) mNil)))))) (mCons (mK (.str t_noted)) mNil)))))))))))
def ce0__law_rights : M B :=
  (mCall f__law_may (mCons (mP 0) (mCons (mIx (mP 1) (mK (.int 0))) (mCons (mIx (mP 1) (mK (.int 1))) (mCons (mV 3) (mCons (mP 2) mNil))))))
def f__law_rights : Fn := mkFn 3 4
  (sRet (mComp (.one 3) (items (mK (.tup [(.int 0), (.int 1), (.int 2)]))) yes ce0__law_rights))
def fb0__law_led : S :=
  (sSeq (sUnp [2, 5] (mCall f__law_on (mCons (mP 0) (mCons (mV 2) (mCons (mV 4) mNil)))))
  (sDrop (mApp 3 (mV 5))))
def f__law_led : Fn := mkFn 2 6
  (sSeq (sPar [2, 3] (mCons (mCall f__law_new mNil) (mCons (mLst (ret (List.map B.sh []))) mNil)))
  (sSeq (sFor (.one 4) (items (mV 1)) fb0__law_led)
  (sRet (mTp (mCons (mMv 2) (mCons (mMv 3) mNil))))))
def ce0__law_known : M B :=
  (mCall f__law_may (mCons (mP 0) (mCons (mIx (mP 1) (mK (.int 2))) (mCons (mIx (mP 1) (mK (.int 3))) (mCons (mV 2) (mCons (mK .non) mNil))))))
def f__law_known : Fn := mkFn 2 3
  (sRet (mTuple (mComp (.one 2) (items (mK (.tup [(.int 0), (.int 1), (.int 2)]))) yes ce0__law_known)))
def f_need_harm : Fn := mkFn 1 1
  (sIf (tOr (tNot (tV (mIsA .str (mP 0)))) (tV (mNin (mP 0) (mK c_HARMS)))) (sRaise 3) sPass)
def f_harms_of : Fn := mkFn 4 6
  (sSeq (sIf (tV (mNin (mIx (mP 2) (mK (.int 0))) (mK (.tup [(.str t_come), (.str t_paper)])))) (sRet (mLst (ret (List.map B.sh [])))) sPass)
  (sSeq (sSet 4 (mCall f_truly_may (mCons (mP 0) (mCons (mP 1) (mCons (mIf (tV (mEq (mIx (mP 2) (mK (.int 0))) (mK (.str t_paper)))) (mIx (mP 2) (mK (.int 1))) (mK .non)) mNil)))))
  (sSeq (sSet 5 (mIx (mP 4) (mIf (tV (mEq (mIx (mP 2) (mK (.int 0))) (mK (.str t_come)))) (mIx (mP 2) (mK (.int 1))) (mK c_OTHER))))
  (sSeq (sIf (tV (mEq (mP 3) (mK (.str t_handed)))) (sRet (mIf (tV (mP 5)) (mLst (ret (List.map B.sh []))) (mLst (ret (List.map B.sh [(.str t_wrong)]))))) sPass)
  (sSeq (sIf (tV (mEq (mP 3) (mK (.str t_gone)))) (sRet (mIf (tV (mP 5)) (mLst (ret (List.map B.sh [(.str t_two)]))) (mLst (ret (List.map B.sh []))))) sPass)
  (sRet (mIf (tV (mP 5)) (mLst (ret (List.map B.sh [(.str t_kept)]))) (mMul (mLst (ret (List.map B.sh [(.str t_nobody)]))) (mInt (mNin (mK (.bl true)) (mP 4)))))))))))
def wb0_way_to : S :=
  (sSeq (sUnp [1, 3] (mIx (mP 0) (mP 1)))
  (sSet 2 (mAdd (mTup (mCons (mV 3) mNil)) (mP 2))))
def f_way_to : Fn := mkFn 2 4
  (sSeq (sSet 2 (mK (.tup [])))
  (sSeq (sWhile (tV (mNotN (mIx (mP 0) (mP 1)))) wb0_way_to)
  (sRet (mMv 2))))
def fb0_search : S :=
  (sSeq (sUnp [9, 10] (mCall f_step (mCons (mP 0) (mCons (mV 7) (mCons (mV 8) mNil)))))
  (sSeq (sIf (tV (mIn (mP 2) (mCall f_harms_of (mCons (mP 0) (mCons (mV 7) (mCons (mV 8) (mCons (mV 10) mNil))))))) (sRet (mTup (mCons (mV 4) (mCons (mAdd (mCall f_way_to (mCons (mV 4) (mCons (mV 7) mNil))) (mTup (mCons (mV 8) mNil))) mNil)))) sPass)
  (sIf (tV (mNin (mP 9) (mP 4))) (sSeq (sIxSet 4 (mV 9) (mTup (mCons (mV 7) (mCons (mV 8) mNil))))
  (sDrop (mApp 6 (mV 9)))) sPass)))
def fb1_search : S :=
  (sFor (.one 8) (items (mV 1)) fb0_search)
def wb0_search : S :=
  (sSeq (sSet 6 (mLst (ret (List.map B.sh []))))
  (sSeq (sFor (.one 7) (items (mV 5)) fb1_search)
  (sSet 5 (mV 6))))
def f_search : Fn := mkFn 3 11
  (sSeq (sSet 3 (mCall f_begin mNil))
  (sSeq (sPar [4, 5] (mCons (mDic1 (mV 3) (mK .non)) (mCons (mLst (mCons (mV 3) mNil)) mNil)))
  (sSeq (sWhile (tV (mNe (mP 5) (mLst (ret (List.map B.sh []))))) wb0_search)
  (sRet (mTp (mCons (mMv 4) (mCons (mK .non) mNil)))))))
def fb0_harms_in : S :=
  (sIxSet 1 (mV 4) (mK (.bl true)))
def fb1_harms_in : S :=
  (sFor (.one 4) (items (mCall f_harms_of (mCons (mP 0) (mCons (mV 2) (mCons (mV 3) (mCons (mIx (mCall f_step (mCons (mP 0) (mCons (mV 2) (mCons (mV 3) mNil)))) (mK (.int 1))) mNil)))))) fb0_harms_in)
def fb2_harms_in : S :=
  (sFor (.one 3) (items (mK c_EVENTS)) fb1_harms_in)
def f_harms_in : Fn := mkFn 1 5
  (sSeq (sSet 1 mDic0)
  (sSeq (sFor (.one 2) (itKeys (mIx (mCall f_search (mCons (mP 0) (mCons (mK c_EVENTS) (mCons (mK (.str t_empty)) mNil)))) (mK (.int 0)))) fb2_harms_in)
  (sRet (mSorted (mP 1)))))
def f_harms : Fn := mkFn 1 1
  (sSeq (sDrop (mCall f_need_rule (mCons (mP 0) mNil)))
  (sRet (mCall f_harms_in (mCons (mP 0) mNil))))
def f_first_row : Fn := mkFn 2 2
  (sSeq (sDrop (mCall f_need_rule (mCons (mP 0) mNil)))
  (sSeq (sDrop (mCall f_need_harm (mCons (mP 1) mNil)))
  (sRet (mIx (mCall f_search (mCons (mP 0) (mCons (mK c_EVENTS) (mCons (mP 1) mNil)))) (mK (.int 1))))))
def f_count_stands : Fn := mkFn 1 1
  (sSeq (sDrop (mCall f_need_rule (mCons (mP 0) mNil)))
  (sRet (mLen (mIx (mCall f_search (mCons (mP 0) (mCons (mK c_EVENTS) (mCons (mK (.str t_empty)) mNil)))) (mK (.int 0))))))
def ce0__law_events : M B :=
  (mTup (mCons (mK (.str t_come)) (mCons (mV 1) mNil)))
def ce1__law_events : M B :=
  (mTup (mCons (mV 3) (mCons (mV 2) mNil)))
def ce2__law_events : M B :=
  (mTup (mCons (mK (.str t_say)) (mCons (mV 2) (mCons (mV 3) mNil))))
def fb0__law_events : S :=
  (sSeq (sSet 0 (mAdd (mP 0) (mComp (.one 3) (items (mK (.tup [(.str t_clear), (.str t_court), (.str t_paper)]))) yes ce1__law_events)))
  (sSet 0 (mAdd (mP 0) (mComp (.one 3) (items (mCall f__law_words mNil)) yes ce2__law_events))))
def f__law_events : Fn := mkFn 0 4
  (sSeq (sSet 0 (mAdd (mLst (ret (List.map B.sh [(.tup [(.str t_morning)])]))) (mComp (.one 1) (items (mK (.tup [(.int 0), (.int 1), (.int 2)]))) yes ce0__law_events)))
  (sSeq (sFor (.one 2) (items (mK (.tup [(.int 0), (.int 1)]))) fb0__law_events)
  (sRet (mSorted (mP 0)))))
def f__law_harms : Fn := mkFn 4 8
  (sSeq (sIf (tV (mNin (mIx (mP 2) (mK (.int 0))) (mK (.tup [(.str t_come), (.str t_paper)])))) (sRet (mLst (ret (List.map B.sh [])))) sPass)
  (sSeq (sSet 4 (mIf (tV (mEq (mIx (mP 2) (mK (.int 0))) (mK (.str t_paper)))) (mIx (mP 2) (mK (.int 1))) (mK .non)))
  (sSeq (sSet 5 (mCall f__law_rights (mCons (mP 0) (mCons (mP 1) (mCons (mV 4) mNil)))))
  (sSeq (sSet 6 (mIf (tV (mEq (mIx (mP 2) (mK (.int 0))) (mK (.str t_paper)))) (mIx (mP 5) (mK (.int 2))) (mIx (mP 5) (mIx (mP 2) (mK (.int 1))))))
  (sSeq (sSet 7 (mAdd (mMul (mLst (ret (List.map B.sh [(.str t_kept)]))) (mInt (mAnd (mP 6) (mEq (mP 3) (mK (.str t_refused)))))) (mMul (mLst (ret (List.map B.sh [(.str t_two)]))) (mInt (mAnd (mP 6) (mEq (mP 3) (mK (.str t_gone))))))))
  (sSeq (sSet 7 (mAdd (mP 7) (mMul (mLst (ret (List.map B.sh [(.str t_nobody)]))) (mInt (mAnd (mNin (mK (.bl true)) (mP 5)) (mEq (mP 3) (mK (.str t_refused))))))))
  (sRet (mAdd (mP 7) (mMul (mLst (ret (List.map B.sh [(.str t_wrong)]))) (mInt (mAnd (mNot (mP 6)) (mEq (mP 3) (mK (.str t_handed))))))))))))))
def fb0__law_graph : S :=
  (sIxSet 6 (mV 10) (mMin (mV 9) (mGetN 6 (mV 10) (mV 9))))
def fb1__law_graph : S :=
  (sSeq (sUnp [11, 12] (mCall f__law_on (mCons (mP 0) (mCons (mV 8) (mCons (mV 7) mNil)))))
  (sSeq (sFor (.one 10) (items (mCall f__law_harms (mCons (mP 0) (mCons (mV 8) (mCons (mV 7) (mCons (mV 12) mNil)))))) fb0__law_graph)
  (sIf (tV (mNin (mP 11) (mP 3))) (sSeq (sIxSet 3 (mV 11) (mV 9))
  (sDrop (mApp 4 (mV 11)))) sPass)))
def wb0__law_graph : S :=
  (sSeq (sPar [8, 9] (mCons (mIx (mP 4) (mP 5)) (mCons (mAdd (mIx (mP 3) (mIx (mP 4) (mP 5))) (mK (.int 1))) mNil)))
  (sSeq (sFor (.one 7) (items (mV 1)) fb1__law_graph)
  (sSet 5 (mAdd (mP 5) (mK (.int 1))))))
def f__law_graph : Fn := mkFn 2 13
  (sSeq (sSet 2 (mCall f__law_new mNil))
  (sSeq (sPar [3, 4, 5, 6] (mCons (mDic1 (mV 2) (mK (.int 0))) (mCons (mLst (mCons (mV 2) mNil)) (mCons (mK (.int 0)) (mCons mDic0 mNil)))))
  (sSeq (sWhile (tV (mLt (mP 5) (mLen (mP 4)))) wb0__law_graph)
  (sRet (mTp (mCons (mMv 3) (mCons (mMv 6) mNil)))))))
def fb0__law_leads : S :=
  (sSeq (sUnp [6, 7] (mCall f__law_on (mCons (mP 0) (mCons (mV 3) (mCons (mV 5) mNil)))))
  (sPar [4, 3] (mCons (mCall f__law_harms (mCons (mP 0) (mCons (mV 3) (mCons (mV 5) (mCons (mV 7) mNil))))) (mCons (mV 6) mNil))))
def f__law_leads : Fn := mkFn 3 8
  (sSeq (sPar [3, 4] (mCons (mCall f__law_new mNil) (mCons (mLst (ret (List.map B.sh []))) mNil)))
  (sSeq (sFor (.one 5) (items (mV 1)) fb0__law_leads)
  (sRet (mIn (mP 2) (mP 4)))))
def cc0_events_of : M Bool :=
  (tV (mIn (mIx (mP 2) (mK (.int 0))) (mK (.tup [(.str t_come), (.str t_morning)]))))
def ce0_events_of : M B :=
  (mV 2)
def cc1_events_of : M Bool :=
  (tAnd (tV (mIn (mIx (mP 2) (mK (.int 0))) (mK (.tup [(.str t_paper), (.str t_say)])))) (tV (mEq (mIx (mP 2) (mK (.int 1))) (mP 0))))
def ce1_events_of : M B :=
  (mV 2)
def f_events_of : Fn := mkFn 1 3
  (sSeq (sSet 1 (mComp (.one 2) (items (mK c_EVENTS)) cc0_events_of ce0_events_of))
  (sRet (mAdd (mP 1) (mComp (.one 2) (items (mK c_EVENTS)) cc1_events_of ce1_events_of))))
def cc0_alone : M Bool :=
  (tV (mNotN (mIx (mCall f_search (mCons (mP 0) (mCons (mCall f_events_of (mCons (mV 2) mNil)) (mCons (mP 1) mNil)))) (mK (.int 1)))))
def ce0_alone : M B :=
  (mV 2)
def f_alone : Fn := mkFn 2 3
  (sSeq (sDrop (mCall f_need_rule (mCons (mP 0) mNil)))
  (sSeq (sDrop (mCall f_need_harm (mCons (mP 1) mNil)))
  (sRet (mComp (.one 2) (items (mK (.tup [(.int 0), (.int 1)]))) cc0_alone ce0_alone))))
def fb0__law_own : S :=
  (sIf (tOr (tV (mIn (mIx (mP 2) (mK (.int 0))) (mK (.tup [(.str t_come), (.str t_morning)])))) (tAnd (tV (mIn (mIx (mP 2) (mK (.int 0))) (mK (.tup [(.str t_paper), (.str t_say)])))) (tV (mEq (mIx (mP 2) (mK (.int 1))) (mP 0))))) (sDrop (mApp 1 (mV 2))) sPass)
def f__law_own : Fn := mkFn 1 3
  (sSeq (sSet 1 (mLst (ret (List.map B.sh []))))
  (sSeq (sFor (.one 2) (items (mCall f__law_events mNil)) fb0__law_own)
  (sRet (mMv 1))))
def f_need_parent : Fn := mkFn 1 1
  (sIf (tNot (tV (mCall f_is_number (mCons (mP 0) (mCons (mK (.int 1)) mNil))))) (sRaise 4) sPass)
def fb0_way_in : S :=
  (sSeq (sUnp [10, 11] (mCall f_step (mCons (mP 0) (mCons (mV 8) (mCons (mV 9) mNil)))))
  (sSeq (sIf (tAnd (tV (mEq (mP 11) (mK (.str t_handed)))) (tV (mIn (mP 9) (mTup (mCons (mTup (mCons (mK (.str t_come)) (mCons (mK c_OTHER) mNil))) (mCons (mTup (mCons (mK (.str t_paper)) (mCons (mV 2) mNil))) mNil)))))) (sRet (mAdd (mCall f_way_to (mCons (mV 5) (mCons (mV 8) mNil))) (mTup (mCons (mV 9) mNil)))) sPass)
  (sIf (tV (mNin (mP 10) (mP 5))) (sSeq (sIxSet 5 (mV 10) (mTup (mCons (mV 8) (mCons (mV 9) mNil))))
  (sDrop (mApp 7 (mV 10)))) sPass)))
def fb1_way_in : S :=
  (sFor (.one 9) (items (mV 4)) fb0_way_in)
def wb0_way_in : S :=
  (sSeq (sSet 7 (mLst (ret (List.map B.sh []))))
  (sSeq (sFor (.one 8) (items (mV 6)) fb1_way_in)
  (sSet 6 (mV 7))))
def f_way_in : Fn := mkFn 3 12
  (sSeq (sDrop (mCall f_need_rule (mCons (mP 0) mNil)))
  (sSeq (sDrop (mCall f_need_row (mCons (mP 1) mNil)))
  (sSeq (sDrop (mCall f_need_parent (mCons (mP 2) mNil)))
  (sSeq (sPar [3, 4] (mCons (mIx (mCall f_led (mCons (mP 0) (mCons (mP 1) mNil))) (mK (.int 0))) (mCons (mCall f_events_of (mCons (mP 2) mNil)) mNil)))
  (sSeq (sPar [5, 6] (mCons (mDic1 (mV 3) (mK .non)) (mCons (mLst (mCons (mV 3) mNil)) mNil)))
  (sSeq (sWhile (tV (mNe (mP 6) (mLst (ret (List.map B.sh []))))) wb0_way_in)
  (sRet (mK .non))))))))
def cc0_single_changes : M Bool :=
  (tV (mIsN (mIx (mCall f_search (mCons (mV 2) (mCons (mK c_EVENTS) (mCons (mP 1) mNil)))) (mK (.int 1)))))
def ce0_single_changes : M B :=
  (mV 2)
def f_single_changes : Fn := mkFn 2 3
  (sSeq (sDrop (mCall f_need_rule (mCons (mP 0) mNil)))
  (sSeq (sDrop (mCall f_need_harm (mCons (mP 1) mNil)))
  (sSeq (sIf (tV (mIsN (mIx (mCall f_search (mCons (mP 0) (mCons (mK c_EVENTS) (mCons (mP 1) mNil)))) (mK (.int 1))))) (sRet (mLst (mCons (mV 0) mNil))) sPass)
  (sRet (mComp (.one 2) (items (mCall f_rules_near (mCons (mP 0) mNil))) cc0_single_changes ce0_single_changes)))))
def fb0_parted : S :=
  (sSeq (sPar [10, 11] (mCons (mCall f_step (mCons (mP 0) (mCons (mIx (mP 6) (mK (.int 0))) (mCons (mV 8) mNil)))) (mCons (mCall f_step (mCons (mP 1) (mCons (mIx (mP 6) (mK (.int 1))) (mCons (mV 8) mNil)))) mNil)))
  (sSeq (sIf (tV (mNe (mIx (mP 10) (mK (.int 1))) (mIx (mP 11) (mK (.int 1))))) (sRet (mAdd (mP 7) (mTup (mCons (mV 8) mNil)))) sPass)
  (sSeq (sSet 9 (mTup (mCons (mIx (mP 10) (mK (.int 0))) (mCons (mIx (mP 11) (mK (.int 0))) mNil))))
  (sIf (tV (mNin (mP 9) (mP 3))) (sSeq (sIxSet 3 (mV 9) (mK (.bl true)))
  (sDrop (mApp 5 (mTup (mCons (mV 9) (mCons (mAdd (mP 7) (mTup (mCons (mV 8) mNil))) mNil)))))) sPass))))
def fb1_parted : S :=
  (sFor (.one 8) (items (mK c_EVENTS)) fb0_parted)
def wb0_parted : S :=
  (sSeq (sSet 5 (mLst (ret (List.map B.sh []))))
  (sSeq (sFor (.tup [6, 7]) (items (mV 4)) fb1_parted)
  (sSet 4 (mV 5))))
def f_parted : Fn := mkFn 2 12
  (sSeq (sSet 2 (mTup (mCons (mCall f_begin mNil) (mCons (mCall f_begin mNil) mNil))))
  (sSeq (sPar [3, 4] (mCons (mDic1 (mV 2) (mK (.bl true))) (mCons (mLst (mCons (mTup (mCons (mV 2) (mCons (mK (.tup [])) mNil))) mNil)) mNil)))
  (sSeq (sWhile (tV (mNe (mP 4) (mLst (ret (List.map B.sh []))))) wb0_parted)
  (sRet (mK .non)))))
def f_alike : Fn := mkFn 2 2
  (sSeq (sDrop (mCall f_need_rule (mCons (mP 0) mNil)))
  (sSeq (sDrop (mCall f_need_rule (mCons (mP 1) mNil)))
  (sRet (mIsN (mCall f_parted (mCons (mP 0) (mCons (mP 1) mNil)))))))
def f_parting : Fn := mkFn 2 2
  (sSeq (sDrop (mCall f_need_rule (mCons (mP 0) mNil)))
  (sSeq (sDrop (mCall f_need_rule (mCons (mP 1) mNil)))
  (sRet (mCall f_parted (mCons (mP 0) (mCons (mP 1) mNil))))))
def cc0_like_rules : M Bool :=
  (tV (mIsN (mCall f_parted (mCons (mP 0) (mCons (mV 1) mNil)))))
def ce0_like_rules : M B :=
  (mV 1)
def f_like_rules : Fn := mkFn 1 2
  (sSeq (sDrop (mCall f_need_rule (mCons (mP 0) mNil)))
  (sRet (mComp (.one 1) (items (mCall f_rules_near (mCons (mP 0) mNil))) cc0_like_rules ce0_like_rules)))
def f_line_of : Fn := mkFn 2 2
  (sSeq (sIf (tV (mIsA .bool (mP 1))) (sRet (mAdd (mP 0) (mIf (tV (mP 1)) (mK (.str t__58_32yes)) (mK (.str t__58_32no))))) sPass)
  (sRet (mAdd (mAdd (mP 0) (mK (.str t__58_32))) (mP 1))))
def ce0_rule_lines : M B :=
  (mCall f_line_of (mCons (mV 1) (mCons (mV 2) mNil)))
def f_rule_lines : Fn := mkFn 1 3
  (sRet (mComp (.tup [1, 2]) (itZip (mK c_PART_NAMES) (mV 0)) yes ce0_rule_lines))
def f_rule_text : Fn := mkFn 1 1
  (sSeq (sDrop (mCall f_need_rule (mCons (mP 0) mNil)))
  (sRet (mJoinS (mK (.str t__10)) (mCall f_rule_lines (mCons (mP 0) mNil)))))
def cc0_value_in : M Bool :=
  (tV (mEq (mCall f_line_of (mCons (mIx (mK c_PART_NAMES) (mP 0)) (mCons (mV 2) mNil))) (mP 1)))
def ce0_value_in : M B :=
  (mV 2)
def f_value_in : Fn := mkFn 2 3
  (sSeq (sIf (tV (mGe (mP 0) (mLen (mK c_PART_NAMES)))) (sRet (mLst (ret (List.map B.sh [])))) sPass)
  (sRet (mComp (.one 2) (items (mIx (mK c_VALUES) (mP 0))) cc0_value_in ce0_value_in)))
def fb0_read_rule : S :=
  (sSeq (sSet 5 (mCall f_value_in (mCons (mV 3) (mCons (mV 4) mNil))))
  (sSeq (sIf (tV (mEq (mP 5) (mLst (ret (List.map B.sh []))))) stuck sPass)
  (sSet 2 (mAdd (mP 2) (mTup (mCons (mIx (mP 5) (mK (.int 0))) mNil))))))
def f_read_rule : Fn := mkFn 1 6
  (sSeq (sIf (tNot (tV (mIsA .str (mP 0)))) stuck sPass)
  (sSeq (sPar [1, 2] (mCons (mSplit (mP 0) (mK (.str t__10))) (mCons (mK (.tup [])) mNil)))
  (sSeq (sFor (.tup [3, 4]) (itEnum (mV 1)) fb0_read_rule)
  (sSeq (sIf (tNot (tV (mCall f_is_rule (mCons (mV 2) mNil)))) stuck sPass)
  (sRet (mMv 2))))))
def ce0_event_line : M B :=
  (mStr (mP 1))
def f_event_line : Fn := mkFn 1 2
  (sRet (mJoinS (mK (.str t__32)) (mComp (.one 1) (items (mV 0)) yes ce0_event_line)))
def ce0_row_text : M B :=
  (mCall f_event_line (mCons (mV 1) mNil))
def f_row_text : Fn := mkFn 1 2
  (sSeq (sDrop (mCall f_need_row (mCons (mP 0) mNil)))
  (sRet (mJoinS (mK (.str t__10)) (mComp (.one 1) (items (mV 0)) yes ce0_row_text))))
def cc0_event_in : M Bool :=
  (tV (mEq (mCall f_event_line (mCons (mV 1) mNil)) (mP 0)))
def ce0_event_in : M B :=
  (mV 1)
def f_event_in : Fn := mkFn 1 2
  (sRet (mComp (.one 1) (items (mK c_EVENTS)) cc0_event_in ce0_event_in))
def fb0_read_row : S :=
  (sSeq (sSet 5 (mCall f_event_in (mCons (mV 4) mNil)))
  (sSeq (sIf (tV (mEq (mP 5) (mLst (ret (List.map B.sh []))))) stuck sPass)
  (sSet 2 (mAdd (mP 2) (mTup (mCons (mIx (mP 5) (mK (.int 0))) mNil))))))
def f_read_row : Fn := mkFn 1 6
  (sSeq (sIf (tNot (tV (mIsA .str (mP 0)))) stuck sPass)
  (sSeq (sPar [1, 2] (mCons (mIf (tV (mNe (mP 0) (mK (.str t_empty)))) (mSplit (mP 0) (mK (.str t__10))) (mLst (ret (List.map B.sh [])))) (mCons (mK (.tup [])) mNil)))
  (sSeq (sFor (.tup [3, 4]) (itEnum (mV 1)) fb0_read_row)
  (sSeq (sIf (tNot (tV (mCall f_are_events (mCons (mV 2) mNil)))) stuck sPass)
  (sRet (mMv 2))))))
def fb0__law_rule_lines : S :=
  (sSeq (sSet 4 (mIx (mP 0) (mP 3)))
  (sSeq (sIf (tV (mIsA .bool (mP 4))) (sSet 4 (mIf (tV (mP 4)) (mK (.str t_yes)) (mK (.str t_no)))) sPass)
  (sDrop (mApp 2 (mAdd (mAdd (mIx (mP 1) (mP 3)) (mK (.str t__58_32))) (mP 4))))))
def f__law_rule_lines : Fn := mkFn 1 5
  (sSeq (sPar [1, 2] (mCons (mSplit (mK (.str t_words_32bars_32lag_32court_32once_32void_32paper)) (mK (.str t__32))) (mCons (mLst (ret (List.map B.sh []))) mNil)))
  (sSeq (sFor (.one 3) (itRange (mK (.int 7))) fb0__law_rule_lines)
  (sRet (mMv 2))))
def ce0__law_event_lines : M B :=
  (mStr (mP 2))
def ce1__law_event_lines : M B :=
  (mJoinS (mK (.str t__32)) (mComp (.one 2) (items (mV 1)) yes ce0__law_event_lines))
def f__law_event_lines : Fn := mkFn 1 3
  (sRet (mComp (.one 1) (items (mV 0)) yes ce1__law_event_lines))
def fb0__law_due_rule : S :=
  (sSeq (sSet 6 (mAdd (mAdd (mMul (mK (.tup [(.str t_x)])) (mP 3)) (mTup (mCons (mV 5) mNil))) (mMul (mK (.tup [(.str t_x)])) (mSub (mK (.int 6)) (mP 3)))))
  (sSet 4 (mAdd (mP 4) (mMul (mLst (mCons (mV 5) mNil)) (mInt (mEq (mIx (mCall f__law_rule_lines (mCons (mV 6) mNil)) (mP 3)) (mIx (mP 1) (mP 3))))))))
def fb1__law_due_rule : S :=
  (sSeq (sSet 4 (mLst (ret (List.map B.sh []))))
  (sSeq (sIf (tV (mLt (mP 3) (mK (.int 7)))) (sFor (.one 5) (items (mIx (mCall f__law_values mNil) (mP 3))) fb0__law_due_rule) sPass)
  (sSeq (sIf (tV (mEq (mP 4) (mLst (ret (List.map B.sh []))))) (sRet (mAdd (mP 3) (mK (.int 1)))) sPass)
  (sSet 2 (mAdd (mP 2) (mTup (mCons (mIx (mP 4) (mK (.int 0))) mNil)))))))
def f__law_due_rule : Fn := mkFn 1 7
  (sSeq (sIf (tNot (tV (mIsA .str (mP 0)))) (sRet (mK (.int 0))) sPass)
  (sSeq (sPar [1, 2] (mCons (mSplit (mP 0) (mK (.str t__10))) (mCons (mK (.tup [])) mNil)))
  (sSeq (sFor (.one 3) (itRange (mLen (mP 1))) fb1__law_due_rule)
  (sRet (mIf (tV (mEq (mLen (mP 2)) (mK (.int 7)))) (mMv 2) (mAdd (mLen (mP 1)) (mK (.int 1))))))))
def fb0__law_due_row : S :=
  (sSeq (sIf (tV (mNin (mP 4) (mP 1))) (sRet (mAdd (mLen (mP 2)) (mK (.int 1)))) sPass)
  (sSet 2 (mAdd (mP 2) (mTup (mCons (mIx (mP 1) (mP 4)) mNil)))))
def f__law_due_row : Fn := mkFn 1 5
  (sSeq (sIf (tNot (tV (mIsA .str (mP 0)))) (sRet (mK (.int 0))) sPass)
  (sSeq (sSet 1 (mDict (mLZip (mCall f__law_event_lines (mCons (mCall f__law_events mNil) mNil)) (mCall f__law_events mNil))))
  (sSeq (sPar [2, 3] (mCons (mK (.tup [])) (mCons (mIf (tV (mNe (mP 0) (mK (.str t_empty)))) (mSplit (mP 0) (mK (.str t__10))) (mLst (ret (List.map B.sh [])))) mNil)))
  (sSeq (sFor (.one 4) (items (mV 3)) fb0__law_due_row)
  (sRet (mIf (tV (mLe (mLen (mP 2)) (mK (.int 60)))) (mMv 2) (mAdd (mLen (mP 3)) (mK (.int 1)))))))))
def f__law_spoilt : Fn := mkFn 2 8
  (sSeq (sPar [2, 3] (mCons (mCall f__law_lot (mCons (mP 0) (mCons (mAdd (mLen (mP 1)) (mK (.int 1))) mNil))) (mCons (mCall f__law_lot (mCons (mP 0) (mCons (mK (.int 5)) mNil))) mNil)))
  (sSeq (sSet 4 (mSplit (mP 1) (mK (.str t__10))))
  (sSeq (sSet 5 (mCall f__law_lot (mCons (mP 0) (mCons (mLen (mP 4)) mNil))))
  (sSeq (sIf (tV (mEq (mP 3) (mK (.int 0)))) (sRet (mAdd (mSl (mP 1) none (some (mP 2))) (mSl (mP 1) (some (mAdd (mP 2) (mK (.int 1)))) none))) sPass)
  (sSeq (sIf (tV (mEq (mP 3) (mK (.int 1)))) (sRet (mAdd (mAdd (mSl (mP 1) none (some (mP 2))) (mCall f__law_pick (mCons (mP 0) (mCons (mK (.str t__32_10_58012no)) mNil)))) (mSl (mP 1) (some (mP 2)) none))) sPass)
  (sSeq (sIf (tV (mEq (mP 3) (mK (.int 2)))) (sRet (mJoinS (mK (.str t__10)) (mAdd (mSl (mP 4) none (some (mP 5))) (mSl (mP 4) (some (mAdd (mP 5) (mK (.int 1)))) none)))) sPass)
  (sSeq (sIf (tV (mEq (mP 3) (mK (.int 3)))) (sRet (mJoinS (mK (.str t__10)) (mAdd (mSl (mP 4) none (some (mAdd (mP 5) (mK (.int 1))))) (mSl (mP 4) (some (mP 5)) none)))) sPass)
  (sSeq (sSet 6 (mSplit (mIx (mP 4) (mP 5)) (mK (.str t__32))))
  (sSeq (sSet 7 (mLst (ret (List.map B.sh [(.str t_0), (.str t_1), (.str t_2), (.str t_both), (.str t_now), (.str t_no), (.str t_yes), (.str t_bar), (.str t_say), (.str t_lag_58)]))))
  (sSeq (sIxSet 6 (mCall f__law_lot (mCons (mP 0) (mCons (mLen (mP 6)) mNil))) (mCall f__law_pick (mCons (mP 0) (mCons (mV 7) mNil))))
  (sRet (mJoinS (mK (.str t__10)) (mAdd (mAdd (mSl (mP 4) none (some (mP 5))) (mLst (mCons (mJoinS (mK (.str t__32)) (mP 6)) mNil))) (mSl (mP 4) (some (mAdd (mP 5) (mK (.int 1)))) none))))))))))))))
def f_need_part : Fn := mkFn 1 1
  (sIf (tOr (tNot (tV (mIsA .str (mP 0)))) (tV (mNin (mP 0) (mK c_PART_NAMES)))) (sRaise 5) sPass)
def wb0__wall : S :=
  sPass
def f__wall : Fn := mkFn 1 1
  (sWhile (tV (mK (.bl true))) wb0__wall)
def fb0__law_turned : S :=
  (sSeq (sIf (tAnd (tV (mGt (mLen (mP 2)) (mK (.int 1)))) (tV (mLt (mIx (mP 2) (mK (.int 1))) (mK (.int 2))))) (sSet 2 (mAdd (mAdd (mSl (mP 2) none (some (mK (.int 1)))) (mTup (mCons (mSub (mK (.int 1)) (mIx (mP 2) (mK (.int 1)))) mNil))) (mSl (mP 2) (some (mK (.int 2))) none))) sPass)
  (sSet 1 (mAdd (mP 1) (mTup (mCons (mV 2) mNil)))))
def f__law_turned : Fn := mkFn 1 3
  (sSeq (sSet 1 (mK (.tup [])))
  (sSeq (sFor (.one 2) (items (mV 0)) fb0__law_turned)
  (sRet (mMv 1))))
def f__law_deeper : Fn := mkFn 1 1
  (sRet (mIx (mP 0) (mK (.int 100))))
def ce0__law_slow : M B :=
  (mLen (mCall f_first_row (mCons (mV 1) (mCons (mV 4) mNil))))
def f__law_slow : Fn := mkFn 1 5
  (sSeq (sSet 1 (mTup (mCons (mK (.str t_last)) (mCons (mV 0) (mCons (mK (.str t_morning)) (mCons (mK (.str t_now)) (mCons (mK (.str t_use)) (mCons (mK (.bl false)) (mCons (mK (.bl true)) mNil)))))))))
  (sSeq (sSet 2 (mK (.tup [(.tup [(.str t_say), (.int 0), (.str t_always)]), (.tup [(.str t_come), (.int 2)]), (.tup [(.str t_morning)]), (.tup [(.str t_come), (.int 2)]), (.tup [(.str t_come), (.int 1)])])))
  (sSeq (sSet 3 (mLst (mCons (mAnd (mEq (mComp (.one 4) (items (mCall f_harms (mCons (mV 1) mNil))) yes ce0__law_slow) (mLst (ret (List.map B.sh [(.int 2), (.int 3), (.int 2), (.int 4)])))) (mEq (mCall f_alone (mCons (mV 1) (mCons (mK (.str t_wrong)) mNil))) (mLst (ret (List.map B.sh [(.int 0), (.int 1)]))))) mNil)))
  (sSeq (sDrop (mApp 3 (mEq (mCall f_told (mCons (mV 1) (mCons (mV 2) mNil))) (mLst (ret (List.map B.sh [(.str t_noted), (.str t_refused), (.str t_noted), (.str t_handed), (.str t_gone)]))))))
  (sSeq (sDrop (mApp 3 (mEq (mSl (mCall f_stand_behind (mCons (mV 1) (mCons (mV 2) mNil))) none (some (mK (.int 3)))) (mK (.tup [(.tup [(.str t_always), (.str t_no)]), (.tup [(.bl false), (.bl false)]), (.tup [(.str t_always), (.str t_no)])])))))
  (sSeq (sDrop (mApp 3 (mEq (mCall f_who_may (mCons (mV 1) (mCons (mSl (mP 2) none (some (mK (.int 1)))) mNil))) (mK (.tup [(.tup [(.bl true), (.bl true), (.bl true)]), (.tup [(.bl true), (.bl true), (.bl false)])])))))
  (sSeq (sDrop (mApp 3 (mEq (mCall f_way_in (mCons (mV 1) (mCons (mK (.tup [(.tup [(.str t_say), (.int 1), (.str t_bar)])])) (mCons (mK (.int 0)) mNil)))) (mK (.tup [(.tup [(.str t_paper), (.int 0)])])))))
  (sRet (mAdd (mP 3) (mLst (mCons (mEq (mCall f_single_changes (mCons (mV 1) (mCons (mK (.str t_wrong)) mNil))) (mLst (mCons (mAdd (mAdd (mSl (mP 1) none (some (mK (.int 2)))) (mK (.tup [(.str t_now)]))) (mSl (mP 1) (some (mK (.int 3))) none)) mNil))) mNil)))))))))))
def f__law_strict : Fn := mkFn 1 4
  (sSeq (sSet 1 (mTup (mCons (mK (.str t_both)) (mCons (mK (.str t_own)) (mCons (mK (.str t_now)) (mCons (mV 0) (mCons (mK (.str t_use)) (mCons (mK (.bl true)) (mCons (mK (.bl true)) mNil)))))))))
  (sSeq (sSet 2 (mK (.tup [(.tup [(.str t_say), (.int 0), (.str t_always)]), (.tup [(.str t_say), (.int 1), (.str t_always)]), (.tup [(.str t_court), (.int 0)]), (.tup [(.str t_morning)])])))
  (sSeq (sSet 2 (mAdd (mP 2) (mK (.tup [(.tup [(.str t_come), (.int 2)]), (.tup [(.str t_clear), (.int 0)]), (.tup [(.str t_morning)])]))))
  (sSeq (sSet 3 (mLst (mCons (mEq (mSl (mCall f_told (mCons (mV 1) (mCons (mAdd (mP 2) (mK (.tup [(.tup [(.str t_come), (.int 2)])]))) mNil))) (some (mK (.int 4))) none) (mLst (ret (List.map B.sh [(.str t_refused), (.str t_noted), (.str t_noted), (.str t_handed)])))) mNil)))
  (sSeq (sDrop (mApp 3 (mAnd (mIsN (mCall f_way_in (mCons (mV 1) (mCons (mK (.tup [])) (mCons (mK (.int 1)) mNil))))) (mEq (mCall f_alone (mCons (mV 1) (mCons (mK (.str t_wrong)) mNil))) (mLst (ret (List.map B.sh [])))))))
  (sSeq (sDrop (mApp 3 (mEq (mCall f_way_in (mCons (mV 1) (mCons (mK (.tup [(.tup [(.str t_say), (.int 1), (.str t_once)])])) (mCons (mK (.int 0)) mNil)))) (mK (.tup [(.tup [(.str t_paper), (.int 0)])])))))
  (sSeq (sDrop (mApp 3 (mCall f_alike (mCons (mV 1) (mCons (mAdd (mAdd (mSl (mP 1) none (some (mK (.int 1)))) (mK (.tup [(.str t_win)]))) (mSl (mP 1) (some (mK (.int 2))) none)) mNil)))))
  (sRet (mAdd (mP 3) (mLst (mCons (mEq (mIx (mCall f_harms (mCons (mV 1) mNil)) (mK (.int (-1)))) (mIf (tV (mEq (mP 0) (mK (.str t_now)))) (mK (.str t_two)) (mK (.str t_wrong)))) mNil)))))))))))
end CM
end WF

set_option linter.all false
set_option maxRecDepth 100000
namespace WF
namespace K10
open CM
def ce0_law : M B :=
  (mIsA .bool (mP 8))
def fb0_law : S :=
  (sSeq (sPar [6, 7] (mCons (mCall f__law_rule (mCons (mP 2) mNil)) (mCons (mCall f__law_row (mCons (mP 2) (mCons (mK (.int 60)) mNil))) mNil)))
  (sSeq (sSet 4 (mJoinS (mK (.str t__10)) (mCall f__law_rule_lines (mCons (mV 6) mNil))))
  (sSeq (sSet 5 (mJoinS (mK (.str t__10)) (mCall f__law_event_lines (mCons (mV 7) mNil))))
  (sSeq (sIf (tOr (tV (mNe (mCall f_rule_text (mCons (mV 6) mNil)) (mP 4))) (tV (mNe (mCall f_read_rule (mCons (mV 4) mNil)) (mP 6)))) (sRet (mK (.bl false))) sPass)
  (sSeq (sIf (tOr (tV (mNe (mCall f_row_text (mCons (mV 7) mNil)) (mP 5))) (tOr (tV (mNe (mCall f_read_row (mCons (mV 5) mNil)) (mP 7))) (tOr (tV (mNe (mCall f_read_row (mCons (mK (.str t_empty)) mNil)) (mK (.tup [])))) (tV (mNe (mCall f_row_text (mCons (mK (.tup [])) mNil)) (mK (.str t_empty))))))) (sRet (mK (.bl false))) sPass)
  (sIf (tV (mNe (mComp (.one 8) (items (mCall f_read_rule (mCons (mV 4) mNil))) yes ce0_law) (mAdd (mMul (mLst (ret (List.map B.sh [(.bl false)]))) (mK (.int 5))) (mLst (ret (List.map B.sh [(.bl true), (.bl true)])))))) (sRet (mK (.bl false))) sPass))))))
def fb1_law : S :=
  (sSeq (sSet 2 (mCall f__law_pot (mCons (mV 1) (mCons (mK (.int 57)) mNil))))
  (sFor (.one 3) (itRange (mK (.int 4))) fb0_law))
def f_law : Fn := mkFn 1 9
  (sSeq (sFor (.one 1) (items (mSl (mAdd (mLst (ret (List.map B.sh [(.int 0)]))) (mP 0)) none (some (mK (.int 10))))) fb1_law)
  (sRet (mK (.bl true))))
end K10
end WF

set_option Elab.async false
set_option linter.all false
/-! WFM2: the model: rules, stands, events as plain data; what happens. No mirror in sight. -/
namespace WF
namespace M2
inductive Wd | always | bar | no | once
deriving DecidableEq, Repr
inductive Ws | both | either | last
deriving DecidableEq, Repr
inductive Wh | a | b | o
deriving DecidableEq, Repr
structure Ru where
  ws : Ws
  win : Bool
  lag : Bool
  court : Bool
  use : Bool
  void : Bool
  paper : Bool
deriving DecidableEq, Repr
structure Sd where
  s0 : Wd
  s1 : Wd
  c0 : Bool
  c1 : Bool
  l0 : Wd
  l1 : Wd
  k0 : Bool
  k1 : Bool
  th : Bool
deriving DecidableEq, Repr
inductive Ev | say (p : Bool) (w : Wd) | court (p : Bool) | clear (p : Bool) | come (w : Wh) | paper (p : Bool) | morning
deriving DecidableEq, Repr
inductive Td | noted | handed | refused | gone
deriving DecidableEq, Repr
def sd0 : Sd := ⟨.no, .no, false, false, .no, .no, false, false, true⟩
def spoken (ws : Ws) (x y : Wd) (p : Bool) (w : Wd) : Wd × Wd :=
  match ws, p with
  | .last, false => (w, .no)
  | .last, true => (.no, w)
  | _, false => (w, y)
  | _, true => (x, w)
def Wd.good : Wd → Bool | .always => true | .once => true | _ => false
def Wd.void (v c : Bool) (w : Wd) : Wd := if v && c then .no else w
def worded (r : Ru) (x y : Wd) (c d : Bool) (g : Option Bool) : Wd × Wd :=
  let q := match g with
    | some p => if r.paper then spoken r.ws x y p .once else (x, y)
    | none => (x, y)
  (q.1.void r.void c, q.2.void r.void d)
def mayW (ws : Ws) (win : Bool) (x y : Wd) : Bool :=
  if win && (x == .bar || y == .bar) then false else if ws == .both then x.good && y.good else x.good || y.good
def may (r : Ru) (x y : Wd) (c d : Bool) (w : Wh) (g : Option Bool) : Bool :=
  match w with
  | .a => !c
  | .b => !d
  | .o => mayW r.ws r.win (worded r x y c d g).1 (worded r x y c d g).2
def Wd.up : Wd → Wd | .once => .no | w => w
def come (r : Ru) (s : Sd) (w : Wh) (g : Option Bool) : Sd × Td :=
  if s.th then
    if may r s.l0 s.l1 s.k0 s.k1 w g then
      if w == .o && r.use then (⟨s.s0.up, s.s1.up, s.c0, s.c1, s.l0.up, s.l1.up, s.k0, s.k1, false⟩, .handed) else ({ s with th := false }, .handed)
    else (s, .refused)
  else (s, .gone)
def Wd.day (w o : Wd) : Wd := if w == .once && o == .once then .no else w
def morn (r : Ru) (s : Sd) : Sd :=
  let x := if r.use then s.s0 else s.s0.day s.l0
  let y := if r.use then s.s1 else s.s1.day s.l1
  ⟨x, y, s.c0, s.c1, x, y, s.c0, s.c1, true⟩
def put (c d : Bool) (p v : Bool) : Bool × Bool := if p then (c, v) else (v, d)
def crt (r : Ru) (s : Sd) (p v : Bool) : Sd :=
  let q := put s.c0 s.c1 p v
  if r.court then { s with c0 := q.1, c1 := q.2, k0 := q.1, k1 := q.2 } else { s with c0 := q.1, c1 := q.2 }
def step (r : Ru) (s : Sd) : Ev → Sd × Td
  | .say p w =>
    let q := spoken r.ws s.s0 s.s1 p w
    (if r.lag then { s with s0 := q.1, s1 := q.2, l0 := q.1, l1 := q.2 } else { s with s0 := q.1, s1 := q.2 }, .noted)
  | .court p => (crt r s p true, .noted)
  | .clear p => (crt r s p false, .noted)
  | .come w => come r s w none
  | .paper p => come r s .o (some p)
  | .morning => (morn r s, .noted)
/-- who may by what was said; by what is known -/
def truly (r : Ru) (s : Sd) (w : Wh) (g : Option Bool) : Bool := may r s.s0 s.s1 s.c0 s.c1 w g
def lets (r : Ru) (s : Sd) (w : Wh) : Bool := may r s.l0 s.l1 s.k0 s.k1 w none
def led (r : Ru) : Sd → List Ev → Sd × List Td
  | s, [] => (s, [])
  | s, e :: es => ((led r (step r s e).1 es).1, (step r s e).2 :: (led r (step r s e).1 es).2)
end M2
end WF

set_option Elab.async false
set_option linter.all false
set_option maxRecDepth 100000
set_option maxHeartbeats 1000000
/-! C1: pots, draws. -/
namespace WF
namespace CM
local macro_rules | `(tactic| simp_arith [$ls,*]) => `(tactic| simp only [KO_some, KO_none, KO_ite, KE_some, KE_none, KE_ite, K_ret, K_stuck, K_lift, kId_eq, eId_eq, un1_some, op2_some, dat_sh, dat_ow, dat_pl, dat_tp, sbsD_nil, sbsD_cons, toD_sh, toD_ow, toD_io, toD_lst, toD_dic, at_zero, at_succ, kV_sh, kV_lst, kV_dic, K_mV, kP_sh, kP_ow, kP_io, K_mP, kM_sh, kM_ow, K_mMv, K_mK, kOp2_eq, kOp1_eq, K_mOp, kUn_eq, K_mUn, K_mNeg, isNB_eq, notNB_eq, K_mIsN, K_mNotN, lele_int, kLL3_eq, kLL2_eq, kLL1_eq, K_mLeLe, kTV_eq, K_tV, kTA_eq, K_tAnd, kTO_eq, K_tOr, kTN_eq, K_tNot, K_yes, kMA2_eq, kMA1_eq, K_mAnd, kMO2_eq, kMO1_eq, K_mOr, notB_bl, K_mNot, kIf_eq, K_mIf, boolV_bl, tru_bl, tru_non, tru_int, tru_str, tru_tup, tru_lst, K_mNil, kC2_eq, kC1_eq, K_mCons, keptO_nil, keptO_sh, keptO_ow, keptO_tp, tupO_eq, lstO_eq, kTup_eq, kLst_eq, K_mTup, K_mLst, fzO_eq, kFz_eq, K_mFz, lzip2_eq, kLZ2_eq, kLZ1_eq, K_mLZip, K_mDic0, dic1_eq, kD2_eq, kD1_eq, K_mDic1, elB_sh, elB_ow, ixO_sh, ixO_ow, ixO_pl, ixO_tp, kIx2_eq, kIx1_eq, K_mIx, slO_eq, kSl3_eq, kSl2_eq, kSl1_eq, K_mSl, intD_int, K_mEndN, kEnd_eq, K_mEndS, K_mRev, get3_eq, kG3_eq, kG2_eq, kG1_eq, K_mGet, txtB_str, kSp3_eq, kSp2_eq, kSp1_eq, K_mSplit, kJn3_eq, kJn2_eq, kJn1_eq, K_mJoinS, lent_nil, lent_sh1, lent_ow, lent_tp, lent_pl, nodup0, nodup1, nodup2, handL_nil, handL_cons, handB_sh, handB_lst, handB_dic, handB_tp, handB_pl, lendS_sh, lendS_ow, lendS_io, argsO_eq, backL_nil, backL_cons, backB_sh, backB_ow, backB_tp, backB_plN, backB_plS, putE_zero, putE_succ, put_ow, put_io, sput_sh, KF_ok, KF_exc, KF_none, KF_ite, KF_r, kArg_eq, kCall_eq, K_mCall, ioS_io, ioS_sh, ioS_ow, ioS_no, outs0, outs1, outs2, outs3, outs4, outs5, kFn_rt, kFn_nx, eFn_eq, mkFn_eq, rep0, repS, itO_eq, kIt_eq, K_items, dItems_tup, dItems_lst, rngD_int, kRg_eq, K_itRange, zipO_eq, kZ2_eq, kZ1_eq, K_itZip, enO_eq, kEn_eq, K_itEnum, zip2_tup, zip2_lst, zipD_cons, zipD_nil, zipD_nil2, enumD_tup, enumD_lst, putS_succ, putS_no, putS_sh, putS_ow, putTg_one, putTg_tup, putSs_nil, putSs_cons, slots_one, slots_tup, clr_nil, clr_cons, back_nil, back_cons, free_nil, free_cons, fr1_succ, fr1_no, fr1_sh, kCoE_eq, kCo_eq, K_mComp, K_comp0, kCo3_eq, kCo2_eq, kCo1_eq, kCo0_eq, K_comp1, K_sPass, K_sBreak, K_sCont, kSeq_nx, kSeq_rt, kSeq_bk, kSeq_ct, K_sSeq, kDrop_eq, K_sDrop, K_sIf, kNx_eq, ownO_sh, ownO_ow, ownO_tp, setO_eq, kSet_eq, K_sSet, ownOs_nil, ownOs_cons, putA_nil, putA_cons, parO_eq, kPar_eq, K_sPar, tupB_tp, tupB_sh, unpO_eq, kUnp_eq, K_sUnp, putOE_zero, putOE_succ, obj_ow, obj_io, hasO_zero, hasO_succ, xsO_eq, kXS3_eq, kXS2_eq, kXS1_eq, K_sIxSet, apO_eq, kNon_eq, kAp2_eq, kAp1_eq, K_mApp, kKy_eq, K_itKeys, keysOf_dic, strD_str, getO_eq, getS_dic, kGt3_eq, kGt2_eq, kGt1_eq, kGt0_eq, K_mGetN, addAt_lst, setAt_lst, setAt_dicS, setAt_dicT, kFor_eq, K_sFor, kFor2_nx, kFor2_ct, kFor2_bk, kFor2_rt, kFor1_eq, K_for0, K_for1, kWh2_nx, kWh2_ct, kWh2_bk, kWh2_rt, kWh1_eq, kRet_sh, kRet_ow, kRet_tp, K_sRet, tpO_eq, kTp_eq, K_mTp, sbBs_nil, sbBs_cons, sbB_sh, sbB_ow, K_sRaise, eTry_eq, K_sTry, K_tryGo0, K_tryGo1, Add_int, Add_tup, Add_lst, Add_str, Sub_int, Mul_int, Mul_lst, Fdiv_int, Mod_int, Lt_int, Le_int, Gt_int, Ge_int, Eq_eq, Ne_eq, In_tup, In_lst, Nin_tup, Nin_lst, mem_nil, mem_cons, Ix_tup, Ix_lst, atI_0, atI_1, atI_2, atI_3, atI_4, atI_5, atI_6, Len_tup, Len_lst, Len_dic, Ix_dic, In_dic, Nin_dic, Min_int, Len_str, Int_int, Int_bl, Tuple_lst, Tuple_tup, List_lst, List_tup, List_dic, bools_nil, bools_cons, All_lst, Any_lst, dep_non, dep_bl, dep_int, dep_str, dep_tupS, dep_lstS, deps_nil, deps_cons, isNon_non, isNon_int, isNon_tup, isNon_lst, isNon_str, isNon_bl, eqv_ss, eqv_ii, eqv_bb, eqv_nn, eqv_tt, eqv_ll, eqvs_nn, eqvs_nc, eqvs_cn, eqvs_cc, upto_1, upto_2, upto_3, upto_7, K_mAdd, K_mSub, K_mMul, K_mFdiv, K_mMod, K_mPow, K_mEq, K_mNe, K_mLt, K_mLe, K_mGt, K_mGe, K_mIn, K_mNin, K_mMin, K_mJoin, K_mIndex, K_mLen, K_mInt, K_mStr, K_mTuple, K_mList, K_mAll, K_mAny, K_mSorted, K_mDict, K_mIsA, IsA_tup, IsA_lst, IsA_str, IsA_int, IsA_bl, Mul_tup, txt_nc, txt_cn, IsA_non, isA, LIM, List.drop_zero, List.take_zero, List.drop_succ_cons, List.take_succ_cons, List.drop_nil, List.take_nil, Nat.sub_zero, reduceIte, ite_true, ite_false, Nat.reduceAdd, Nat.reduceMul, Nat.reduceSub, Nat.reduceLT, Nat.reduceLeDiff, Nat.reduceEqDiff, Nat.reduceBEq, Nat.reduceBNe, Nat.reducePow, Int.reduceAdd, Int.reduceMul, Int.reduceNeg, Int.reduceSub, Int.reduceLE, Int.reduceLT, Int.reduceEq, Int.reduceBEq, Int.reduceBNe, Int.reducePow, Int.reduceToNat, Int.reduceNe, Int.reduceMod, Int.reduceDiv, Int.cast_ofNat_Int, Int.ofNat_zero, Int.ofNat_one, List.cons_beq_cons, and_true, true_and, and_self, and_false, false_and, not_false_eq_true, not_true_eq_false, or_true, true_or, or_false, false_or, List.map_cons, List.map_nil, List.length_cons, List.length_nil, List.cons_append, List.nil_append, List.append_nil, List.set_cons_zero, List.set_cons_succ, Option.bind_some, Option.bind_none, Option.map_some, Option.map_none, List.head?_cons, if_true, Bool.and_true, Bool.true_and, Bool.and_false, Bool.false_and, Bool.or_true, Bool.true_or, Bool.or_false, Bool.false_or, Bool.not_true, Bool.not_false, Bool.not_not, Bool.and_self, Bool.or_self, decide_true, decide_false, decide_eq_true_eq, beq_self_eq_true, Bool.false_eq_true, List.all_cons, List.all_nil, List.any_cons, List.any_nil, id_eq, Nat.max_self, Nat.sub_self, Nat.zero_le, Bool.decide_eq_true, List.isEmpty_cons, List.isEmpty_nil, ite_self, Nat.max_zero, Nat.zero_max, $ls,*])
theorem lot_spec {g s n : Int} (p : Pot g s) (h1 : 1 ≤ n) (h2 : n < 1000) : ∃ g' s' k, Pot g' s' ∧ 0 ≤ k ∧ k < n ∧ f__law_lot [pot g s, .sh (.int n)] = some (.ok (.sh (.int k)), [some (pot g' s'), none]) := by
  obtain ⟨p1, p2, p3⟩ := p
  have n1 : (0 : Int) < n := by omega
  have n2 : n < 1073741824 := by omega
  by_cases hg : 0 < g
  · refine ⟨g / n, s, g % n, ⟨Int.ediv_nonneg p1 (by omega), p2, p3⟩, Int.emod_nonneg _ (by omega), Int.emod_lt_of_pos _ n1, ?_⟩
    rw [f__law_lot, mkFn_eq]
    simp_arith [hg, n1, n2, Int.toNat_zero, Int.toNat_one]
  · have e1 : 0 ≤ (s * 1103515 + 12343) % 2147483549 := Int.emod_nonneg _ (by omega)
    have e2 : (s * 1103515 + 12343) % 2147483549 < 2147483549 := Int.emod_lt_of_pos _ (by omega)
    have c1 : smallI 1103515 = true := by decide
    have c2 : smallI ((s * 1103515 + 12343) % 2147483549) = true := by unfold smallI; rw [Bool.and_eq_true, decide_eq_true_eq, decide_eq_true_eq]; omega
    refine ⟨g, (s * 1103515 + 12343) % 2147483549, ((((s * 1103515 + 12343) % 2147483549) * (((s * 1103515 + 12343) % 2147483549) + 87)) % 2147483497 / 743) % n, ⟨p1, e1, e2⟩, Int.emod_nonneg _ (by omega), Int.emod_lt_of_pos _ n1, ?_⟩
    rw [f__law_lot, mkFn_eq]
    simp_arith [hg, n1, n2, c1, c2, Int.toNat_zero, Int.toNat_one]
theorem pick_spec {g s : Int} {xs : List D} (p : Pot g s) (h0 : xs ≠ []) (hl : xs.length < 1000) : ∃ g' s' x, Pot g' s' ∧ x ∈ xs ∧ f__law_pick [pot g s, .sh (.lst xs)] = some (.ok (.sh x), [some (pot g' s'), none]) := by
  have hn : 1 ≤ (xs.length : Int) := by
    cases xs with
    | nil => exact absurd rfl h0
    | cons a r => simp; omega
  obtain ⟨g', s', k, p', k0, k1, e⟩ := lot_spec p hn (by omega)
  obtain ⟨j, rfl⟩ := Int.eq_ofNat_of_zero_le k0
  have hj : j < xs.length := by omega
  refine ⟨g', s', xs[j], p', List.getElem_mem hj, ?_⟩
  rw [f__law_pick, mkFn_eq]
  simp_arith [e, atI_nat hj]
theorem pot_spec (cell salt : Int) (h0 : 0 ≤ salt) (h1 : salt < 100000) : ∃ g s, Pot g s ∧ f__law_pot [.sh (.int cell), .sh (.int salt)] = some (.ok (.ow (.lst [.int g, .int s])), [none, none]) := by
  have e1 : 0 ≤ (cell * 43 + 6007 * salt) % 1610612711 := Int.emod_nonneg _ (by omega)
  have e2 : (cell * 43 + 6007 * salt) % 1610612711 < 1610612711 := Int.emod_lt_of_pos _ (by omega)
  have s1 : smallI 43 = true := by decide
  have s2 : smallI 6007 = true := by decide
  have pw : iPow (.int 10) (.int 18) = some (.sh (.int 1000000000000000000)) := by rfl
  by_cases h : 1000000000000000000 ≤ cell
  · refine ⟨cell / 5 + salt, (cell * 43 + 6007 * salt) % 1610612711 + 6, ⟨by omega, by omega, by omega⟩, ?_⟩
    rw [f__law_pot, mkFn_eq]
    simp_arith [pw, h, s1, s2]
  · refine ⟨0, (cell * 43 + 6007 * salt) % 1610612711 + 6, ⟨by omega, by omega, by omega⟩, ?_⟩
    rw [f__law_pot, mkFn_eq]
    simp_arith [pw, h, s1, s2]
theorem words_spec : f__law_words [] = some (.ok (.ow (.lst [.str t_always, .str t_bar, .str t_no, .str t_once])), []) := rfl
end CM
end WF

set_option Elab.async false
set_option linter.all false
set_option maxRecDepth 100000
set_option maxHeartbeats 1000000
/-! C2: how the model's rules, stands, events stand as data; draws of them. -/
namespace WF
namespace CM
local macro_rules | `(tactic| simp_arith [$ls,*]) => `(tactic| simp only [KO_some, KO_none, KO_ite, KE_some, KE_none, KE_ite, K_ret, K_stuck, K_lift, kId_eq, eId_eq, un1_some, op2_some, dat_sh, dat_ow, dat_pl, dat_tp, sbsD_nil, sbsD_cons, toD_sh, toD_ow, toD_io, toD_lst, toD_dic, at_zero, at_succ, kV_sh, kV_lst, kV_dic, K_mV, kP_sh, kP_ow, kP_io, K_mP, kM_sh, kM_ow, K_mMv, K_mK, kOp2_eq, kOp1_eq, K_mOp, kUn_eq, K_mUn, K_mNeg, isNB_eq, notNB_eq, K_mIsN, K_mNotN, lele_int, kLL3_eq, kLL2_eq, kLL1_eq, K_mLeLe, kTV_eq, K_tV, kTA_eq, K_tAnd, kTO_eq, K_tOr, kTN_eq, K_tNot, K_yes, kMA2_eq, kMA1_eq, K_mAnd, kMO2_eq, kMO1_eq, K_mOr, notB_bl, K_mNot, kIf_eq, K_mIf, boolV_bl, tru_bl, tru_non, tru_int, tru_str, tru_tup, tru_lst, K_mNil, kC2_eq, kC1_eq, K_mCons, keptO_nil, keptO_sh, keptO_ow, keptO_tp, tupO_eq, lstO_eq, kTup_eq, kLst_eq, K_mTup, K_mLst, fzO_eq, kFz_eq, K_mFz, lzip2_eq, kLZ2_eq, kLZ1_eq, K_mLZip, K_mDic0, dic1_eq, kD2_eq, kD1_eq, K_mDic1, elB_sh, elB_ow, ixO_sh, ixO_ow, ixO_pl, ixO_tp, kIx2_eq, kIx1_eq, K_mIx, slO_eq, kSl3_eq, kSl2_eq, kSl1_eq, K_mSl, intD_int, K_mEndN, kEnd_eq, K_mEndS, K_mRev, get3_eq, kG3_eq, kG2_eq, kG1_eq, K_mGet, txtB_str, kSp3_eq, kSp2_eq, kSp1_eq, K_mSplit, kJn3_eq, kJn2_eq, kJn1_eq, K_mJoinS, lent_nil, lent_sh1, lent_ow, lent_tp, lent_pl, nodup0, nodup1, nodup2, handL_nil, handL_cons, handB_sh, handB_lst, handB_dic, handB_tp, handB_pl, lendS_sh, lendS_ow, lendS_io, argsO_eq, backL_nil, backL_cons, backB_sh, backB_ow, backB_tp, backB_plN, backB_plS, putE_zero, putE_succ, put_ow, put_io, sput_sh, KF_ok, KF_exc, KF_none, KF_ite, KF_r, kArg_eq, kCall_eq, K_mCall, ioS_io, ioS_sh, ioS_ow, ioS_no, outs0, outs1, outs2, outs3, outs4, outs5, kFn_rt, kFn_nx, eFn_eq, mkFn_eq, rep0, repS, itO_eq, kIt_eq, K_items, dItems_tup, dItems_lst, rngD_int, kRg_eq, K_itRange, zipO_eq, kZ2_eq, kZ1_eq, K_itZip, enO_eq, kEn_eq, K_itEnum, zip2_tup, zip2_lst, zipD_cons, zipD_nil, zipD_nil2, enumD_tup, enumD_lst, putS_succ, putS_no, putS_sh, putS_ow, putTg_one, putTg_tup, putSs_nil, putSs_cons, slots_one, slots_tup, clr_nil, clr_cons, back_nil, back_cons, free_nil, free_cons, fr1_succ, fr1_no, fr1_sh, kCoE_eq, kCo_eq, K_mComp, K_comp0, kCo3_eq, kCo2_eq, kCo1_eq, kCo0_eq, K_comp1, K_sPass, K_sBreak, K_sCont, kSeq_nx, kSeq_rt, kSeq_bk, kSeq_ct, K_sSeq, kDrop_eq, K_sDrop, K_sIf, kNx_eq, ownO_sh, ownO_ow, ownO_tp, setO_eq, kSet_eq, K_sSet, ownOs_nil, ownOs_cons, putA_nil, putA_cons, parO_eq, kPar_eq, K_sPar, tupB_tp, tupB_sh, unpO_eq, kUnp_eq, K_sUnp, putOE_zero, putOE_succ, obj_ow, obj_io, hasO_zero, hasO_succ, xsO_eq, kXS3_eq, kXS2_eq, kXS1_eq, K_sIxSet, apO_eq, kNon_eq, kAp2_eq, kAp1_eq, K_mApp, kKy_eq, K_itKeys, keysOf_dic, strD_str, getO_eq, getS_dic, kGt3_eq, kGt2_eq, kGt1_eq, kGt0_eq, K_mGetN, addAt_lst, setAt_lst, setAt_dicS, setAt_dicT, kFor_eq, K_sFor, kFor2_nx, kFor2_ct, kFor2_bk, kFor2_rt, kFor1_eq, K_for0, K_for1, kWh2_nx, kWh2_ct, kWh2_bk, kWh2_rt, kWh1_eq, kRet_sh, kRet_ow, kRet_tp, K_sRet, tpO_eq, kTp_eq, K_mTp, sbBs_nil, sbBs_cons, sbB_sh, sbB_ow, K_sRaise, eTry_eq, K_sTry, K_tryGo0, K_tryGo1, Add_int, Add_tup, Add_lst, Add_str, Sub_int, Mul_int, Mul_lst, Fdiv_int, Mod_int, Lt_int, Le_int, Gt_int, Ge_int, Eq_eq, Ne_eq, In_tup, In_lst, Nin_tup, Nin_lst, mem_nil, mem_cons, Ix_tup, Ix_lst, atI_0, atI_1, atI_2, atI_3, atI_4, atI_5, atI_6, Len_tup, Len_lst, Len_dic, Ix_dic, In_dic, Nin_dic, Min_int, Len_str, Int_int, Int_bl, Tuple_lst, Tuple_tup, List_lst, List_tup, List_dic, bools_nil, bools_cons, All_lst, Any_lst, dep_non, dep_bl, dep_int, dep_str, dep_tupS, dep_lstS, deps_nil, deps_cons, isNon_non, isNon_int, isNon_tup, isNon_lst, isNon_str, isNon_bl, eqv_ss, eqv_ii, eqv_bb, eqv_nn, eqv_tt, eqv_ll, eqvs_nn, eqvs_nc, eqvs_cn, eqvs_cc, upto_1, upto_2, upto_3, upto_7, K_mAdd, K_mSub, K_mMul, K_mFdiv, K_mMod, K_mPow, K_mEq, K_mNe, K_mLt, K_mLe, K_mGt, K_mGe, K_mIn, K_mNin, K_mMin, K_mJoin, K_mIndex, K_mLen, K_mInt, K_mStr, K_mTuple, K_mList, K_mAll, K_mAny, K_mSorted, K_mDict, K_mIsA, IsA_tup, IsA_lst, IsA_str, IsA_int, IsA_bl, Mul_tup, txt_nc, txt_cn, IsA_non, isA, LIM, List.drop_zero, List.take_zero, List.drop_succ_cons, List.take_succ_cons, List.drop_nil, List.take_nil, Nat.sub_zero, reduceIte, ite_true, ite_false, Nat.reduceAdd, Nat.reduceMul, Nat.reduceSub, Nat.reduceLT, Nat.reduceLeDiff, Nat.reduceEqDiff, Nat.reduceBEq, Nat.reduceBNe, Nat.reducePow, Int.reduceAdd, Int.reduceMul, Int.reduceNeg, Int.reduceSub, Int.reduceLE, Int.reduceLT, Int.reduceEq, Int.reduceBEq, Int.reduceBNe, Int.reducePow, Int.reduceToNat, Int.reduceNe, Int.reduceMod, Int.reduceDiv, Int.cast_ofNat_Int, Int.ofNat_zero, Int.ofNat_one, List.cons_beq_cons, and_true, true_and, and_self, and_false, false_and, not_false_eq_true, not_true_eq_false, or_true, true_or, or_false, false_or, List.map_cons, List.map_nil, List.length_cons, List.length_nil, List.cons_append, List.nil_append, List.append_nil, List.set_cons_zero, List.set_cons_succ, Option.bind_some, Option.bind_none, Option.map_some, Option.map_none, List.head?_cons, if_true, Bool.and_true, Bool.true_and, Bool.and_false, Bool.false_and, Bool.or_true, Bool.true_or, Bool.or_false, Bool.false_or, Bool.not_true, Bool.not_false, Bool.not_not, Bool.and_self, Bool.or_self, decide_true, decide_false, decide_eq_true_eq, beq_self_eq_true, Bool.false_eq_true, List.all_cons, List.all_nil, List.any_cons, List.any_nil, id_eq, Nat.max_self, Nat.sub_self, Nat.zero_le, Bool.decide_eq_true, List.isEmpty_cons, List.isEmpty_nil, ite_self, Nat.max_zero, Nat.zero_max, $ls,*])
open M2
def eWd : Wd → D | .always => .str t_always | .bar => .str t_bar | .no => .str t_no | .once => .str t_once
def eWs : Ws → D | .both => .str t_both | .either => .str t_either | .last => .str t_last
def eBars : Bool → D | true => .str t_win | false => .str t_own
def eNow : Bool → D | true => .str t_now | false => .str t_morning
def eUse : Bool → D | true => .str t_use | false => .str t_day
def eP : Bool → D | true => .int 1 | false => .int 0
def eWh : Wh → D | .a => .int 0 | .b => .int 1 | .o => .int 2
def eTd : Td → D | .noted => .str t_noted | .handed => .str t_handed | .refused => .str t_refused | .gone => .str t_gone
abbrev pr (a b : D) : D := .tup [a, b]
def eRu (r : Ru) : D := .tup [eWs r.ws, eBars r.win, eNow r.lag, eNow r.court, eUse r.use, .bl r.void, .bl r.paper]
def eSd (s : Sd) : D := .tup [pr (eWd s.s0) (eWd s.s1), pr (.bl s.c0) (.bl s.c1), pr (eWd s.l0) (eWd s.l1), pr (.bl s.k0) (.bl s.k1), .bl s.th]
def eEv : Ev → D
  | .say p w => .tup [.str t_say, eP p, eWd w]
  | .court p => .tup [.str t_court, eP p]
  | .clear p => .tup [.str t_clear, eP p]
  | .come w => .tup [.str t_come, eWh w]
  | .paper p => .tup [.str t_paper, eP p]
  | .morning => .tup [.str t_morning]
def eRow (es : List Ev) : D := .tup (es.map eEv)
def eSg : Option Bool → D | none => .non | some p => eP p
theorem dep_eWd (w : Wd) : D.dep (eWd w) = 0 := by cases w <;> rfl
theorem dep_eSd (s : Sd) : D.dep (eSd s) = 2 := by
  obtain ⟨a, b, c, d, e, f, g, h, i⟩ := s
  simp [eSd, dep_tupS, deps_cons, deps_nil, dep_eWd, dep_bl]
theorem dep_eEv (e : Ev) : D.dep (eEv e) = 1 := by
  cases e with
  | say p w => cases p <;> cases w <;> rfl
  | court p => cases p <;> rfl
  | clear p => cases p <;> rfl
  | come w => cases w <;> rfl
  | paper p => cases p <;> rfl
  | morning => rfl
theorem dep_eRu (r : Ru) : D.dep (eRu r) = 1 := by
  obtain ⟨a, b, c, d, e, f, g⟩ := r
  cases a <;> cases b <;> cases c <;> cases d <;> cases e <;> rfl
theorem dep_eTd (t : Td) : D.dep (eTd t) = 0 := by cases t <;> rfl
theorem deps_row (es : List Ev) : D.deps (es.map eEv) ≤ 1 := deps_le fun x m => by
  obtain ⟨e, _, rfl⟩ := List.mem_map.mp m
  rw [dep_eEv]; exact Nat.le_refl _
theorem dep_eRow (es : List Ev) : D.dep (eRow es) ≤ 2 := by
  show D.dep (.tup _) ≤ 2
  rw [dep_tupS]
  have := deps_row es
  omega
/-! ### drawn rules -/
theorem values_spec : f__law_values [] = some (.ok (.ow (.lst [.lst [.str t_both, .str t_either, .str t_last], .lst [.str t_own, .str t_win], .lst [.str t_morning, .str t_now], .lst [.str t_morning, .str t_now], .lst [.str t_day, .str t_use], .lst [.bl false, .bl true], .lst [.bl false, .bl true]])), []) := rfl
theorem two_of {f : Bool → D} {x : D} (h : x ∈ [f false, f true]) : ∃ b, x = f b := by
  simp at h
  rcases h with rfl | rfl
  · exact ⟨false, rfl⟩
  · exact ⟨true, rfl⟩
theorem rule_draw {g s : Int} (p : Pot g s) : ∃ g' s' r, Pot g' s' ∧ f__law_rule [pot g s] = some (.ok (.sh (eRu r)), [some (pot g' s')]) := by
  obtain ⟨g1, s1, x1, p1, m1, e1⟩ := pick_spec (xs := [.str t_both, .str t_either, .str t_last]) p (by simp) (by simp)
  obtain ⟨g2, s2, x2, p2, m2, e2⟩ := pick_spec (xs := [.str t_own, .str t_win]) p1 (by simp) (by simp)
  obtain ⟨g3, s3, x3, p3, m3, e3⟩ := pick_spec (xs := [.str t_morning, .str t_now]) p2 (by simp) (by simp)
  obtain ⟨g4, s4, x4, p4, m4, e4⟩ := pick_spec (xs := [.str t_morning, .str t_now]) p3 (by simp) (by simp)
  obtain ⟨g5, s5, x5, p5, m5, e5⟩ := pick_spec (xs := [.str t_day, .str t_use]) p4 (by simp) (by simp)
  obtain ⟨g6, s6, x6, p6, m6, e6⟩ := pick_spec (xs := [.bl false, .bl true]) p5 (by simp) (by simp)
  obtain ⟨g7, s7, x7, p7, m7, e7⟩ := pick_spec (xs := [.bl false, .bl true]) p6 (by simp) (by simp)
  obtain ⟨ws, rfl⟩ : ∃ w, x1 = eWs w := by
    simp at m1
    rcases m1 with rfl | rfl | rfl
    · exact ⟨.both, rfl⟩
    · exact ⟨.either, rfl⟩
    · exact ⟨.last, rfl⟩
  obtain ⟨b2, rfl⟩ := two_of (f := eBars) m2
  obtain ⟨b3, rfl⟩ := two_of (f := eNow) m3
  obtain ⟨b4, rfl⟩ := two_of (f := eNow) m4
  obtain ⟨b5, rfl⟩ := two_of (f := eUse) m5
  obtain ⟨b6, rfl⟩ := two_of (f := D.bl) m6
  obtain ⟨b7, rfl⟩ := two_of (f := D.bl) m7
  refine ⟨g7, s7, ⟨ws, b2, b3, b4, b5, b6, b7⟩, p7, ?_⟩
  rw [f__law_rule, mkFn_eq]
  simp_arith [ce0__law_rule, values_spec, e1, e2, e3, e4, e5, e6, e7, eRu]
/-! ### drawn events, rows -/
def evWords : List D := [.str t_say, .str t_say, .str t_say, .str t_come, .str t_come, .str t_come, .str t_morning, .str t_morning, .str t_paper, .str t_court, .str t_clear]
theorem lot2 {g s : Int} (p : Pot g s) : ∃ g' s' q, Pot g' s' ∧ f__law_lot [pot g s, .sh (.int 2)] = some (.ok (.sh (eP q)), [some (pot g' s'), none]) := by
  obtain ⟨g', s', k, p', k0, k1, e⟩ := lot_spec (n := 2) p (by decide) (by decide)
  rcases (by omega : k = 0 ∨ k = 1) with rfl | rfl
  · exact ⟨g', s', false, p', e⟩
  · exact ⟨g', s', true, p', e⟩
theorem event_draw {g s : Int} (p : Pot g s) : ∃ g' s' v xs, Pot g' s' ∧ eEv v = .tup xs ∧ f__law_event [pot g s] = some (.ok (.tp (xs.map SB.sh)), [some (pot g' s')]) := by
  obtain ⟨g1, s1, x, p1, mx, e1⟩ := pick_spec (xs := [.str t_say, .str t_say, .str t_say, .str t_come, .str t_come, .str t_come, .str t_morning, .str t_morning, .str t_paper, .str t_court, .str t_clear]) p (by decide) (by decide)
  simp at mx
  rcases mx with rfl | rfl | rfl | rfl | rfl | rfl
  · obtain ⟨g2, s2, q, p2, e2⟩ := lot2 p1
    obtain ⟨g3, s3, y, p3, my, e3⟩ := pick_spec (xs := [.str t_always, .str t_bar, .str t_no, .str t_once, .str t_always]) p2 (by decide) (by decide)
    obtain ⟨w, rfl⟩ : ∃ w, y = eWd w := by
      simp at my
      rcases my with rfl | rfl | rfl | rfl | rfl
      · exact ⟨.always, rfl⟩
      · exact ⟨.bar, rfl⟩
      · exact ⟨.no, rfl⟩
      · exact ⟨.once, rfl⟩
      · exact ⟨.always, rfl⟩
    refine ⟨g3, s3, .say q w, _, p3, rfl, ?_⟩
    rw [f__law_event, mkFn_eq]
    simp_arith [e1, e2, e3, words_spec]
  · obtain ⟨g2, s2, y, p2, my, e2⟩ := pick_spec (xs := [.int 0, .int 1, .int 2, .int 2]) p1 (by decide) (by decide)
    obtain ⟨w, rfl⟩ : ∃ w, y = eWh w := by
      simp at my
      rcases my with rfl | rfl | rfl
      · exact ⟨.a, rfl⟩
      · exact ⟨.b, rfl⟩
      · exact ⟨.o, rfl⟩
    refine ⟨g2, s2, .come w, _, p2, rfl, ?_⟩
    rw [f__law_event, mkFn_eq]
    simp_arith [e1, e2]
  · refine ⟨g1, s1, .morning, _, p1, rfl, ?_⟩
    rw [f__law_event, mkFn_eq]
    simp_arith [e1]
  · obtain ⟨g2, s2, q, p2, e2⟩ := lot2 p1
    refine ⟨g2, s2, .paper q, _, p2, rfl, ?_⟩
    rw [f__law_event, mkFn_eq]
    simp_arith [e1, e2]
  · obtain ⟨g2, s2, q, p2, e2⟩ := lot2 p1
    refine ⟨g2, s2, .court q, _, p2, rfl, ?_⟩
    rw [f__law_event, mkFn_eq]
    simp_arith [e1, e2]
  · obtain ⟨g2, s2, q, p2, e2⟩ := lot2 p1
    refine ⟨g2, s2, .clear q, _, p2, rfl, ?_⟩
    rw [f__law_event, mkFn_eq]
    simp_arith [e1, e2]
end CM
end WF

set_option Elab.async false
set_option linter.all false
set_option maxRecDepth 100000
set_option maxHeartbeats 1000000
/-! C3: drawn rows. -/
namespace WF
namespace CM
local macro_rules | `(tactic| simp_arith [$ls,*]) => `(tactic| simp only [KO_some, KO_none, KO_ite, KE_some, KE_none, KE_ite, K_ret, K_stuck, K_lift, kId_eq, eId_eq, un1_some, op2_some, dat_sh, dat_ow, dat_pl, dat_tp, sbsD_nil, sbsD_cons, toD_sh, toD_ow, toD_io, toD_lst, toD_dic, at_zero, at_succ, kV_sh, kV_lst, kV_dic, K_mV, kP_sh, kP_ow, kP_io, K_mP, kM_sh, kM_ow, K_mMv, K_mK, kOp2_eq, kOp1_eq, K_mOp, kUn_eq, K_mUn, K_mNeg, isNB_eq, notNB_eq, K_mIsN, K_mNotN, lele_int, kLL3_eq, kLL2_eq, kLL1_eq, K_mLeLe, kTV_eq, K_tV, kTA_eq, K_tAnd, kTO_eq, K_tOr, kTN_eq, K_tNot, K_yes, kMA2_eq, kMA1_eq, K_mAnd, kMO2_eq, kMO1_eq, K_mOr, notB_bl, K_mNot, kIf_eq, K_mIf, boolV_bl, tru_bl, tru_non, tru_int, tru_str, tru_tup, tru_lst, K_mNil, kC2_eq, kC1_eq, K_mCons, keptO_nil, keptO_sh, keptO_ow, keptO_tp, tupO_eq, lstO_eq, kTup_eq, kLst_eq, K_mTup, K_mLst, fzO_eq, kFz_eq, K_mFz, lzip2_eq, kLZ2_eq, kLZ1_eq, K_mLZip, K_mDic0, dic1_eq, kD2_eq, kD1_eq, K_mDic1, elB_sh, elB_ow, ixO_sh, ixO_ow, ixO_pl, ixO_tp, kIx2_eq, kIx1_eq, K_mIx, slO_eq, kSl3_eq, kSl2_eq, kSl1_eq, K_mSl, intD_int, K_mEndN, kEnd_eq, K_mEndS, K_mRev, get3_eq, kG3_eq, kG2_eq, kG1_eq, K_mGet, txtB_str, kSp3_eq, kSp2_eq, kSp1_eq, K_mSplit, kJn3_eq, kJn2_eq, kJn1_eq, K_mJoinS, lent_nil, lent_sh1, lent_ow, lent_tp, lent_pl, nodup0, nodup1, nodup2, handL_nil, handL_cons, handB_sh, handB_lst, handB_dic, handB_tp, handB_pl, lendS_sh, lendS_ow, lendS_io, argsO_eq, backL_nil, backL_cons, backB_sh, backB_ow, backB_tp, backB_plN, backB_plS, putE_zero, putE_succ, put_ow, put_io, sput_sh, KF_ok, KF_exc, KF_none, KF_ite, KF_r, kArg_eq, kCall_eq, K_mCall, ioS_io, ioS_sh, ioS_ow, ioS_no, outs0, outs1, outs2, outs3, outs4, outs5, kFn_rt, kFn_nx, eFn_eq, mkFn_eq, rep0, repS, itO_eq, kIt_eq, K_items, dItems_tup, dItems_lst, rngD_int, kRg_eq, K_itRange, zipO_eq, kZ2_eq, kZ1_eq, K_itZip, enO_eq, kEn_eq, K_itEnum, zip2_tup, zip2_lst, zipD_cons, zipD_nil, zipD_nil2, enumD_tup, enumD_lst, putS_succ, putS_no, putS_sh, putS_ow, putTg_one, putTg_tup, putSs_nil, putSs_cons, slots_one, slots_tup, clr_nil, clr_cons, back_nil, back_cons, free_nil, free_cons, fr1_succ, fr1_no, fr1_sh, kCoE_eq, kCo_eq, K_mComp, K_comp0, kCo3_eq, kCo2_eq, kCo1_eq, kCo0_eq, K_comp1, K_sPass, K_sBreak, K_sCont, kSeq_nx, kSeq_rt, kSeq_bk, kSeq_ct, K_sSeq, kDrop_eq, K_sDrop, K_sIf, kNx_eq, ownO_sh, ownO_ow, ownO_tp, setO_eq, kSet_eq, K_sSet, ownOs_nil, ownOs_cons, putA_nil, putA_cons, parO_eq, kPar_eq, K_sPar, tupB_tp, tupB_sh, unpO_eq, kUnp_eq, K_sUnp, putOE_zero, putOE_succ, obj_ow, obj_io, hasO_zero, hasO_succ, xsO_eq, kXS3_eq, kXS2_eq, kXS1_eq, K_sIxSet, apO_eq, kNon_eq, kAp2_eq, kAp1_eq, K_mApp, kKy_eq, K_itKeys, keysOf_dic, strD_str, getO_eq, getS_dic, kGt3_eq, kGt2_eq, kGt1_eq, kGt0_eq, K_mGetN, addAt_lst, setAt_lst, setAt_dicS, setAt_dicT, kFor_eq, K_sFor, kFor2_nx, kFor2_ct, kFor2_bk, kFor2_rt, kFor1_eq, K_for0, K_for1, kWh2_nx, kWh2_ct, kWh2_bk, kWh2_rt, kWh1_eq, kRet_sh, kRet_ow, kRet_tp, K_sRet, tpO_eq, kTp_eq, K_mTp, sbBs_nil, sbBs_cons, sbB_sh, sbB_ow, K_sRaise, eTry_eq, K_sTry, K_tryGo0, K_tryGo1, Add_int, Add_tup, Add_lst, Add_str, Sub_int, Mul_int, Mul_lst, Fdiv_int, Mod_int, Lt_int, Le_int, Gt_int, Ge_int, Eq_eq, Ne_eq, In_tup, In_lst, Nin_tup, Nin_lst, mem_nil, mem_cons, Ix_tup, Ix_lst, atI_0, atI_1, atI_2, atI_3, atI_4, atI_5, atI_6, Len_tup, Len_lst, Len_dic, Ix_dic, In_dic, Nin_dic, Min_int, Len_str, Int_int, Int_bl, Tuple_lst, Tuple_tup, List_lst, List_tup, List_dic, bools_nil, bools_cons, All_lst, Any_lst, dep_non, dep_bl, dep_int, dep_str, dep_tupS, dep_lstS, deps_nil, deps_cons, isNon_non, isNon_int, isNon_tup, isNon_lst, isNon_str, isNon_bl, eqv_ss, eqv_ii, eqv_bb, eqv_nn, eqv_tt, eqv_ll, eqvs_nn, eqvs_nc, eqvs_cn, eqvs_cc, upto_1, upto_2, upto_3, upto_7, K_mAdd, K_mSub, K_mMul, K_mFdiv, K_mMod, K_mPow, K_mEq, K_mNe, K_mLt, K_mLe, K_mGt, K_mGe, K_mIn, K_mNin, K_mMin, K_mJoin, K_mIndex, K_mLen, K_mInt, K_mStr, K_mTuple, K_mList, K_mAll, K_mAny, K_mSorted, K_mDict, K_mIsA, IsA_tup, IsA_lst, IsA_str, IsA_int, IsA_bl, Mul_tup, txt_nc, txt_cn, IsA_non, isA, LIM, List.drop_zero, List.take_zero, List.drop_succ_cons, List.take_succ_cons, List.drop_nil, List.take_nil, Nat.sub_zero, reduceIte, ite_true, ite_false, Nat.reduceAdd, Nat.reduceMul, Nat.reduceSub, Nat.reduceLT, Nat.reduceLeDiff, Nat.reduceEqDiff, Nat.reduceBEq, Nat.reduceBNe, Nat.reducePow, Int.reduceAdd, Int.reduceMul, Int.reduceNeg, Int.reduceSub, Int.reduceLE, Int.reduceLT, Int.reduceEq, Int.reduceBEq, Int.reduceBNe, Int.reducePow, Int.reduceToNat, Int.reduceNe, Int.reduceMod, Int.reduceDiv, Int.cast_ofNat_Int, Int.ofNat_zero, Int.ofNat_one, List.cons_beq_cons, and_true, true_and, and_self, and_false, false_and, not_false_eq_true, not_true_eq_false, or_true, true_or, or_false, false_or, List.map_cons, List.map_nil, List.length_cons, List.length_nil, List.cons_append, List.nil_append, List.append_nil, List.set_cons_zero, List.set_cons_succ, Option.bind_some, Option.bind_none, Option.map_some, Option.map_none, List.head?_cons, if_true, Bool.and_true, Bool.true_and, Bool.and_false, Bool.false_and, Bool.or_true, Bool.true_or, Bool.or_false, Bool.false_or, Bool.not_true, Bool.not_false, Bool.not_not, Bool.and_self, Bool.or_self, decide_true, decide_false, decide_eq_true_eq, beq_self_eq_true, Bool.false_eq_true, List.all_cons, List.all_nil, List.any_cons, List.any_nil, id_eq, Nat.max_self, Nat.sub_self, Nat.zero_le, Bool.decide_eq_true, List.isEmpty_cons, List.isEmpty_nil, ite_self, Nat.max_zero, Nat.zero_max, $ls,*])
open M2
theorem sbsD_sh : ∀ ds : List D, sbsD (ds.map SB.sh) = some ds
  | [] => rfl
  | d :: ds => by
    rw [List.map_cons, sbsD_cons, sbsD_sh ds]
    rfl
theorem all_of {xs : List D} (h : ∀ x ∈ xs, ∃ e : Ev, x = eEv e) : ∃ es : List Ev, xs = es.map eEv := by
  induction xs with
  | nil => exact ⟨[], rfl⟩
  | cons x xs ih =>
    obtain ⟨e, rfl⟩ := h x List.mem_cons_self
    obtain ⟨es, rfl⟩ := ih fun y m => h y (List.mem_cons_of_mem _ m)
    exact ⟨e :: es, rfl⟩
theorem row_draw {g s : Int} {m : Nat} (p : Pot g s) (hm : m < 900) : ∃ g' s' es, Pot g' s' ∧ es.length ≤ m ∧ f__law_row [pot g s, .sh (.int m)] = some (.ok (.sh (eRow es)), [some (pot g' s'), none]) := by
  obtain ⟨g1, s1, k, p1, k0, k1, e1⟩ := lot_spec (n := (m : Int) + 1) p (by omega) (by omega)
  have hk : k < 4611686018427387904 := by omega
  have hk' : -4611686018427387904 ≤ k := by omega
  have hit : itRange (mCall f__law_lot (mCons (mP 0) (mCons (mAdd (mP 1) (mK (.int 1))) mNil))) [some (pot g s), some (.sh (.int m)), none] = some (.ok (upto k.toNat), [some (pot g1 s1), some (.sh (.int m)), none]) := by
    rw [K_id (m := itRange _)]
    simp_arith [e1, hk, hk']
  obtain ⟨xs, ρ', e, ⟨g', s', o, p', rfl⟩, hl, hr⟩ := mComp_rel (i := 2) (c := yes) (e := ce0__law_row) (fun ρ => ∃ g s o, Pot g s ∧ ρ = [some (pot g s), some (.sh (.int m)), o]) (fun d x => ∃ v, x = eEv v) hit (by simp) rfl (by rw [upto_len]; show _ ≤ 16777216; omega) ⟨g1, s1, none, p1, rfl⟩ fun d md ρ ⟨g, s, o, p, h⟩ => by
    subst h
    obtain ⟨g', s', v, xs, p', hv, e⟩ := event_draw p
    refine ⟨[some (pot g s), some (.sh (.int m)), some (.sh d)], [some (pot g' s'), some (.sh (.int m)), some (.sh d)], [some (pot g s), some (.sh (.int m)), some (.sh d)], eEv v, .tp (xs.map SB.sh), rfl, rfl, ?_, rfl, ?_, ⟨v, rfl⟩, g', s', _, p', rfl⟩
    · rw [K_id (m := ce0__law_row), ce0__law_row]
      simp_arith [e]
    · rw [dat_tp, sbsD_sh, hv]
      rfl
  obtain ⟨es, rfl⟩ := all_of (xs := xs) fun x mx => by
    obtain ⟨j, hj, ex⟩ := List.getElem_of_mem mx
    have hj' : j < (upto k.toNat).length := by omega
    exact hr j _ x (List.getElem?_eq_getElem hj') (by rw [List.getElem?_eq_getElem hj, ex])
  refine ⟨g', s', es, p', by rw [List.length_map, upto_len] at hl; omega, ?_⟩
  rw [f__law_row, mkFn_eq]
  simp_arith [-K_mComp, K_eq e, eRow]
end CM
end WF

set_option Elab.async false
set_option linter.all false
set_option maxRecDepth 100000
set_option maxHeartbeats 1000000
/-! C4: what the program's steps compute. -/
namespace WF
namespace CM
local macro_rules | `(tactic| simp_arith [$ls,*]) => `(tactic| simp only [KO_some, KO_none, KO_ite, KE_some, KE_none, KE_ite, K_ret, K_stuck, K_lift, kId_eq, eId_eq, un1_some, op2_some, dat_sh, dat_ow, dat_pl, dat_tp, sbsD_nil, sbsD_cons, toD_sh, toD_ow, toD_io, toD_lst, toD_dic, at_zero, at_succ, kV_sh, kV_lst, kV_dic, K_mV, kP_sh, kP_ow, kP_io, K_mP, kM_sh, kM_ow, K_mMv, K_mK, kOp2_eq, kOp1_eq, K_mOp, kUn_eq, K_mUn, K_mNeg, isNB_eq, notNB_eq, K_mIsN, K_mNotN, lele_int, kLL3_eq, kLL2_eq, kLL1_eq, K_mLeLe, kTV_eq, K_tV, kTA_eq, K_tAnd, kTO_eq, K_tOr, kTN_eq, K_tNot, K_yes, kMA2_eq, kMA1_eq, K_mAnd, kMO2_eq, kMO1_eq, K_mOr, notB_bl, K_mNot, kIf_eq, K_mIf, boolV_bl, tru_bl, tru_non, tru_int, tru_str, tru_tup, tru_lst, K_mNil, kC2_eq, kC1_eq, K_mCons, keptO_nil, keptO_sh, keptO_ow, keptO_tp, tupO_eq, lstO_eq, kTup_eq, kLst_eq, K_mTup, K_mLst, fzO_eq, kFz_eq, K_mFz, lzip2_eq, kLZ2_eq, kLZ1_eq, K_mLZip, K_mDic0, dic1_eq, kD2_eq, kD1_eq, K_mDic1, elB_sh, elB_ow, ixO_sh, ixO_ow, ixO_pl, ixO_tp, kIx2_eq, kIx1_eq, K_mIx, slO_eq, kSl3_eq, kSl2_eq, kSl1_eq, K_mSl, intD_int, K_mEndN, kEnd_eq, K_mEndS, K_mRev, get3_eq, kG3_eq, kG2_eq, kG1_eq, K_mGet, txtB_str, kSp3_eq, kSp2_eq, kSp1_eq, K_mSplit, kJn3_eq, kJn2_eq, kJn1_eq, K_mJoinS, lent_nil, lent_sh1, lent_ow, lent_tp, lent_pl, nodup0, nodup1, nodup2, handL_nil, handL_cons, handB_sh, handB_lst, handB_dic, handB_tp, handB_pl, lendS_sh, lendS_ow, lendS_io, argsO_eq, backL_nil, backL_cons, backB_sh, backB_ow, backB_tp, backB_plN, backB_plS, putE_zero, putE_succ, put_ow, put_io, sput_sh, KF_ok, KF_exc, KF_none, KF_ite, KF_r, kArg_eq, kCall_eq, K_mCall, ioS_io, ioS_sh, ioS_ow, ioS_no, outs0, outs1, outs2, outs3, outs4, outs5, kFn_rt, kFn_nx, eFn_eq, mkFn_eq, rep0, repS, itO_eq, kIt_eq, K_items, dItems_tup, dItems_lst, rngD_int, kRg_eq, K_itRange, zipO_eq, kZ2_eq, kZ1_eq, K_itZip, enO_eq, kEn_eq, K_itEnum, zip2_tup, zip2_lst, zipD_cons, zipD_nil, zipD_nil2, enumD_tup, enumD_lst, putS_succ, putS_no, putS_sh, putS_ow, putTg_one, putTg_tup, putSs_nil, putSs_cons, slots_one, slots_tup, clr_nil, clr_cons, back_nil, back_cons, free_nil, free_cons, fr1_succ, fr1_no, fr1_sh, kCoE_eq, kCo_eq, K_mComp, K_comp0, kCo3_eq, kCo2_eq, kCo1_eq, kCo0_eq, K_comp1, K_sPass, K_sBreak, K_sCont, kSeq_nx, kSeq_rt, kSeq_bk, kSeq_ct, K_sSeq, kDrop_eq, K_sDrop, K_sIf, kNx_eq, ownO_sh, ownO_ow, ownO_tp, setO_eq, kSet_eq, K_sSet, ownOs_nil, ownOs_cons, putA_nil, putA_cons, parO_eq, kPar_eq, K_sPar, tupB_tp, tupB_sh, unpO_eq, kUnp_eq, K_sUnp, putOE_zero, putOE_succ, obj_ow, obj_io, hasO_zero, hasO_succ, xsO_eq, kXS3_eq, kXS2_eq, kXS1_eq, K_sIxSet, apO_eq, kNon_eq, kAp2_eq, kAp1_eq, K_mApp, kKy_eq, K_itKeys, keysOf_dic, strD_str, getO_eq, getS_dic, kGt3_eq, kGt2_eq, kGt1_eq, kGt0_eq, K_mGetN, addAt_lst, setAt_lst, setAt_dicS, setAt_dicT, kFor_eq, K_sFor, kFor2_nx, kFor2_ct, kFor2_bk, kFor2_rt, kFor1_eq, K_for0, K_for1, kWh2_nx, kWh2_ct, kWh2_bk, kWh2_rt, kWh1_eq, kRet_sh, kRet_ow, kRet_tp, K_sRet, tpO_eq, kTp_eq, K_mTp, sbBs_nil, sbBs_cons, sbB_sh, sbB_ow, K_sRaise, eTry_eq, K_sTry, K_tryGo0, K_tryGo1, Add_int, Add_tup, Add_lst, Add_str, Sub_int, Mul_int, Mul_lst, Fdiv_int, Mod_int, Lt_int, Le_int, Gt_int, Ge_int, Eq_eq, Ne_eq, In_tup, In_lst, Nin_tup, Nin_lst, mem_nil, mem_cons, Ix_tup, Ix_lst, atI_0, atI_1, atI_2, atI_3, atI_4, atI_5, atI_6, Len_tup, Len_lst, Len_dic, Ix_dic, In_dic, Nin_dic, Min_int, Len_str, Int_int, Int_bl, Tuple_lst, Tuple_tup, List_lst, List_tup, List_dic, bools_nil, bools_cons, All_lst, Any_lst, dep_non, dep_bl, dep_int, dep_str, dep_tupS, dep_lstS, deps_nil, deps_cons, isNon_non, isNon_int, isNon_tup, isNon_lst, isNon_str, isNon_bl, eqv_ss, eqv_ii, eqv_bb, eqv_nn, eqv_tt, eqv_ll, eqvs_nn, eqvs_nc, eqvs_cn, eqvs_cc, upto_1, upto_2, upto_3, upto_7, K_mAdd, K_mSub, K_mMul, K_mFdiv, K_mMod, K_mPow, K_mEq, K_mNe, K_mLt, K_mLe, K_mGt, K_mGe, K_mIn, K_mNin, K_mMin, K_mJoin, K_mIndex, K_mLen, K_mInt, K_mStr, K_mTuple, K_mList, K_mAll, K_mAny, K_mSorted, K_mDict, K_mIsA, IsA_tup, IsA_lst, IsA_str, IsA_int, IsA_bl, Mul_tup, txt_nc, txt_cn, IsA_non, isA, LIM, List.drop_zero, List.take_zero, List.drop_succ_cons, List.take_succ_cons, List.drop_nil, List.take_nil, Nat.sub_zero, reduceIte, ite_true, ite_false, Nat.reduceAdd, Nat.reduceMul, Nat.reduceSub, Nat.reduceLT, Nat.reduceLeDiff, Nat.reduceEqDiff, Nat.reduceBEq, Nat.reduceBNe, Nat.reducePow, Int.reduceAdd, Int.reduceMul, Int.reduceNeg, Int.reduceSub, Int.reduceLE, Int.reduceLT, Int.reduceEq, Int.reduceBEq, Int.reduceBNe, Int.reducePow, Int.reduceToNat, Int.reduceNe, Int.reduceMod, Int.reduceDiv, Int.cast_ofNat_Int, Int.ofNat_zero, Int.ofNat_one, List.cons_beq_cons, and_true, true_and, and_self, and_false, false_and, not_false_eq_true, not_true_eq_false, or_true, true_or, or_false, false_or, List.map_cons, List.map_nil, List.length_cons, List.length_nil, List.cons_append, List.nil_append, List.append_nil, List.set_cons_zero, List.set_cons_succ, Option.bind_some, Option.bind_none, Option.map_some, Option.map_none, List.head?_cons, if_true, Bool.and_true, Bool.true_and, Bool.and_false, Bool.false_and, Bool.or_true, Bool.true_or, Bool.or_false, Bool.false_or, Bool.not_true, Bool.not_false, Bool.not_not, Bool.and_self, Bool.or_self, decide_true, decide_false, decide_eq_true_eq, beq_self_eq_true, Bool.false_eq_true, List.all_cons, List.all_nil, List.any_cons, List.any_nil, id_eq, Nat.max_self, Nat.sub_self, Nat.zero_le, Bool.decide_eq_true, List.isEmpty_cons, List.isEmpty_nil, ite_self, Nat.max_zero, Nat.zero_max, $ls,*])
open M2
section
variable {r : Ru} {s : Sd}
theorem Ix_ru0 : iIx (eRu r) (.int 0) = some (.sh (eWs r.ws)) := rfl
theorem Ix_ru1 : iIx (eRu r) (.int 1) = some (.sh (eBars r.win)) := rfl
theorem Ix_ru2 : iIx (eRu r) (.int 2) = some (.sh (eNow r.lag)) := rfl
theorem Ix_ru3 : iIx (eRu r) (.int 3) = some (.sh (eNow r.court)) := rfl
theorem Ix_ru4 : iIx (eRu r) (.int 4) = some (.sh (eUse r.use)) := rfl
theorem Ix_ru5 : iIx (eRu r) (.int 5) = some (.sh (.bl r.void)) := rfl
theorem Ix_ru6 : iIx (eRu r) (.int 6) = some (.sh (.bl r.paper)) := rfl
theorem Ix_sd0 : iIx (eSd s) (.int 0) = some (.sh (pr (eWd s.s0) (eWd s.s1))) := rfl
theorem Ix_sd1 : iIx (eSd s) (.int 1) = some (.sh (pr (.bl s.c0) (.bl s.c1))) := rfl
theorem Ix_sd2 : iIx (eSd s) (.int 2) = some (.sh (pr (eWd s.l0) (eWd s.l1))) := rfl
theorem Ix_sd3 : iIx (eSd s) (.int 3) = some (.sh (pr (.bl s.k0) (.bl s.k1))) := rfl
theorem Ix_sd4 : iIx (eSd s) (.int 4) = some (.sh (.bl s.th)) := rfl
theorem tupB_sd : tupB (.sh (eSd s)) = some [.sh (pr (eWd s.s0) (eWd s.s1)), .sh (pr (.bl s.c0) (.bl s.c1)), .sh (pr (eWd s.l0) (eWd s.l1)), .sh (pr (.bl s.k0) (.bl s.k1)), .sh (.bl s.th)] := rfl
theorem isNon_eP {p : Bool} : D.isNon (eP p) = false := by cases p <;> rfl
theorem eq_ws {a b : Ws} : D.eqv (eWs a) (eWs b) = (a == b) := by cases a <;> cases b <;> rfl
theorem eq_last {a : Ws} : D.eqv (eWs a) (.str t_last) = (a == .last) := by cases a <;> rfl
theorem eq_both {a : Ws} : D.eqv (eWs a) (.str t_both) = (a == .both) := by cases a <;> rfl
theorem eq_win {a : Bool} : D.eqv (eBars a) (.str t_win) = a := by cases a <;> rfl
theorem eq_now {a : Bool} : D.eqv (eNow a) (.str t_now) = a := by cases a <;> rfl
theorem eq_use {a : Bool} : D.eqv (eUse a) (.str t_use) = a := by cases a <;> rfl
theorem eq_day {a : Bool} : D.eqv (eUse a) (.str t_day) = !a := by cases a <;> rfl
theorem eq_bar {a : Wd} : D.eqv (eWd a) (.str t_bar) = (a == .bar) := by cases a <;> rfl
theorem eq_once {a : Wd} : D.eqv (eWd a) (.str t_once) = (a == .once) := by cases a <;> rfl
theorem eq_always {a : Wd} : D.eqv (eWd a) (.str t_always) = (a == .always) := by cases a <;> rfl
theorem qe_always {a : Wd} : D.eqv (.str t_always) (eWd a) = (a == .always) := by cases a <;> rfl
theorem qe_once {a : Wd} : D.eqv (.str t_once) (eWd a) = (a == .once) := by cases a <;> rfl
theorem mem_good {a : Wd} : memD (eWd a) [.str t_always, .str t_once] = a.good := by cases a <;> rfl
theorem dep_eWs {a : Ws} : D.dep (eWs a) = 0 := by cases a <;> rfl
theorem dep_eBars {a : Bool} : D.dep (eBars a) = 0 := by cases a <;> rfl
theorem dep_eNow {a : Bool} : D.dep (eNow a) = 0 := by cases a <;> rfl
theorem dep_eUse {a : Bool} : D.dep (eUse a) = 0 := by cases a <;> rfl
theorem dep_eP {a : Bool} : D.dep (eP a) = 0 := by cases a <;> rfl
theorem dep_eWh {a : Wh} : D.dep (eWh a) = 0 := by cases a <;> rfl
end
theorem put_at_spec (a b v : D) (p : Bool) : f_put_at [.sh (pr a b), .sh (eP p), .sh v] = some (.ok (.sh (if p then pr a v else pr v b)), [none, none, none]) := by cases p <;> rfl
theorem spoken_spec (r : Ru) (x y w : Wd) (p : Bool) : f_spoken [.sh (eRu r), .sh (pr (eWd x) (eWd y)), .sh (eP p), .sh (eWd w)] = some (.ok (.sh (pr (eWd (spoken r.ws x y p w).1) (eWd (spoken r.ws x y p w).2))), [none, none, none, none]) := by
  obtain ⟨ws, a, b, c, d, e, f⟩ := r
  cases ws <;> cases p <;> rfl
theorem spoken_once (r : Ru) (x y : Wd) (p : Bool) : f_spoken [.sh (eRu r), .sh (pr (eWd x) (eWd y)), .sh (eP p), .sh (.str t_once)] = some (.ok (.sh (pr (eWd (spoken r.ws x y p .once).1) (eWd (spoken r.ws x y p .once).2))), [none, none, none, none]) := spoken_spec r x y .once p
theorem worded_spec (r : Ru) (x y : Wd) (c d : Bool) (g : Option Bool) : f_worded [.sh (eRu r), .sh (pr (eWd x) (eWd y)), .sh (pr (.bl c) (.bl d)), .sh (eSg g)] = some (.ok (.sh (pr (eWd (worded r x y c d g).1) (eWd (worded r x y c d g).2))), [none, none, none, none]) := by
  rw [f_worded, mkFn_eq]
  rcases g with _ | p
  · simp_arith [eSg, Ix_ru5, Ix_ru6, ce0_worded]
    cases hv : r.void <;> cases c <;> cases d <;> simp only [worded, hv] <;> rfl
  · cases hp : r.paper
    · simp_arith [eSg, isNon_eP, Ix_ru5, Ix_ru6, ce0_worded, hp]
      cases hv : r.void <;> cases c <;> cases d <;> simp only [worded, hv, hp] <;> rfl
    · simp_arith [eSg, isNon_eP, Ix_ru5, Ix_ru6, ce0_worded, hp, spoken_once]
      cases hv : r.void <;> cases c <;> cases d <;> simp only [worded, hv, hp] <;> rfl
theorem worded_N (r : Ru) (x y : Wd) (c d : Bool) : f_worded [.sh (eRu r), .sh (pr (eWd x) (eWd y)), .sh (pr (.bl c) (.bl d)), .sh .non] = some (.ok (.sh (pr (eWd (worded r x y c d none).1) (eWd (worded r x y c d none).2))), [none, none, none, none]) := worded_spec r x y c d none
theorem ne_other {w : Wh} : D.eqv (eWh w) (.int 2) = (w == .o) := by cases w <;> rfl
theorem mem_bar2 {x y : Wd} : memD (.str t_bar) [eWd x, eWd y] = (x == .bar || y == .bar) := by cases x <;> cases y <;> rfl
theorem may_spec (r : Ru) (x y : Wd) (c d : Bool) (w : Wh) (g : Option Bool) : f_may [.sh (eRu r), .sh (pr (eWd x) (eWd y)), .sh (pr (.bl c) (.bl d)), .sh (eWh w), .sh (eSg g)] = some (.ok (.sh (.bl (may r x y c d w g))), [none, none, none, none, none]) := by
  rw [f_may, mkFn_eq]
  cases w with
  | a => simp_arith [c_OTHER, eWh, may]
  | b => simp_arith [c_OTHER, eWh, may]
  | o =>
    simp_arith [c_OTHER, eWh, worded_spec, Ix_ru0, Ix_ru1, eq_win, eq_both, dep_eBars, dep_eWs, dep_eWd, eq_bar, qe_always, qe_once, ce0_may, may, mayW]
    generalize (worded r x y c d g).1 = u
    generalize (worded r x y c d g).2 = v
    cases r.win <;> cases r.ws <;> cases u <;> cases v <;> rfl
theorem may_N (r : Ru) (x y : Wd) (c d : Bool) (w : Wh) : f_may [.sh (eRu r), .sh (pr (eWd x) (eWd y)), .sh (pr (.bl c) (.bl d)), .sh (eWh w), .sh .non] = some (.ok (.sh (.bl (may r x y c d w none))), [none, none, none, none, none]) := may_spec r x y c d w none
theorem may_P (r : Ru) (x y : Wd) (c d : Bool) (p : Bool) : f_may [.sh (eRu r), .sh (pr (eWd x) (eWd y)), .sh (pr (.bl c) (.bl d)), .sh (.int 2), .sh (eP p)] = some (.ok (.sh (.bl (may r x y c d .o (some p)))), [none, none, none, none, none]) := may_spec r x y c d .o (some p)
theorem used_spec (x y : Wd) : f_used_up [.sh (pr (eWd x) (eWd y))] = some (.ok (.sh (pr (eWd x.up) (eWd y.up))), [none]) := by
  rw [f_used_up, mkFn_eq]
  simp_arith [ce0_used_up, eq_once, dep_eWd]
  cases x <;> cases y <;> rfl
theorem come_spec (r : Ru) (s : Sd) (w : Wh) (g : Option Bool) : f_come [.sh (eRu r), .sh (eSd s), .sh (eWh w), .sh (eSg g)] = some (.ok (.sh (.tup [eSd (come r s w g).1, eTd (come r s w g).2])), [none, none, none, none]) := by
  rw [f_come, mkFn_eq]
  simp_arith [tupB_sd, may_spec, ne_other, c_OTHER, dep_eWh, Ix_ru4, eq_use, dep_eUse, used_spec]
  unfold come
  cases s.th
  · rfl
  · cases may r s.l0 s.l1 s.k0 s.k1 w g
    · rfl
    · cases w == .o <;> cases r.use <;> rfl
theorem come_N (r : Ru) (s : Sd) (w : Wh) : f_come [.sh (eRu r), .sh (eSd s), .sh (eWh w), .sh .non] = some (.ok (.sh (.tup [eSd (come r s w none).1, eTd (come r s w none).2])), [none, none, none, none]) := come_spec r s w none
theorem come_P (r : Ru) (s : Sd) (p : Bool) : f_come [.sh (eRu r), .sh (eSd s), .sh (.int 2), .sh (eP p)] = some (.ok (.sh (.tup [eSd (come r s .o (some p)).1, eTd (come r s .o (some p)).2])), [none, none, none, none]) := come_spec r s .o (some p)
theorem morn_spec (r : Ru) (s : Sd) : ∃ b0 b1 b2 b3 b4, eSd (morn r s) = .tup [b0, b1, b2, b3, b4] ∧ f_morning [.sh (eRu r), .sh (eSd s)] = some (.ok (.tp [.sh b0, .sh b1, .sh b2, .sh b3, .sh b4]), [none, none]) := by
  refine ⟨_, _, _, _, _, rfl, ?_⟩
  rw [f_morning, mkFn_eq]
  simp_arith [tupB_sd, Ix_ru4, eq_day, dep_eUse, eq_once, dep_eWd, ce0_morning]
  unfold morn
  cases r.use
  · simp only [Bool.not_false, if_true, Bool.false_eq_true, if_false]
    cases s.s0 <;> cases s.s1 <;> cases s.l0 <;> cases s.l1 <;> rfl
  · rfl
end CM
end WF

set_option Elab.async false
set_option linter.all false
set_option maxRecDepth 100000
set_option maxHeartbeats 1000000
/-! C5: a step; rows led; rights. -/
namespace WF
namespace CM
local macro_rules | `(tactic| simp_arith [$ls,*]) => `(tactic| simp only [KO_some, KO_none, KO_ite, KE_some, KE_none, KE_ite, K_ret, K_stuck, K_lift, kId_eq, eId_eq, un1_some, op2_some, dat_sh, dat_ow, dat_pl, dat_tp, sbsD_nil, sbsD_cons, toD_sh, toD_ow, toD_io, toD_lst, toD_dic, at_zero, at_succ, kV_sh, kV_lst, kV_dic, K_mV, kP_sh, kP_ow, kP_io, K_mP, kM_sh, kM_ow, K_mMv, K_mK, kOp2_eq, kOp1_eq, K_mOp, kUn_eq, K_mUn, K_mNeg, isNB_eq, notNB_eq, K_mIsN, K_mNotN, lele_int, kLL3_eq, kLL2_eq, kLL1_eq, K_mLeLe, kTV_eq, K_tV, kTA_eq, K_tAnd, kTO_eq, K_tOr, kTN_eq, K_tNot, K_yes, kMA2_eq, kMA1_eq, K_mAnd, kMO2_eq, kMO1_eq, K_mOr, notB_bl, K_mNot, kIf_eq, K_mIf, boolV_bl, tru_bl, tru_non, tru_int, tru_str, tru_tup, tru_lst, K_mNil, kC2_eq, kC1_eq, K_mCons, keptO_nil, keptO_sh, keptO_ow, keptO_tp, tupO_eq, lstO_eq, kTup_eq, kLst_eq, K_mTup, K_mLst, fzO_eq, kFz_eq, K_mFz, lzip2_eq, kLZ2_eq, kLZ1_eq, K_mLZip, K_mDic0, dic1_eq, kD2_eq, kD1_eq, K_mDic1, elB_sh, elB_ow, ixO_sh, ixO_ow, ixO_pl, ixO_tp, kIx2_eq, kIx1_eq, K_mIx, slO_eq, kSl3_eq, kSl2_eq, kSl1_eq, K_mSl, intD_int, K_mEndN, kEnd_eq, K_mEndS, K_mRev, get3_eq, kG3_eq, kG2_eq, kG1_eq, K_mGet, txtB_str, kSp3_eq, kSp2_eq, kSp1_eq, K_mSplit, kJn3_eq, kJn2_eq, kJn1_eq, K_mJoinS, lent_nil, lent_sh1, lent_ow, lent_tp, lent_pl, nodup0, nodup1, nodup2, handL_nil, handL_cons, handB_sh, handB_lst, handB_dic, handB_tp, handB_pl, lendS_sh, lendS_ow, lendS_io, argsO_eq, backL_nil, backL_cons, backB_sh, backB_ow, backB_tp, backB_plN, backB_plS, putE_zero, putE_succ, put_ow, put_io, sput_sh, KF_ok, KF_exc, KF_none, KF_ite, KF_r, kArg_eq, kCall_eq, K_mCall, ioS_io, ioS_sh, ioS_ow, ioS_no, outs0, outs1, outs2, outs3, outs4, outs5, kFn_rt, kFn_nx, eFn_eq, mkFn_eq, rep0, repS, itO_eq, kIt_eq, K_items, dItems_tup, dItems_lst, rngD_int, kRg_eq, K_itRange, zipO_eq, kZ2_eq, kZ1_eq, K_itZip, enO_eq, kEn_eq, K_itEnum, zip2_tup, zip2_lst, zipD_cons, zipD_nil, zipD_nil2, enumD_tup, enumD_lst, putS_succ, putS_no, putS_sh, putS_ow, putTg_one, putTg_tup, putSs_nil, putSs_cons, slots_one, slots_tup, clr_nil, clr_cons, back_nil, back_cons, free_nil, free_cons, fr1_succ, fr1_no, fr1_sh, kCoE_eq, kCo_eq, K_mComp, K_comp0, kCo3_eq, kCo2_eq, kCo1_eq, kCo0_eq, K_comp1, K_sPass, K_sBreak, K_sCont, kSeq_nx, kSeq_rt, kSeq_bk, kSeq_ct, K_sSeq, kDrop_eq, K_sDrop, K_sIf, kNx_eq, ownO_sh, ownO_ow, ownO_tp, setO_eq, kSet_eq, K_sSet, ownOs_nil, ownOs_cons, putA_nil, putA_cons, parO_eq, kPar_eq, K_sPar, tupB_tp, tupB_sh, unpO_eq, kUnp_eq, K_sUnp, putOE_zero, putOE_succ, obj_ow, obj_io, hasO_zero, hasO_succ, xsO_eq, kXS3_eq, kXS2_eq, kXS1_eq, K_sIxSet, apO_eq, kNon_eq, kAp2_eq, kAp1_eq, K_mApp, kKy_eq, K_itKeys, keysOf_dic, strD_str, getO_eq, getS_dic, kGt3_eq, kGt2_eq, kGt1_eq, kGt0_eq, K_mGetN, addAt_lst, setAt_lst, setAt_dicS, setAt_dicT, kFor_eq, K_sFor, kFor2_nx, kFor2_ct, kFor2_bk, kFor2_rt, kFor1_eq, K_for0, K_for1, kWh2_nx, kWh2_ct, kWh2_bk, kWh2_rt, kWh1_eq, kRet_sh, kRet_ow, kRet_tp, K_sRet, tpO_eq, kTp_eq, K_mTp, sbBs_nil, sbBs_cons, sbB_sh, sbB_ow, K_sRaise, eTry_eq, K_sTry, K_tryGo0, K_tryGo1, Add_int, Add_tup, Add_lst, Add_str, Sub_int, Mul_int, Mul_lst, Fdiv_int, Mod_int, Lt_int, Le_int, Gt_int, Ge_int, Eq_eq, Ne_eq, In_tup, In_lst, Nin_tup, Nin_lst, mem_nil, mem_cons, Ix_tup, Ix_lst, atI_0, atI_1, atI_2, atI_3, atI_4, atI_5, atI_6, Len_tup, Len_lst, Len_dic, Ix_dic, In_dic, Nin_dic, Min_int, Len_str, Int_int, Int_bl, Tuple_lst, Tuple_tup, List_lst, List_tup, List_dic, bools_nil, bools_cons, All_lst, Any_lst, dep_non, dep_bl, dep_int, dep_str, dep_tupS, dep_lstS, deps_nil, deps_cons, isNon_non, isNon_int, isNon_tup, isNon_lst, isNon_str, isNon_bl, eqv_ss, eqv_ii, eqv_bb, eqv_nn, eqv_tt, eqv_ll, eqvs_nn, eqvs_nc, eqvs_cn, eqvs_cc, upto_1, upto_2, upto_3, upto_7, K_mAdd, K_mSub, K_mMul, K_mFdiv, K_mMod, K_mPow, K_mEq, K_mNe, K_mLt, K_mLe, K_mGt, K_mGe, K_mIn, K_mNin, K_mMin, K_mJoin, K_mIndex, K_mLen, K_mInt, K_mStr, K_mTuple, K_mList, K_mAll, K_mAny, K_mSorted, K_mDict, K_mIsA, IsA_tup, IsA_lst, IsA_str, IsA_int, IsA_bl, Mul_tup, txt_nc, txt_cn, IsA_non, isA, LIM, List.drop_zero, List.take_zero, List.drop_succ_cons, List.take_succ_cons, List.drop_nil, List.take_nil, Nat.sub_zero, reduceIte, ite_true, ite_false, Nat.reduceAdd, Nat.reduceMul, Nat.reduceSub, Nat.reduceLT, Nat.reduceLeDiff, Nat.reduceEqDiff, Nat.reduceBEq, Nat.reduceBNe, Nat.reducePow, Int.reduceAdd, Int.reduceMul, Int.reduceNeg, Int.reduceSub, Int.reduceLE, Int.reduceLT, Int.reduceEq, Int.reduceBEq, Int.reduceBNe, Int.reducePow, Int.reduceToNat, Int.reduceNe, Int.reduceMod, Int.reduceDiv, Int.cast_ofNat_Int, Int.ofNat_zero, Int.ofNat_one, List.cons_beq_cons, and_true, true_and, and_self, and_false, false_and, not_false_eq_true, not_true_eq_false, or_true, true_or, or_false, false_or, List.map_cons, List.map_nil, List.length_cons, List.length_nil, List.cons_append, List.nil_append, List.append_nil, List.set_cons_zero, List.set_cons_succ, Option.bind_some, Option.bind_none, Option.map_some, Option.map_none, List.head?_cons, if_true, Bool.and_true, Bool.true_and, Bool.and_false, Bool.false_and, Bool.or_true, Bool.true_or, Bool.or_false, Bool.false_or, Bool.not_true, Bool.not_false, Bool.not_not, Bool.and_self, Bool.or_self, decide_true, decide_false, decide_eq_true_eq, beq_self_eq_true, Bool.false_eq_true, List.all_cons, List.all_nil, List.any_cons, List.any_nil, id_eq, Nat.max_self, Nat.sub_self, Nat.zero_le, Bool.decide_eq_true, List.isEmpty_cons, List.isEmpty_nil, ite_self, Nat.max_zero, Nat.zero_max, $ls,*])
open M2
theorem step_spec (r : Ru) (s : Sd) (e : Ev) : f_step [.sh (eRu r), .sh (eSd s), .sh (eEv e)] = some (.ok (.sh (.tup [eSd (step r s e).1, eTd (step r s e).2])), [none, none, none]) := by
  cases e with
  | say p w =>
    rw [f_step, mkFn_eq]
    simp_arith [eEv, tupB_sd, spoken_spec, Ix_ru2, eq_now, dep_eNow]
    unfold step
    dsimp only
    cases r.lag <;> rfl
  | court p =>
    rw [f_step, mkFn_eq]
    simp_arith [eEv, tupB_sd, put_at_spec, Ix_ru3, eq_now, dep_eNow]
    unfold step crt put
    dsimp only
    cases r.court <;> cases p <;> rfl
  | clear p =>
    rw [f_step, mkFn_eq]
    simp_arith [eEv, tupB_sd, put_at_spec, Ix_ru3, eq_now, dep_eNow]
    unfold step crt put
    dsimp only
    cases r.court <;> cases p <;> rfl
  | come w =>
    rw [f_step, mkFn_eq]
    simp_arith [eEv, tupB_sd, come_N, step]
  | paper p =>
    rw [f_step, mkFn_eq]
    simp_arith [eEv, tupB_sd, come_P, c_OTHER, step]
  | morning =>
    obtain ⟨b0, b1, b2, b3, b4, h, em⟩ := morn_spec r s
    rw [f_step, mkFn_eq]
    simp_arith [eEv, tupB_sd, em, step, h]
    rfl
theorem begin_spec : f_begin [] = some (.ok (.sh (eSd sd0)), []) := rfl
theorem led_turn (r : Ru) (x : D) (s : Sd) (e : Ev) (ts : List D) (o5 : Option SB) (h5 : Nio o5) (lt : ts.length < 16777216) : fb0_led [some (.sh (eRu r)), some (.sh x), some (.sh (eSd s)), some (.ow (.lst ts)), some (.sh (eEv e)), o5] = some (.ok .nx, [some (.sh (eRu r)), some (.sh x), some (.sh (eSd (step r s e).1)), some (.ow (.lst (ts ++ [eTd (step r s e).2]))), some (.sh (eEv e)), some (.sh (eTd (step r s e).2))]) := by
  rw [K_id (m := fb0_led), fb0_led]
  simp_arith [putS_nio h5, step_spec, lt]
theorem led_go (r : Ru) (x : D) : ∀ (es : List Ev) (s : Sd) (ts : List D) (o4 o5 : Option SB), Nio o4 → Nio o5 → ts.length + es.length ≤ 10000 → ∃ o4' o5', forGo (.one 4) fb0_led (es.map eEv) [some (.sh (eRu r)), some (.sh x), some (.sh (eSd s)), some (.ow (.lst ts)), o4, o5] = some (.ok .nx, [some (.sh (eRu r)), some (.sh x), some (.sh (eSd (led r s es).1)), some (.ow (.lst (ts ++ (led r s es).2.map eTd))), o4', o5'])
  | [], s, ts, o4, o5, _, _, _ => ⟨o4, o5, by
    show some _ = _
    simp [led]⟩
  | e :: es, s, ts, o4, o5, h4, h5, hl => by
    rw [List.length_cons] at hl
    obtain ⟨o4', o5', ih⟩ := led_go r x es (step r s e).1 (ts ++ [eTd (step r s e).2]) (some (.sh (eEv e))) (some (.sh (eTd (step r s e).2))) nio_sh nio_sh (by rw [List.length_append]; simp; omega)
    refine ⟨o4', o5', ?_⟩
    rw [K_id (m := forGo _ _ _), List.map_cons]
    simp_arith [putS_nio h4, K_eq (led_turn r x s e ts o5 h5 (by omega)), K_eq ih, led, List.append_assoc]
theorem led_len (r : Ru) : ∀ (s : Sd) (es : List Ev), (led r s es).2.length = es.length
  | s, [] => rfl
  | s, e :: es => by simp [led, led_len r _ es]
theorem led_spec (r : Ru) (es : List Ev) (hl : es.length ≤ 10000) : f_led [.sh (eRu r), .sh (eRow es)] = some (.ok (.tp [.sh (eSd (led r sd0 es).1), .ow (.lst ((led r sd0 es).2.map eTd))]), [none, none]) := by
  obtain ⟨o4, o5, e⟩ := led_go r (eRow es) es sd0 [] none none nio_no nio_no (by simpa using hl)
  rw [f_led, mkFn_eq]
  rw [eRow] at e ⊢
  simp_arith [begin_spec, K_eq e]
/-! rights -/
theorem lets_spec (r : Ru) (s : Sd) : f_door_lets [.sh (eRu r), .sh (eSd s)] = some (.ok (.sh (.tup [.bl (lets r s .a), .bl (lets r s .b), .bl (lets r s .o)])), [none, none]) := by
  have ea := may_N r s.l0 s.l1 s.k0 s.k1 .a
  have eb := may_N r s.l0 s.l1 s.k0 s.k1 .b
  have eo := may_N r s.l0 s.l1 s.k0 s.k1 .o
  simp only [eWh] at ea eb eo
  rw [f_door_lets, mkFn_eq]
  simp_arith [ce0_door_lets, Ix_sd2, Ix_sd3, ea, eb, eo, lets]
theorem truly_spec (r : Ru) (s : Sd) (g : Option Bool) : f_truly_may [.sh (eRu r), .sh (eSd s), .sh (eSg g)] = some (.ok (.sh (.tup [.bl (truly r s .a none), .bl (truly r s .b none), .bl (truly r s .o g)])), [none, none, none]) := by
  have ea := may_N r s.s0 s.s1 s.c0 s.c1 .a
  have eb := may_N r s.s0 s.s1 s.c0 s.c1 .b
  have eo := may_spec r s.s0 s.s1 s.c0 s.c1 .o g
  simp only [eWh] at ea eb eo
  rw [f_truly_may, mkFn_eq]
  simp_arith [ce0_truly_may, Ix_sd0, Ix_sd1, ea, eb, eo, truly, c_OTHER]
/-! what rules and rows are -/
theorem same_spec (a b : D) (ha : D.dep a ≤ 60) (hb : D.dep b ≤ 60) : ∃ q, f_is_same [.sh a, .sh b] = some (.ok (.sh (.bl q)), [none, none]) := by
  have na := nodic ha (by decide)
  have nb := nodic hb (by decide)
  rw [f_is_same, mkFn_eq]
  cases a with
  | dic t kvs => exact absurd rfl (na t kvs)
  | _ => cases b with
    | dic t kvs => exact absurd rfl (nb t kvs)
    | _ => exact ⟨_, by simp_arith [ha, hb]; rfl⟩
end CM
end WF

set_option Elab.async false
set_option linter.all false
set_option maxRecDepth 100000
set_option maxHeartbeats 1000000
/-! C6: rules are rules, rows are rows. -/
namespace WF
namespace M2
def allB : List Bool := [false, true]
def allWs : List Ws := [.both, .either, .last]
def allWd : List Wd := [.always, .bar, .no, .once]
def allRu : List Ru := allWs.flatMap fun ws => allB.flatMap fun a => allB.flatMap fun b => allB.flatMap fun c => allB.flatMap fun d => allB.flatMap fun e => allB.map fun f => ⟨ws, a, b, c, d, e, f⟩
def allEv : List Ev := [.clear false, .clear true, .come .a, .come .b, .come .o, .court false, .court true, .morning, .paper false, .paper true, .say false .always, .say false .bar, .say false .no, .say false .once, .say true .always, .say true .bar, .say true .no, .say true .once]
theorem mem_allB (b : Bool) : b ∈ allB := by cases b <;> decide
theorem mem_allRu (r : Ru) : r ∈ allRu := by
  obtain ⟨ws, a, b, c, d, e, f⟩ := r
  refine List.mem_flatMap.mpr ⟨ws, by cases ws <;> decide, List.mem_flatMap.mpr ⟨a, mem_allB a, List.mem_flatMap.mpr ⟨b, mem_allB b, List.mem_flatMap.mpr ⟨c, mem_allB c, List.mem_flatMap.mpr ⟨d, mem_allB d, List.mem_flatMap.mpr ⟨e, mem_allB e, List.mem_map.mpr ⟨f, mem_allB f, rfl⟩⟩⟩⟩⟩⟩⟩
theorem mem_allEv (e : Ev) : e ∈ allEv := by
  cases e with
  | say p w => cases p <;> cases w <;> decide
  | court p => cases p <;> decide
  | clear p => cases p <;> decide
  | come w => cases w <;> decide
  | paper p => cases p <;> decide
  | morning => decide
end M2
namespace CM
local macro_rules | `(tactic| simp_arith [$ls,*]) => `(tactic| simp only [KO_some, KO_none, KO_ite, KE_some, KE_none, KE_ite, K_ret, K_stuck, K_lift, kId_eq, eId_eq, un1_some, op2_some, dat_sh, dat_ow, dat_pl, dat_tp, sbsD_nil, sbsD_cons, toD_sh, toD_ow, toD_io, toD_lst, toD_dic, at_zero, at_succ, kV_sh, kV_lst, kV_dic, K_mV, kP_sh, kP_ow, kP_io, K_mP, kM_sh, kM_ow, K_mMv, K_mK, kOp2_eq, kOp1_eq, K_mOp, kUn_eq, K_mUn, K_mNeg, isNB_eq, notNB_eq, K_mIsN, K_mNotN, lele_int, kLL3_eq, kLL2_eq, kLL1_eq, K_mLeLe, kTV_eq, K_tV, kTA_eq, K_tAnd, kTO_eq, K_tOr, kTN_eq, K_tNot, K_yes, kMA2_eq, kMA1_eq, K_mAnd, kMO2_eq, kMO1_eq, K_mOr, notB_bl, K_mNot, kIf_eq, K_mIf, boolV_bl, tru_bl, tru_non, tru_int, tru_str, tru_tup, tru_lst, K_mNil, kC2_eq, kC1_eq, K_mCons, keptO_nil, keptO_sh, keptO_ow, keptO_tp, tupO_eq, lstO_eq, kTup_eq, kLst_eq, K_mTup, K_mLst, fzO_eq, kFz_eq, K_mFz, lzip2_eq, kLZ2_eq, kLZ1_eq, K_mLZip, K_mDic0, dic1_eq, kD2_eq, kD1_eq, K_mDic1, elB_sh, elB_ow, ixO_sh, ixO_ow, ixO_pl, ixO_tp, kIx2_eq, kIx1_eq, K_mIx, slO_eq, kSl3_eq, kSl2_eq, kSl1_eq, K_mSl, intD_int, K_mEndN, kEnd_eq, K_mEndS, K_mRev, get3_eq, kG3_eq, kG2_eq, kG1_eq, K_mGet, txtB_str, kSp3_eq, kSp2_eq, kSp1_eq, K_mSplit, kJn3_eq, kJn2_eq, kJn1_eq, K_mJoinS, lent_nil, lent_sh1, lent_ow, lent_tp, lent_pl, nodup0, nodup1, nodup2, handL_nil, handL_cons, handB_sh, handB_lst, handB_dic, handB_tp, handB_pl, lendS_sh, lendS_ow, lendS_io, argsO_eq, backL_nil, backL_cons, backB_sh, backB_ow, backB_tp, backB_plN, backB_plS, putE_zero, putE_succ, put_ow, put_io, sput_sh, KF_ok, KF_exc, KF_none, KF_ite, KF_r, kArg_eq, kCall_eq, K_mCall, ioS_io, ioS_sh, ioS_ow, ioS_no, outs0, outs1, outs2, outs3, outs4, outs5, kFn_rt, kFn_nx, eFn_eq, mkFn_eq, rep0, repS, itO_eq, kIt_eq, K_items, dItems_tup, dItems_lst, rngD_int, kRg_eq, K_itRange, zipO_eq, kZ2_eq, kZ1_eq, K_itZip, enO_eq, kEn_eq, K_itEnum, zip2_tup, zip2_lst, zipD_cons, zipD_nil, zipD_nil2, enumD_tup, enumD_lst, putS_succ, putS_no, putS_sh, putS_ow, putTg_one, putTg_tup, putSs_nil, putSs_cons, slots_one, slots_tup, clr_nil, clr_cons, back_nil, back_cons, free_nil, free_cons, fr1_succ, fr1_no, fr1_sh, kCoE_eq, kCo_eq, K_mComp, K_comp0, kCo3_eq, kCo2_eq, kCo1_eq, kCo0_eq, K_comp1, K_sPass, K_sBreak, K_sCont, kSeq_nx, kSeq_rt, kSeq_bk, kSeq_ct, K_sSeq, kDrop_eq, K_sDrop, K_sIf, kNx_eq, ownO_sh, ownO_ow, ownO_tp, setO_eq, kSet_eq, K_sSet, ownOs_nil, ownOs_cons, putA_nil, putA_cons, parO_eq, kPar_eq, K_sPar, tupB_tp, tupB_sh, unpO_eq, kUnp_eq, K_sUnp, putOE_zero, putOE_succ, obj_ow, obj_io, hasO_zero, hasO_succ, xsO_eq, kXS3_eq, kXS2_eq, kXS1_eq, K_sIxSet, apO_eq, kNon_eq, kAp2_eq, kAp1_eq, K_mApp, kKy_eq, K_itKeys, keysOf_dic, strD_str, getO_eq, getS_dic, kGt3_eq, kGt2_eq, kGt1_eq, kGt0_eq, K_mGetN, addAt_lst, setAt_lst, setAt_dicS, setAt_dicT, kFor_eq, K_sFor, kFor2_nx, kFor2_ct, kFor2_bk, kFor2_rt, kFor1_eq, K_for0, K_for1, kWh2_nx, kWh2_ct, kWh2_bk, kWh2_rt, kWh1_eq, kRet_sh, kRet_ow, kRet_tp, K_sRet, tpO_eq, kTp_eq, K_mTp, sbBs_nil, sbBs_cons, sbB_sh, sbB_ow, K_sRaise, eTry_eq, K_sTry, K_tryGo0, K_tryGo1, Add_int, Add_tup, Add_lst, Add_str, Sub_int, Mul_int, Mul_lst, Fdiv_int, Mod_int, Lt_int, Le_int, Gt_int, Ge_int, Eq_eq, Ne_eq, In_tup, In_lst, Nin_tup, Nin_lst, mem_nil, mem_cons, Ix_tup, Ix_lst, atI_0, atI_1, atI_2, atI_3, atI_4, atI_5, atI_6, Len_tup, Len_lst, Len_dic, Ix_dic, In_dic, Nin_dic, Min_int, Len_str, Int_int, Int_bl, Tuple_lst, Tuple_tup, List_lst, List_tup, List_dic, bools_nil, bools_cons, All_lst, Any_lst, dep_non, dep_bl, dep_int, dep_str, dep_tupS, dep_lstS, deps_nil, deps_cons, isNon_non, isNon_int, isNon_tup, isNon_lst, isNon_str, isNon_bl, eqv_ss, eqv_ii, eqv_bb, eqv_nn, eqv_tt, eqv_ll, eqvs_nn, eqvs_nc, eqvs_cn, eqvs_cc, upto_1, upto_2, upto_3, upto_7, K_mAdd, K_mSub, K_mMul, K_mFdiv, K_mMod, K_mPow, K_mEq, K_mNe, K_mLt, K_mLe, K_mGt, K_mGe, K_mIn, K_mNin, K_mMin, K_mJoin, K_mIndex, K_mLen, K_mInt, K_mStr, K_mTuple, K_mList, K_mAll, K_mAny, K_mSorted, K_mDict, K_mIsA, IsA_tup, IsA_lst, IsA_str, IsA_int, IsA_bl, Mul_tup, txt_nc, txt_cn, IsA_non, isA, LIM, List.drop_zero, List.take_zero, List.drop_succ_cons, List.take_succ_cons, List.drop_nil, List.take_nil, Nat.sub_zero, reduceIte, ite_true, ite_false, Nat.reduceAdd, Nat.reduceMul, Nat.reduceSub, Nat.reduceLT, Nat.reduceLeDiff, Nat.reduceEqDiff, Nat.reduceBEq, Nat.reduceBNe, Nat.reducePow, Int.reduceAdd, Int.reduceMul, Int.reduceNeg, Int.reduceSub, Int.reduceLE, Int.reduceLT, Int.reduceEq, Int.reduceBEq, Int.reduceBNe, Int.reducePow, Int.reduceToNat, Int.reduceNe, Int.reduceMod, Int.reduceDiv, Int.cast_ofNat_Int, Int.ofNat_zero, Int.ofNat_one, List.cons_beq_cons, and_true, true_and, and_self, and_false, false_and, not_false_eq_true, not_true_eq_false, or_true, true_or, or_false, false_or, List.map_cons, List.map_nil, List.length_cons, List.length_nil, List.cons_append, List.nil_append, List.append_nil, List.set_cons_zero, List.set_cons_succ, Option.bind_some, Option.bind_none, Option.map_some, Option.map_none, List.head?_cons, if_true, Bool.and_true, Bool.true_and, Bool.and_false, Bool.false_and, Bool.or_true, Bool.true_or, Bool.or_false, Bool.false_or, Bool.not_true, Bool.not_false, Bool.not_not, Bool.and_self, Bool.or_self, decide_true, decide_false, decide_eq_true_eq, beq_self_eq_true, Bool.false_eq_true, List.all_cons, List.all_nil, List.any_cons, List.any_nil, id_eq, Nat.max_self, Nat.sub_self, Nat.zero_le, Bool.decide_eq_true, List.isEmpty_cons, List.isEmpty_nil, ite_self, Nat.max_zero, Nat.zero_max, $ls,*])
open M2
theorem same_ss (a b : Txt) : f_is_same [.sh (.str a), .sh (.str b)] = some (.ok (.sh (.bl (a == b))), [none, none]) := by
  rw [f_is_same, mkFn_eq]
  simp_arith [if_true]
theorem same_bb (a b : Bool) : f_is_same [.sh (.bl a), .sh (.bl b)] = some (.ok (.sh (.bl (a == b))), [none, none]) := by
  rw [f_is_same, mkFn_eq]
  simp_arith [if_true]
theorem same_ws (w : Ws) (t : Txt) : f_is_same [.sh (eWs w), .sh (.str t)] = some (.ok (.sh (.bl (D.eqv (eWs w) (.str t)))), [none, none]) := by
  cases w <;> simp only [eWs, same_ss, eqv_ss]
theorem same_bars (w : Bool) (t : Txt) : f_is_same [.sh (eBars w), .sh (.str t)] = some (.ok (.sh (.bl (D.eqv (eBars w) (.str t)))), [none, none]) := by
  cases w <;> simp only [eBars, same_ss, eqv_ss]
theorem same_now (w : Bool) (t : Txt) : f_is_same [.sh (eNow w), .sh (.str t)] = some (.ok (.sh (.bl (D.eqv (eNow w) (.str t)))), [none, none]) := by
  cases w <;> simp only [eNow, same_ss, eqv_ss]
theorem same_use (w : Bool) (t : Txt) : f_is_same [.sh (eUse w), .sh (.str t)] = some (.ok (.sh (.bl (D.eqv (eUse w) (.str t)))), [none, none]) := by
  cases w <;> simp only [eUse, same_ss, eqv_ss]
theorem a_ws (w : Ws) : (D.eqv (eWs w) (.str t_both) || (D.eqv (eWs w) (.str t_either) || D.eqv (eWs w) (.str t_last))) = true := by cases w <;> rfl
theorem a_bars (w : Bool) : (D.eqv (eBars w) (.str t_own) || D.eqv (eBars w) (.str t_win)) = true := by cases w <;> rfl
theorem a_now (w : Bool) : (D.eqv (eNow w) (.str t_morning) || D.eqv (eNow w) (.str t_now)) = true := by cases w <;> rfl
theorem a_use (w : Bool) : (D.eqv (eUse w) (.str t_day) || D.eqv (eUse w) (.str t_use)) = true := by cases w <;> rfl
theorem a_bb (w : Bool) : ((w == false) || (w == true)) = true := by cases w <;> rfl
theorem any_ws (w : Ws) (v : D) : ce1_is_rule [some (.sh v), some (.sh (eWs w)), some (.sh (.tup [.str t_both, .str t_either, .str t_last])), none] = some (.ok (.sh (.bl true)), [some (.sh v), some (.sh (eWs w)), some (.sh (.tup [.str t_both, .str t_either, .str t_last])), none]) := by
  rw [K_id (m := ce1_is_rule)]
  simp_arith [ce0_is_rule, ce1_is_rule, same_ws, a_ws]
theorem any_bars (w : Bool) (v : D) : ce1_is_rule [some (.sh v), some (.sh (eBars w)), some (.sh (.tup [.str t_own, .str t_win])), none] = some (.ok (.sh (.bl true)), [some (.sh v), some (.sh (eBars w)), some (.sh (.tup [.str t_own, .str t_win])), none]) := by
  rw [K_id (m := ce1_is_rule)]
  simp_arith [ce0_is_rule, ce1_is_rule, same_bars, a_bars]
theorem any_now (w : Bool) (v : D) : ce1_is_rule [some (.sh v), some (.sh (eNow w)), some (.sh (.tup [.str t_morning, .str t_now])), none] = some (.ok (.sh (.bl true)), [some (.sh v), some (.sh (eNow w)), some (.sh (.tup [.str t_morning, .str t_now])), none]) := by
  rw [K_id (m := ce1_is_rule)]
  simp_arith [ce0_is_rule, ce1_is_rule, same_now, a_now]
theorem any_use (w : Bool) (v : D) : ce1_is_rule [some (.sh v), some (.sh (eUse w)), some (.sh (.tup [.str t_day, .str t_use])), none] = some (.ok (.sh (.bl true)), [some (.sh v), some (.sh (eUse w)), some (.sh (.tup [.str t_day, .str t_use])), none]) := by
  rw [K_id (m := ce1_is_rule)]
  simp_arith [ce0_is_rule, ce1_is_rule, same_use, a_use]
theorem any_bb (w : Bool) (v : D) : ce1_is_rule [some (.sh v), some (.sh (.bl w)), some (.sh (.tup [.bl false, .bl true])), none] = some (.ok (.sh (.bl true)), [some (.sh v), some (.sh (.bl w)), some (.sh (.tup [.bl false, .bl true])), none]) := by
  rw [K_id (m := ce1_is_rule)]
  simp_arith [ce0_is_rule, ce1_is_rule, same_bb, a_bb]
theorem is_rule_enc (r : Ru) : f_is_rule [.sh (eRu r)] = some (.ok (.sh (.bl true)), [none]) := by
  rw [f_is_rule, mkFn_eq]
  simp_arith [eRu, c_VALUES, c_PART_NAMES, K_eq (any_ws _ _), K_eq (any_bars _ _), K_eq (any_now _ _), K_eq (any_use _ _), K_eq (any_bb _ _)]
theorem number_eP (p : Bool) : f_is_number [.sh (eP p), .sh (.int 1)] = some (.ok (.sh (.bl true)), [none, none]) := by cases p <;> rfl
theorem number_eWh (w : Wh) : f_is_number [.sh (eWh w), .sh (.int 2)] = some (.ok (.sh (.bl true)), [none, none]) := by cases w <;> rfl
theorem word_eWd (w : Wd) : f_is_word [.sh (eWd w)] = some (.ok (.sh (.bl true)), [none]) := by cases w <;> rfl
theorem is_event_enc (e : Ev) : f_is_event [.sh (eEv e)] = some (.ok (.sh (.bl true)), [none]) := by
  rw [f_is_event, mkFn_eq]
  cases e <;> simp_arith [eEv, dep_eP, dep_eWh, dep_eWd, number_eP, number_eWh, word_eWd]
theorem bools_rep (n : Nat) : bools (List.replicate n (.bl true)) = some (List.replicate n true) := by
  induction n with
  | zero => rfl
  | succ n ih => rw [List.replicate_succ, List.replicate_succ, bools_cons, ih]; rfl
theorem all_rep (n : Nat) : (List.replicate n true).all id = true := by simp
theorem are_events_enc (es : List Ev) (hl : es.length ≤ 10000) : f_are_events [.sh (eRow es)] = some (.ok (.sh (.bl (decide ((es.length : Int) ≤ 60)))), [none]) := by
  have hc : mComp (.one 1) (items (mV 0)) yes ce0_are_events [some (.sh (eRow es)), none] = some (.ok (.ow (.lst ((es.map eEv).filterMap fun _ => some (.bl true)))), [some (.sh (eRow es)), none]) := by
    refine mComp_pure (ρ := [some (.sh (eRow es)), none]) (ds := es.map eEv) (fun _ => some (.bl true)) rfl (by simp) rfl (by rw [List.length_map]; show _ ≤ 16777216; omega) fun d m => .inr ⟨_, rfl, rfl, ?_⟩
    obtain ⟨e, _, rfl⟩ := List.mem_map.mp m
    show ce0_are_events [some (.sh (eRow es)), some (.sh (eEv e))] = _
    rw [K_id (m := ce0_are_events), ce0_are_events]
    simp_arith [is_event_enc]
  have hm : (es.map eEv).filterMap (fun _ => some (D.bl true)) = List.replicate es.length (.bl true) := by
    clear hc
    induction es with
    | nil => rfl
    | cons e es ih => rw [List.map_cons, List.filterMap_cons_some (f := fun _ => some (D.bl true)) rfl, ih (by simp at hl; omega), List.length_cons, List.replicate_succ]
  rw [hm] at hc
  rw [f_are_events, mkFn_eq]
  rw [eRow] at hc ⊢
  simp_arith [-K_mComp, c_MOST_EVENTS, List.length_map]
  by_cases h : (es.length : Int) ≤ 60
  · simp_arith [-K_mComp, h, K_eq hc, bools_rep, all_rep]
  · simp_arith [-K_mComp, h]
end CM
end WF

set_option Elab.async false
set_option linter.all false
set_option maxRecDepth 100000
set_option maxHeartbeats 2000000
/-! C7: what the laws' own steps compute. -/
namespace WF
namespace CM
local macro_rules | `(tactic| simp_arith [$ls,*]) => `(tactic| simp only [KO_some, KO_none, KO_ite, KE_some, KE_none, KE_ite, K_ret, K_stuck, K_lift, kId_eq, eId_eq, un1_some, op2_some, dat_sh, dat_ow, dat_pl, dat_tp, sbsD_nil, sbsD_cons, toD_sh, toD_ow, toD_io, toD_lst, toD_dic, at_zero, at_succ, kV_sh, kV_lst, kV_dic, K_mV, kP_sh, kP_ow, kP_io, K_mP, kM_sh, kM_ow, K_mMv, K_mK, kOp2_eq, kOp1_eq, K_mOp, kUn_eq, K_mUn, K_mNeg, isNB_eq, notNB_eq, K_mIsN, K_mNotN, lele_int, kLL3_eq, kLL2_eq, kLL1_eq, K_mLeLe, kTV_eq, K_tV, kTA_eq, K_tAnd, kTO_eq, K_tOr, kTN_eq, K_tNot, K_yes, kMA2_eq, kMA1_eq, K_mAnd, kMO2_eq, kMO1_eq, K_mOr, notB_bl, K_mNot, kIf_eq, K_mIf, boolV_bl, tru_bl, tru_non, tru_int, tru_str, tru_tup, tru_lst, K_mNil, kC2_eq, kC1_eq, K_mCons, keptO_nil, keptO_sh, keptO_ow, keptO_tp, tupO_eq, lstO_eq, kTup_eq, kLst_eq, K_mTup, K_mLst, fzO_eq, kFz_eq, K_mFz, lzip2_eq, kLZ2_eq, kLZ1_eq, K_mLZip, K_mDic0, dic1_eq, kD2_eq, kD1_eq, K_mDic1, elB_sh, elB_ow, ixO_sh, ixO_ow, ixO_pl, ixO_tp, kIx2_eq, kIx1_eq, K_mIx, slO_eq, kSl3_eq, kSl2_eq, kSl1_eq, K_mSl, intD_int, K_mEndN, kEnd_eq, K_mEndS, K_mRev, get3_eq, kG3_eq, kG2_eq, kG1_eq, K_mGet, txtB_str, kSp3_eq, kSp2_eq, kSp1_eq, K_mSplit, kJn3_eq, kJn2_eq, kJn1_eq, K_mJoinS, lent_nil, lent_sh1, lent_ow, lent_tp, lent_pl, nodup0, nodup1, nodup2, handL_nil, handL_cons, handB_sh, handB_lst, handB_dic, handB_tp, handB_pl, lendS_sh, lendS_ow, lendS_io, argsO_eq, backL_nil, backL_cons, backB_sh, backB_ow, backB_tp, backB_plN, backB_plS, putE_zero, putE_succ, put_ow, put_io, sput_sh, KF_ok, KF_exc, KF_none, KF_ite, KF_r, kArg_eq, kCall_eq, K_mCall, ioS_io, ioS_sh, ioS_ow, ioS_no, outs0, outs1, outs2, outs3, outs4, outs5, kFn_rt, kFn_nx, eFn_eq, mkFn_eq, rep0, repS, itO_eq, kIt_eq, K_items, dItems_tup, dItems_lst, rngD_int, kRg_eq, K_itRange, zipO_eq, kZ2_eq, kZ1_eq, K_itZip, enO_eq, kEn_eq, K_itEnum, zip2_tup, zip2_lst, zipD_cons, zipD_nil, zipD_nil2, enumD_tup, enumD_lst, putS_succ, putS_no, putS_sh, putS_ow, putTg_one, putTg_tup, putSs_nil, putSs_cons, slots_one, slots_tup, clr_nil, clr_cons, back_nil, back_cons, free_nil, free_cons, fr1_succ, fr1_no, fr1_sh, kCoE_eq, kCo_eq, K_mComp, K_comp0, kCo3_eq, kCo2_eq, kCo1_eq, kCo0_eq, K_comp1, K_sPass, K_sBreak, K_sCont, kSeq_nx, kSeq_rt, kSeq_bk, kSeq_ct, K_sSeq, kDrop_eq, K_sDrop, K_sIf, kNx_eq, ownO_sh, ownO_ow, ownO_tp, setO_eq, kSet_eq, K_sSet, ownOs_nil, ownOs_cons, putA_nil, putA_cons, parO_eq, kPar_eq, K_sPar, tupB_tp, tupB_sh, unpO_eq, kUnp_eq, K_sUnp, putOE_zero, putOE_succ, obj_ow, obj_io, hasO_zero, hasO_succ, xsO_eq, kXS3_eq, kXS2_eq, kXS1_eq, K_sIxSet, apO_eq, kNon_eq, kAp2_eq, kAp1_eq, K_mApp, kKy_eq, K_itKeys, keysOf_dic, strD_str, getO_eq, getS_dic, kGt3_eq, kGt2_eq, kGt1_eq, kGt0_eq, K_mGetN, addAt_lst, setAt_lst, setAt_dicS, setAt_dicT, kFor_eq, K_sFor, kFor2_nx, kFor2_ct, kFor2_bk, kFor2_rt, kFor1_eq, K_for0, K_for1, kWh2_nx, kWh2_ct, kWh2_bk, kWh2_rt, kWh1_eq, kRet_sh, kRet_ow, kRet_tp, K_sRet, tpO_eq, kTp_eq, K_mTp, sbBs_nil, sbBs_cons, sbB_sh, sbB_ow, K_sRaise, eTry_eq, K_sTry, K_tryGo0, K_tryGo1, Add_int, Add_tup, Add_lst, Add_str, Sub_int, Mul_int, Mul_lst, Fdiv_int, Mod_int, Lt_int, Le_int, Gt_int, Ge_int, Eq_eq, Ne_eq, In_tup, In_lst, Nin_tup, Nin_lst, mem_nil, mem_cons, Ix_tup, Ix_lst, atI_0, atI_1, atI_2, atI_3, atI_4, atI_5, atI_6, Len_tup, Len_lst, Len_dic, Ix_dic, In_dic, Nin_dic, Min_int, Len_str, Int_int, Int_bl, Tuple_lst, Tuple_tup, List_lst, List_tup, List_dic, bools_nil, bools_cons, All_lst, Any_lst, dep_non, dep_bl, dep_int, dep_str, dep_tupS, dep_lstS, deps_nil, deps_cons, isNon_non, isNon_int, isNon_tup, isNon_lst, isNon_str, isNon_bl, eqv_ss, eqv_ii, eqv_bb, eqv_nn, eqv_tt, eqv_ll, eqvs_nn, eqvs_nc, eqvs_cn, eqvs_cc, upto_1, upto_2, upto_3, upto_7, K_mAdd, K_mSub, K_mMul, K_mFdiv, K_mMod, K_mPow, K_mEq, K_mNe, K_mLt, K_mLe, K_mGt, K_mGe, K_mIn, K_mNin, K_mMin, K_mJoin, K_mIndex, K_mLen, K_mInt, K_mStr, K_mTuple, K_mList, K_mAll, K_mAny, K_mSorted, K_mDict, K_mIsA, IsA_tup, IsA_lst, IsA_str, IsA_int, IsA_bl, Mul_tup, txt_nc, txt_cn, IsA_non, isA, LIM, List.drop_zero, List.take_zero, List.drop_succ_cons, List.take_succ_cons, List.drop_nil, List.take_nil, Nat.sub_zero, reduceIte, ite_true, ite_false, Nat.reduceAdd, Nat.reduceMul, Nat.reduceSub, Nat.reduceLT, Nat.reduceLeDiff, Nat.reduceEqDiff, Nat.reduceBEq, Nat.reduceBNe, Nat.reducePow, Int.reduceAdd, Int.reduceMul, Int.reduceNeg, Int.reduceSub, Int.reduceLE, Int.reduceLT, Int.reduceEq, Int.reduceBEq, Int.reduceBNe, Int.reducePow, Int.reduceToNat, Int.reduceNe, Int.reduceMod, Int.reduceDiv, Int.cast_ofNat_Int, Int.ofNat_zero, Int.ofNat_one, List.cons_beq_cons, and_true, true_and, and_self, and_false, false_and, not_false_eq_true, not_true_eq_false, or_true, true_or, or_false, false_or, List.map_cons, List.map_nil, List.length_cons, List.length_nil, List.cons_append, List.nil_append, List.append_nil, List.set_cons_zero, List.set_cons_succ, Option.bind_some, Option.bind_none, Option.map_some, Option.map_none, List.head?_cons, if_true, Bool.and_true, Bool.true_and, Bool.and_false, Bool.false_and, Bool.or_true, Bool.true_or, Bool.or_false, Bool.false_or, Bool.not_true, Bool.not_false, Bool.not_not, Bool.and_self, Bool.or_self, decide_true, decide_false, decide_eq_true_eq, beq_self_eq_true, Bool.false_eq_true, List.all_cons, List.all_nil, List.any_cons, List.any_nil, id_eq, Nat.max_self, Nat.sub_self, Nat.zero_le, Bool.decide_eq_true, List.isEmpty_cons, List.isEmpty_nil, ite_self, Nat.max_zero, Nat.zero_max, $ls,*])
open M2
theorem new_spec : f__law_new [] = some (.ok (.sh (eSd sd0)), []) := rfl
theorem said_spec (r : Ru) (x y w : Wd) (p : Bool) : f__law_said [.sh (eRu r), .sh (pr (eWd x) (eWd y)), .sh (eP p), .sh (eWd w)] = some (.ok (.sh (pr (eWd (spoken r.ws x y p w).1) (eWd (spoken r.ws x y p w).2))), [none, none, none, none]) := by
  rw [f__law_said, mkFn_eq]
  cases p
  · simp_arith [eP, Ix_ru0, eq_last, dep_eWs, setAt_lst, Int.toNat_zero, Int.toNat_one]
    cases r.ws <;> rfl
  · simp_arith [eP, Ix_ru0, eq_last, dep_eWs, setAt_lst, Int.toNat_zero, Int.toNat_one]
    cases r.ws <;> rfl
theorem said_once (r : Ru) (x y : Wd) (p : Bool) : f__law_said [.sh (eRu r), .sh (pr (eWd x) (eWd y)), .sh (eP p), .sh (.str t_once)] = some (.ok (.sh (pr (eWd (spoken r.ws x y p .once).1) (eWd (spoken r.ws x y p .once).2))), [none, none, none, none]) := said_spec r x y .once p
/-- the law's may, the words that stand -/
def lawW (r : Ru) (x y : Wd) (c d : Bool) : Bool := mayW r.ws r.win (x.void r.void c) (y.void r.void d)
theorem law_may_o (r : Ru) (x y : Wd) (c d : Bool) : f__law_may [.sh (eRu r), .sh (pr (eWd x) (eWd y)), .sh (pr (.bl c) (.bl d)), .sh (.int 2), .sh .non] = some (.ok (.sh (.bl (lawW r x y c d))), [none, none, none, none, none]) := by
  rw [f__law_may, mkFn_eq]
  cases hv : r.void <;> cases c <;> cases d <;> (
    simp_arith [cc0__law_may, ce0__law_may, cc1__law_may, ce1__law_may, Ix_ru0, Ix_ru1, Ix_ru5, Ix_ru6, hv, eq_bar, eq_win, eq_both, eq_always, eq_once, dep_eWd, dep_eBars, dep_eWs]
    simp only [lawW, mayW, Wd.void, hv]
    cases r.win <;> cases r.ws <;> cases x <;> cases y <;> rfl)
theorem law_may_p (r : Ru) (x y : Wd) (c d : Bool) (p : Bool) (hp : r.paper = false) : f__law_may [.sh (eRu r), .sh (pr (eWd x) (eWd y)), .sh (pr (.bl c) (.bl d)), .sh (.int 2), .sh (eP p)] = some (.ok (.sh (.bl (lawW r x y c d))), [none, none, none, none, none]) := by
  rw [f__law_may, mkFn_eq]
  cases hv : r.void <;> cases c <;> cases d <;> (
    simp_arith [cc0__law_may, ce0__law_may, cc1__law_may, ce1__law_may, Ix_ru0, Ix_ru1, Ix_ru5, Ix_ru6, hv, eq_bar, eq_win, eq_both, eq_always, eq_once, dep_eWd, dep_eBars, dep_eWs, isNon_eP, hp]
    simp only [lawW, mayW, Wd.void, hv]
    cases r.win <;> cases r.ws <;> cases x <;> cases y <;> rfl)
theorem law_may_q (r : Ru) (x y : Wd) (c d : Bool) (p : Bool) (hp : r.paper = true) : f__law_may [.sh (eRu r), .sh (pr (eWd x) (eWd y)), .sh (pr (.bl c) (.bl d)), .sh (.int 2), .sh (eP p)] = some (.ok (.sh (.bl (lawW r (spoken r.ws x y p .once).1 (spoken r.ws x y p .once).2 c d))), [none, none, none, none, none]) := by
  rw [f__law_may, mkFn_eq]
  cases hv : r.void <;> cases c <;> cases d <;> (
    simp_arith [cc0__law_may, ce0__law_may, cc1__law_may, ce1__law_may, Ix_ru0, Ix_ru1, Ix_ru5, Ix_ru6, hv, eq_bar, eq_win, eq_both, eq_always, eq_once, dep_eWd, dep_eBars, dep_eWs, isNon_eP, hp, said_once]
    generalize (spoken r.ws x y p .once).1 = u
    generalize (spoken r.ws x y p .once).2 = v
    simp only [lawW, mayW, Wd.void, hv]
    cases r.win <;> cases r.ws <;> cases u <;> cases v <;> rfl)
theorem law_may_spec (r : Ru) (x y : Wd) (c d : Bool) (w : Wh) (g : Option Bool) : f__law_may [.sh (eRu r), .sh (pr (eWd x) (eWd y)), .sh (pr (.bl c) (.bl d)), .sh (eWh w), .sh (eSg g)] = some (.ok (.sh (.bl (may r x y c d w g))), [none, none, none, none, none]) := by
  cases w with
  | a =>
    rw [f__law_may, mkFn_eq]
    simp_arith [eWh, may]
  | b =>
    rw [f__law_may, mkFn_eq]
    simp_arith [eWh, may]
  | o =>
    rcases g with _ | p
    · exact law_may_o r x y c d
    · cases hp : r.paper with
      | false =>
        have e : may r x y c d .o (some p) = lawW r x y c d := by simp [may, worded, lawW, hp]
        rw [e]
        exact law_may_p r x y c d p hp
      | true =>
        have e : may r x y c d .o (some p) = lawW r (spoken r.ws x y p .once).1 (spoken r.ws x y p .once).2 c d := by simp [may, worded, lawW, hp]
        rw [e]
        exact law_may_q r x y c d p hp
theorem law_may_N (r : Ru) (x y : Wd) (c d : Bool) (w : Wh) : f__law_may [.sh (eRu r), .sh (pr (eWd x) (eWd y)), .sh (pr (.bl c) (.bl d)), .sh (eWh w), .sh .non] = some (.ok (.sh (.bl (may r x y c d w none))), [none, none, none, none, none]) := law_may_spec r x y c d w none
theorem law_comes_spec (r : Ru) (s : Sd) (w : Wh) (g : Option Bool) : f__law_comes [.sh (eRu r), .sh (eSd s), .sh (eWh w), .sh (eSg g)] = some (.ok (.sh (.tup [eSd (come r s w g).1, eTd (come r s w g).2])), [none, none, none, none]) := by
  rw [f__law_comes, mkFn_eq]
  simp_arith [ce0__law_comes, ce1__law_comes, tupB_sd, law_may_spec, ne_other, dep_eWh, Ix_ru4, eq_use, dep_eUse, eq_once, dep_eWd]
  unfold come
  cases s.th
  · rfl
  · cases may r s.l0 s.l1 s.k0 s.k1 w g
    · rfl
    · cases w == .o
      · rfl
      · cases r.use
        · rfl
        · cases s.s0 <;> cases s.s1 <;> cases s.l0 <;> cases s.l1 <;> rfl
theorem law_comes_N (r : Ru) (s : Sd) (w : Wh) : f__law_comes [.sh (eRu r), .sh (eSd s), .sh (eWh w), .sh .non] = some (.ok (.sh (.tup [eSd (come r s w none).1, eTd (come r s w none).2])), [none, none, none, none]) := law_comes_spec r s w none
theorem law_comes_P (r : Ru) (s : Sd) (p : Bool) : f__law_comes [.sh (eRu r), .sh (eSd s), .sh (.int 2), .sh (eP p)] = some (.ok (.sh (.tup [eSd (come r s .o (some p)).1, eTd (come r s .o (some p)).2])), [none, none, none, none]) := law_comes_spec r s .o (some p)
theorem law_on_spec (r : Ru) (s : Sd) (e : Ev) : f__law_on [.sh (eRu r), .sh (eSd s), .sh (eEv e)] = some (.ok (.sh (.tup [eSd (step r s e).1, eTd (step r s e).2])), [none, none, none]) := by
  cases e with
  | say p w =>
    rw [f__law_on, mkFn_eq]
    simp_arith [eEv, tupB_sd, said_spec, Ix_ru2, eq_now, dep_eNow]
    unfold step
    dsimp only
    cases r.lag <;> rfl
  | court p =>
    rw [f__law_on, mkFn_eq]
    cases p <;> (
      simp_arith [eEv, eP, tupB_sd, Ix_ru3, eq_now, dep_eNow, setAt_lst, Int.toNat_zero, Int.toNat_one]
      unfold step crt put
      dsimp only
      cases r.court <;> rfl)
  | clear p =>
    rw [f__law_on, mkFn_eq]
    cases p <;> (
      simp_arith [eEv, eP, tupB_sd, Ix_ru3, eq_now, dep_eNow, setAt_lst, Int.toNat_zero, Int.toNat_one]
      unfold step crt put
      dsimp only
      cases r.court <;> rfl)
  | come w =>
    rw [f__law_on, mkFn_eq]
    simp_arith [eEv, tupB_sd, law_comes_N, step]
  | paper p =>
    rw [f__law_on, mkFn_eq]
    simp_arith [eEv, tupB_sd, law_comes_P, step]
  | morning =>
    rw [f__law_on, mkFn_eq]
    simp_arith [eEv, tupB_sd, Ix_ru4, eq_day, dep_eUse, ce0__law_on, ce1__law_on, eq_once, dep_eWd, step]
    unfold morn
    cases r.use
    · simp only [Bool.not_false, if_true, Bool.false_eq_true, if_false]
      cases s.s0 <;> cases s.s1 <;> cases s.l0 <;> cases s.l1 <;> rfl
    · rfl
theorem law_rights_spec (r : Ru) (s : Sd) (g : Option Bool) : f__law_rights [.sh (eRu r), .sh (eSd s), .sh (eSg g)] = some (.ok (.ow (.lst [.bl (truly r s .a g), .bl (truly r s .b g), .bl (truly r s .o g)])), [none, none, none]) := by
  have ea := law_may_spec r s.s0 s.s1 s.c0 s.c1 .a g
  have eb := law_may_spec r s.s0 s.s1 s.c0 s.c1 .b g
  have eo := law_may_spec r s.s0 s.s1 s.c0 s.c1 .o g
  simp only [eWh] at ea eb eo
  rw [f__law_rights, mkFn_eq]
  simp_arith [ce0__law_rights, Ix_sd0, Ix_sd1, ea, eb, eo, truly]
theorem law_known_spec (r : Ru) (s : Sd) : f__law_known [.sh (eRu r), .sh (eSd s)] = some (.ok (.sh (.tup [.bl (lets r s .a), .bl (lets r s .b), .bl (lets r s .o)])), [none, none]) := by
  have ea := law_may_N r s.l0 s.l1 s.k0 s.k1 .a
  have eb := law_may_N r s.l0 s.l1 s.k0 s.k1 .b
  have eo := law_may_N r s.l0 s.l1 s.k0 s.k1 .o
  simp only [eWh] at ea eb eo
  rw [f__law_known, mkFn_eq]
  simp_arith [ce0__law_known, Ix_sd2, Ix_sd3, ea, eb, eo, lets]
theorem llaw_turn (r : Ru) (x : D) (s : Sd) (e : Ev) (ts : List D) (o5 : Option SB) (h5 : Nio o5) (lt : ts.length < 16777216) : fb0__law_led [some (.sh (eRu r)), some (.sh x), some (.sh (eSd s)), some (.ow (.lst ts)), some (.sh (eEv e)), o5] = some (.ok .nx, [some (.sh (eRu r)), some (.sh x), some (.sh (eSd (step r s e).1)), some (.ow (.lst (ts ++ [eTd (step r s e).2]))), some (.sh (eEv e)), some (.sh (eTd (step r s e).2))]) := by
  rw [K_id (m := fb0__law_led), fb0__law_led]
  simp_arith [putS_nio h5, law_on_spec, lt]
theorem llaw_go (r : Ru) (x : D) : ∀ (es : List Ev) (s : Sd) (ts : List D) (o4 o5 : Option SB), Nio o4 → Nio o5 → ts.length + es.length ≤ 10000 → ∃ o4' o5', forGo (.one 4) fb0__law_led (es.map eEv) [some (.sh (eRu r)), some (.sh x), some (.sh (eSd s)), some (.ow (.lst ts)), o4, o5] = some (.ok .nx, [some (.sh (eRu r)), some (.sh x), some (.sh (eSd (led r s es).1)), some (.ow (.lst (ts ++ (led r s es).2.map eTd))), o4', o5'])
  | [], s, ts, o4, o5, _, _, _ => ⟨o4, o5, by
    show some _ = _
    simp [led]⟩
  | e :: es, s, ts, o4, o5, h4, h5, hl => by
    rw [List.length_cons] at hl
    obtain ⟨o4', o5', ih⟩ := llaw_go r x es (step r s e).1 (ts ++ [eTd (step r s e).2]) (some (.sh (eEv e))) (some (.sh (eTd (step r s e).2))) nio_sh nio_sh (by rw [List.length_append]; simp; omega)
    refine ⟨o4', o5', ?_⟩
    rw [K_id (m := forGo _ _ _), List.map_cons]
    simp_arith [putS_nio h4, K_eq (llaw_turn r x s e ts o5 h5 (by omega)), K_eq ih, led, List.append_assoc]
theorem law_led_spec (r : Ru) (es : List Ev) (hl : es.length ≤ 10000) : f__law_led [.sh (eRu r), .sh (eRow es)] = some (.ok (.tp [.sh (eSd (led r sd0 es).1), .ow (.lst ((led r sd0 es).2.map eTd))]), [none, none]) := by
  obtain ⟨o4, o5, e⟩ := llaw_go r (eRow es) es sd0 [] none none nio_no nio_no (by simpa using hl)
  rw [f__law_led, mkFn_eq]
  rw [eRow] at e ⊢
  simp_arith [new_spec, K_eq e]
end CM
end WF

set_option Elab.async false
set_option linter.all false
set_option maxRecDepth 100000
set_option maxHeartbeats 2000000
/-! C8: the functions of steps.py. -/
namespace WF
namespace CM
local macro_rules | `(tactic| simp_arith [$ls,*]) => `(tactic| simp only [KO_some, KO_none, KO_ite, KE_some, KE_none, KE_ite, K_ret, K_stuck, K_lift, kId_eq, eId_eq, un1_some, op2_some, dat_sh, dat_ow, dat_pl, dat_tp, sbsD_nil, sbsD_cons, toD_sh, toD_ow, toD_io, toD_lst, toD_dic, at_zero, at_succ, kV_sh, kV_lst, kV_dic, K_mV, kP_sh, kP_ow, kP_io, K_mP, kM_sh, kM_ow, K_mMv, K_mK, kOp2_eq, kOp1_eq, K_mOp, kUn_eq, K_mUn, K_mNeg, isNB_eq, notNB_eq, K_mIsN, K_mNotN, lele_int, kLL3_eq, kLL2_eq, kLL1_eq, K_mLeLe, kTV_eq, K_tV, kTA_eq, K_tAnd, kTO_eq, K_tOr, kTN_eq, K_tNot, K_yes, kMA2_eq, kMA1_eq, K_mAnd, kMO2_eq, kMO1_eq, K_mOr, notB_bl, K_mNot, kIf_eq, K_mIf, boolV_bl, tru_bl, tru_non, tru_int, tru_str, tru_tup, tru_lst, K_mNil, kC2_eq, kC1_eq, K_mCons, keptO_nil, keptO_sh, keptO_ow, keptO_tp, tupO_eq, lstO_eq, kTup_eq, kLst_eq, K_mTup, K_mLst, fzO_eq, kFz_eq, K_mFz, lzip2_eq, kLZ2_eq, kLZ1_eq, K_mLZip, K_mDic0, dic1_eq, kD2_eq, kD1_eq, K_mDic1, elB_sh, elB_ow, ixO_sh, ixO_ow, ixO_pl, ixO_tp, kIx2_eq, kIx1_eq, K_mIx, slO_eq, kSl3_eq, kSl2_eq, kSl1_eq, K_mSl, intD_int, K_mEndN, kEnd_eq, K_mEndS, K_mRev, get3_eq, kG3_eq, kG2_eq, kG1_eq, K_mGet, txtB_str, kSp3_eq, kSp2_eq, kSp1_eq, K_mSplit, kJn3_eq, kJn2_eq, kJn1_eq, K_mJoinS, lent_nil, lent_sh1, lent_ow, lent_tp, lent_pl, nodup0, nodup1, nodup2, handL_nil, handL_cons, handB_sh, handB_lst, handB_dic, handB_tp, handB_pl, lendS_sh, lendS_ow, lendS_io, argsO_eq, backL_nil, backL_cons, backB_sh, backB_ow, backB_tp, backB_plN, backB_plS, putE_zero, putE_succ, put_ow, put_io, sput_sh, KF_ok, KF_exc, KF_none, KF_ite, KF_r, kArg_eq, kCall_eq, K_mCall, ioS_io, ioS_sh, ioS_ow, ioS_no, outs0, outs1, outs2, outs3, outs4, outs5, kFn_rt, kFn_nx, eFn_eq, mkFn_eq, rep0, repS, itO_eq, kIt_eq, K_items, dItems_tup, dItems_lst, rngD_int, kRg_eq, K_itRange, zipO_eq, kZ2_eq, kZ1_eq, K_itZip, enO_eq, kEn_eq, K_itEnum, zip2_tup, zip2_lst, zipD_cons, zipD_nil, zipD_nil2, enumD_tup, enumD_lst, putS_succ, putS_no, putS_sh, putS_ow, putTg_one, putTg_tup, putSs_nil, putSs_cons, slots_one, slots_tup, clr_nil, clr_cons, back_nil, back_cons, free_nil, free_cons, fr1_succ, fr1_no, fr1_sh, kCoE_eq, kCo_eq, K_mComp, K_comp0, kCo3_eq, kCo2_eq, kCo1_eq, kCo0_eq, K_comp1, K_sPass, K_sBreak, K_sCont, kSeq_nx, kSeq_rt, kSeq_bk, kSeq_ct, K_sSeq, kDrop_eq, K_sDrop, K_sIf, kNx_eq, ownO_sh, ownO_ow, ownO_tp, setO_eq, kSet_eq, K_sSet, ownOs_nil, ownOs_cons, putA_nil, putA_cons, parO_eq, kPar_eq, K_sPar, tupB_tp, tupB_sh, unpO_eq, kUnp_eq, K_sUnp, putOE_zero, putOE_succ, obj_ow, obj_io, hasO_zero, hasO_succ, xsO_eq, kXS3_eq, kXS2_eq, kXS1_eq, K_sIxSet, apO_eq, kNon_eq, kAp2_eq, kAp1_eq, K_mApp, kKy_eq, K_itKeys, keysOf_dic, strD_str, getO_eq, getS_dic, kGt3_eq, kGt2_eq, kGt1_eq, kGt0_eq, K_mGetN, addAt_lst, setAt_lst, setAt_dicS, setAt_dicT, kFor_eq, K_sFor, kFor2_nx, kFor2_ct, kFor2_bk, kFor2_rt, kFor1_eq, K_for0, K_for1, kWh2_nx, kWh2_ct, kWh2_bk, kWh2_rt, kWh1_eq, kRet_sh, kRet_ow, kRet_tp, K_sRet, tpO_eq, kTp_eq, K_mTp, sbBs_nil, sbBs_cons, sbB_sh, sbB_ow, K_sRaise, eTry_eq, K_sTry, K_tryGo0, K_tryGo1, Add_int, Add_tup, Add_lst, Add_str, Sub_int, Mul_int, Mul_lst, Fdiv_int, Mod_int, Lt_int, Le_int, Gt_int, Ge_int, Eq_eq, Ne_eq, In_tup, In_lst, Nin_tup, Nin_lst, mem_nil, mem_cons, Ix_tup, Ix_lst, atI_0, atI_1, atI_2, atI_3, atI_4, atI_5, atI_6, Len_tup, Len_lst, Len_dic, Ix_dic, In_dic, Nin_dic, Min_int, Len_str, Int_int, Int_bl, Tuple_lst, Tuple_tup, List_lst, List_tup, List_dic, bools_nil, bools_cons, All_lst, Any_lst, dep_non, dep_bl, dep_int, dep_str, dep_tupS, dep_lstS, deps_nil, deps_cons, isNon_non, isNon_int, isNon_tup, isNon_lst, isNon_str, isNon_bl, eqv_ss, eqv_ii, eqv_bb, eqv_nn, eqv_tt, eqv_ll, eqvs_nn, eqvs_nc, eqvs_cn, eqvs_cc, upto_1, upto_2, upto_3, upto_7, K_mAdd, K_mSub, K_mMul, K_mFdiv, K_mMod, K_mPow, K_mEq, K_mNe, K_mLt, K_mLe, K_mGt, K_mGe, K_mIn, K_mNin, K_mMin, K_mJoin, K_mIndex, K_mLen, K_mInt, K_mStr, K_mTuple, K_mList, K_mAll, K_mAny, K_mSorted, K_mDict, K_mIsA, IsA_tup, IsA_lst, IsA_str, IsA_int, IsA_bl, Mul_tup, txt_nc, txt_cn, IsA_non, isA, LIM, List.drop_zero, List.take_zero, List.drop_succ_cons, List.take_succ_cons, List.drop_nil, List.take_nil, Nat.sub_zero, reduceIte, ite_true, ite_false, Nat.reduceAdd, Nat.reduceMul, Nat.reduceSub, Nat.reduceLT, Nat.reduceLeDiff, Nat.reduceEqDiff, Nat.reduceBEq, Nat.reduceBNe, Nat.reducePow, Int.reduceAdd, Int.reduceMul, Int.reduceNeg, Int.reduceSub, Int.reduceLE, Int.reduceLT, Int.reduceEq, Int.reduceBEq, Int.reduceBNe, Int.reducePow, Int.reduceToNat, Int.reduceNe, Int.reduceMod, Int.reduceDiv, Int.cast_ofNat_Int, Int.ofNat_zero, Int.ofNat_one, List.cons_beq_cons, and_true, true_and, and_self, and_false, false_and, not_false_eq_true, not_true_eq_false, or_true, true_or, or_false, false_or, List.map_cons, List.map_nil, List.length_cons, List.length_nil, List.cons_append, List.nil_append, List.append_nil, List.set_cons_zero, List.set_cons_succ, Option.bind_some, Option.bind_none, Option.map_some, Option.map_none, List.head?_cons, if_true, Bool.and_true, Bool.true_and, Bool.and_false, Bool.false_and, Bool.or_true, Bool.true_or, Bool.or_false, Bool.false_or, Bool.not_true, Bool.not_false, Bool.not_not, Bool.and_self, Bool.or_self, decide_true, decide_false, decide_eq_true_eq, beq_self_eq_true, Bool.false_eq_true, List.all_cons, List.all_nil, List.any_cons, List.any_nil, id_eq, Nat.max_self, Nat.sub_self, Nat.zero_le, Bool.decide_eq_true, List.isEmpty_cons, List.isEmpty_nil, ite_self, Nat.max_zero, Nat.zero_max, $ls,*])
open M2
theorem need_rule_enc (r : Ru) : f_need_rule [.sh (eRu r)] = some (.ok (.sh .non), [none]) := by
  rw [f_need_rule, mkFn_eq]
  simp_arith [is_rule_enc]
theorem need_row_enc (es : List Ev) (h : es.length ≤ 60) : f_need_row [.sh (eRow es)] = some (.ok (.sh .non), [none]) := by
  have e := are_events_enc es (by omega)
  rw [decide_eq_true (by omega)] at e
  rw [f_need_row, mkFn_eq]
  simp_arith [e]
theorem first_stand_enc (r : Ru) : f_first_stand [.sh (eRu r)] = some (.ok (.sh (eSd sd0)), [none]) := by
  rw [f_first_stand, mkFn_eq]
  simp_arith [need_rule_enc, begin_spec]
theorem stand_behind_enc (r : Ru) (es : List Ev) (h : es.length ≤ 60) : f_stand_behind [.sh (eRu r), .sh (eRow es)] = some (.ok (.sh (eSd (led r sd0 es).1)), [none, none]) := by
  rw [f_stand_behind, mkFn_eq]
  simp_arith [need_rule_enc, need_row_enc es h, led_spec r es (by omega), elB_sh]
theorem told_enc (r : Ru) (es : List Ev) (h : es.length ≤ 60) : f_told [.sh (eRu r), .sh (eRow es)] = some (.ok (.ow (.lst ((led r sd0 es).2.map eTd))), [none, none]) := by
  rw [f_told, mkFn_eq]
  simp_arith [need_rule_enc, need_row_enc es h, led_spec r es (by omega), elB_ow]
theorem truly_N (r : Ru) (s : Sd) : f_truly_may [.sh (eRu r), .sh (eSd s), .sh .non] = some (.ok (.sh (.tup [.bl (truly r s .a none), .bl (truly r s .b none), .bl (truly r s .o none)])), [none, none, none]) := truly_spec r s none
theorem law_rights_N (r : Ru) (s : Sd) : f__law_rights [.sh (eRu r), .sh (eSd s), .sh .non] = some (.ok (.ow (.lst [.bl (truly r s .a none), .bl (truly r s .b none), .bl (truly r s .o none)])), [none, none, none]) := law_rights_spec r s none
def e3 (f : Wh → Bool) : D := .tup [.bl (f .a), .bl (f .b), .bl (f .o)]
theorem who_may_enc (r : Ru) (es : List Ev) (h : es.length ≤ 60) : f_who_may [.sh (eRu r), .sh (eRow es)] = some (.ok (.sh (.tup [e3 fun w => truly r (led r sd0 es).1 w none, e3 (lets r (led r sd0 es).1)])), [none, none]) := by
  rw [f_who_may, mkFn_eq]
  simp_arith [need_rule_enc, need_row_enc es h, led_spec r es (by omega), elB_sh, truly_N, lets_spec, e3]
theorem told_bad (r : Ru) (d : D) (h : f_are_events [.sh d] = some (.ok (.sh (.bl false)), [none])) : f_told [.sh (eRu r), .sh d] = some (.exc 2 none, [none, none]) := by
  have e : f_need_row [.sh d] = some (.exc 2 none, [none]) := by
    rw [f_need_row, mkFn_eq]
    simp_arith [h]
  rw [f_told, mkFn_eq]
  simp_arith [need_rule_enc, e]
end CM
end WF

set_option Elab.async false
set_option linter.all false
set_option maxRecDepth 100000
set_option maxHeartbeats 2000000
/-! C22: rules and rows as texts. -/
namespace WF
theorem spl_ne (c : Nat) : ∀ s : Txt, splitT c s ≠ []
  | [] => by simp [splitT]
  | a :: x => by
    unfold splitT
    split
    · simp
    · cases h : splitT c x with
      | nil => simp
      | cons y r => simp
theorem spl_app {c : Nat} : ∀ (x s : Txt), c ∉ x → splitT c (x ++ c :: s) = x :: splitT c s
  | [], s, _ => by
    show splitT c (c :: s) = _
    rw [splitT, if_pos rfl]
  | a :: x, s, h => by
    have h1 : a ≠ c := fun e => h (by rw [e]; exact List.mem_cons_self)
    show splitT c (a :: (x ++ c :: s)) = _
    rw [splitT, if_neg h1, spl_app x s fun m => h (List.mem_cons_of_mem _ m)]
theorem spl_one' {c : Nat} : ∀ (x : Txt), c ∉ x → splitT c x = [x]
  | [], _ => rfl
  | a :: x, h => by
    have h1 : a ≠ c := fun e => h (by rw [e]; exact List.mem_cons_self)
    rw [splitT, if_neg h1, spl_one' x fun m => h (List.mem_cons_of_mem _ m)]
theorem split_join {c : Nat} : ∀ {ys : List Txt}, ys ≠ [] → (∀ y ∈ ys, c ∉ y) → splitT c (joinT [c] ys) = ys
  | [], h, _ => absurd rfl h
  | [x], _, h => spl_one' x (h x List.mem_cons_self)
  | x :: y :: r, _, h => by
    have e : joinT [c] (x :: y :: r) = x ++ c :: joinT [c] (y :: r) := by
      show x ++ [c] ++ joinT [c] (y :: r) = _
      rw [List.append_assoc]
      rfl
    rw [e, spl_app _ _ (h x List.mem_cons_self), split_join (by simp) fun z m => h z (List.mem_cons_of_mem _ m)]
theorem join_le {c m : Nat} : ∀ {ys : List Txt}, (∀ y ∈ ys, y.length ≤ m) → (joinT [c] ys).length ≤ ys.length * (m + 1)
  | [], _ => by simp [joinT]
  | [x], h => by have := h x List.mem_cons_self; simp [joinT]; omega
  | x :: y :: r, h => by
    have ih := join_le (c := c) (m := m) (ys := y :: r) fun z q => h z (List.mem_cons_of_mem _ q)
    have := h x List.mem_cons_self
    show (x ++ [c] ++ joinT [c] (y :: r)).length ≤ _
    rw [List.length_append, List.length_append, List.length_singleton, List.length_cons (as := y :: r), Nat.succ_mul]
    omega
theorem strL_map {α : Type} (f : α → Txt) : ∀ xs : List α, strL (xs.map fun x => D.str (f x)) = some (xs.map f)
  | [] => rfl
  | x :: xs => by
    show (strL (xs.map fun x => D.str (f x))).map _ = _
    rw [strL_map f xs]
    rfl
theorem strL_str (xs : List Txt) : strL (xs.map D.str) = some xs := by
  have := strL_map id xs
  simpa using this
namespace CM
local macro_rules | `(tactic| simp_arith [$ls,*]) => `(tactic| simp only [KO_some, KO_none, KO_ite, KE_some, KE_none, KE_ite, K_ret, K_stuck, K_lift, kId_eq, eId_eq, un1_some, op2_some, dat_sh, dat_ow, dat_pl, dat_tp, sbsD_nil, sbsD_cons, toD_sh, toD_ow, toD_io, toD_lst, toD_dic, at_zero, at_succ, kV_sh, kV_lst, kV_dic, K_mV, kP_sh, kP_ow, kP_io, K_mP, kM_sh, kM_ow, K_mMv, K_mK, kOp2_eq, kOp1_eq, K_mOp, kUn_eq, K_mUn, K_mNeg, isNB_eq, notNB_eq, K_mIsN, K_mNotN, lele_int, kLL3_eq, kLL2_eq, kLL1_eq, K_mLeLe, kTV_eq, K_tV, kTA_eq, K_tAnd, kTO_eq, K_tOr, kTN_eq, K_tNot, K_yes, kMA2_eq, kMA1_eq, K_mAnd, kMO2_eq, kMO1_eq, K_mOr, notB_bl, K_mNot, kIf_eq, K_mIf, boolV_bl, tru_bl, tru_non, tru_int, tru_str, tru_tup, tru_lst, K_mNil, kC2_eq, kC1_eq, K_mCons, keptO_nil, keptO_sh, keptO_ow, keptO_tp, tupO_eq, lstO_eq, kTup_eq, kLst_eq, K_mTup, K_mLst, fzO_eq, kFz_eq, K_mFz, lzip2_eq, kLZ2_eq, kLZ1_eq, K_mLZip, K_mDic0, dic1_eq, kD2_eq, kD1_eq, K_mDic1, elB_sh, elB_ow, ixO_sh, ixO_ow, ixO_pl, ixO_tp, kIx2_eq, kIx1_eq, K_mIx, slO_eq, kSl3_eq, kSl2_eq, kSl1_eq, K_mSl, intD_int, K_mEndN, kEnd_eq, K_mEndS, K_mRev, get3_eq, kG3_eq, kG2_eq, kG1_eq, K_mGet, txtB_str, kSp3_eq, kSp2_eq, kSp1_eq, K_mSplit, kJn3_eq, kJn2_eq, kJn1_eq, K_mJoinS, lent_nil, lent_sh1, lent_ow, lent_tp, lent_pl, nodup0, nodup1, nodup2, handL_nil, handL_cons, handB_sh, handB_lst, handB_dic, handB_tp, handB_pl, lendS_sh, lendS_ow, lendS_io, argsO_eq, backL_nil, backL_cons, backB_sh, backB_ow, backB_tp, backB_plN, backB_plS, putE_zero, putE_succ, put_ow, put_io, sput_sh, KF_ok, KF_exc, KF_none, KF_ite, KF_r, kArg_eq, kCall_eq, K_mCall, ioS_io, ioS_sh, ioS_ow, ioS_no, outs0, outs1, outs2, outs3, outs4, outs5, kFn_rt, kFn_nx, eFn_eq, mkFn_eq, rep0, repS, itO_eq, kIt_eq, K_items, dItems_tup, dItems_lst, rngD_int, kRg_eq, K_itRange, zipO_eq, kZ2_eq, kZ1_eq, K_itZip, enO_eq, kEn_eq, K_itEnum, zip2_tup, zip2_lst, zipD_cons, zipD_nil, zipD_nil2, enumD_tup, enumD_lst, putS_succ, putS_no, putS_sh, putS_ow, putTg_one, putTg_tup, putSs_nil, putSs_cons, slots_one, slots_tup, clr_nil, clr_cons, back_nil, back_cons, free_nil, free_cons, fr1_succ, fr1_no, fr1_sh, kCoE_eq, kCo_eq, K_mComp, K_comp0, kCo3_eq, kCo2_eq, kCo1_eq, kCo0_eq, K_comp1, K_sPass, K_sBreak, K_sCont, kSeq_nx, kSeq_rt, kSeq_bk, kSeq_ct, K_sSeq, kDrop_eq, K_sDrop, K_sIf, kNx_eq, ownO_sh, ownO_ow, ownO_tp, setO_eq, kSet_eq, K_sSet, ownOs_nil, ownOs_cons, putA_nil, putA_cons, parO_eq, kPar_eq, K_sPar, tupB_tp, tupB_sh, unpO_eq, kUnp_eq, K_sUnp, putOE_zero, putOE_succ, obj_ow, obj_io, hasO_zero, hasO_succ, xsO_eq, kXS3_eq, kXS2_eq, kXS1_eq, K_sIxSet, apO_eq, kNon_eq, kAp2_eq, kAp1_eq, K_mApp, kKy_eq, K_itKeys, keysOf_dic, strD_str, getO_eq, getS_dic, kGt3_eq, kGt2_eq, kGt1_eq, kGt0_eq, K_mGetN, addAt_lst, setAt_lst, setAt_dicS, setAt_dicT, kFor_eq, K_sFor, kFor2_nx, kFor2_ct, kFor2_bk, kFor2_rt, kFor1_eq, K_for0, K_for1, kWh2_nx, kWh2_ct, kWh2_bk, kWh2_rt, kWh1_eq, kRet_sh, kRet_ow, kRet_tp, K_sRet, tpO_eq, kTp_eq, K_mTp, sbBs_nil, sbBs_cons, sbB_sh, sbB_ow, K_sRaise, eTry_eq, K_sTry, K_tryGo0, K_tryGo1, Add_int, Add_tup, Add_lst, Add_str, Sub_int, Mul_int, Mul_lst, Fdiv_int, Mod_int, Lt_int, Le_int, Gt_int, Ge_int, Eq_eq, Ne_eq, In_tup, In_lst, Nin_tup, Nin_lst, mem_nil, mem_cons, Ix_tup, Ix_lst, atI_0, atI_1, atI_2, atI_3, atI_4, atI_5, atI_6, Len_tup, Len_lst, Len_dic, Ix_dic, In_dic, Nin_dic, Min_int, Len_str, Int_int, Int_bl, Tuple_lst, Tuple_tup, List_lst, List_tup, List_dic, bools_nil, bools_cons, All_lst, Any_lst, dep_non, dep_bl, dep_int, dep_str, dep_tupS, dep_lstS, deps_nil, deps_cons, isNon_non, isNon_int, isNon_tup, isNon_lst, isNon_str, isNon_bl, eqv_ss, eqv_ii, eqv_bb, eqv_nn, eqv_tt, eqv_ll, eqvs_nn, eqvs_nc, eqvs_cn, eqvs_cc, upto_1, upto_2, upto_3, upto_7, K_mAdd, K_mSub, K_mMul, K_mFdiv, K_mMod, K_mPow, K_mEq, K_mNe, K_mLt, K_mLe, K_mGt, K_mGe, K_mIn, K_mNin, K_mMin, K_mJoin, K_mIndex, K_mLen, K_mInt, K_mStr, K_mTuple, K_mList, K_mAll, K_mAny, K_mSorted, K_mDict, K_mIsA, IsA_tup, IsA_lst, IsA_str, IsA_int, IsA_bl, Mul_tup, txt_nc, txt_cn, IsA_non, isA, LIM, List.drop_zero, List.take_zero, List.drop_succ_cons, List.take_succ_cons, List.drop_nil, List.take_nil, Nat.sub_zero, reduceIte, ite_true, ite_false, Nat.reduceAdd, Nat.reduceMul, Nat.reduceSub, Nat.reduceLT, Nat.reduceLeDiff, Nat.reduceEqDiff, Nat.reduceBEq, Nat.reduceBNe, Nat.reducePow, Int.reduceAdd, Int.reduceMul, Int.reduceNeg, Int.reduceSub, Int.reduceLE, Int.reduceLT, Int.reduceEq, Int.reduceBEq, Int.reduceBNe, Int.reducePow, Int.reduceToNat, Int.reduceNe, Int.reduceMod, Int.reduceDiv, Int.cast_ofNat_Int, Int.ofNat_zero, Int.ofNat_one, List.cons_beq_cons, and_true, true_and, and_self, and_false, false_and, not_false_eq_true, not_true_eq_false, or_true, true_or, or_false, false_or, List.map_cons, List.map_nil, List.length_cons, List.length_nil, List.cons_append, List.nil_append, List.append_nil, List.set_cons_zero, List.set_cons_succ, Option.bind_some, Option.bind_none, Option.map_some, Option.map_none, List.head?_cons, if_true, Bool.and_true, Bool.true_and, Bool.and_false, Bool.false_and, Bool.or_true, Bool.true_or, Bool.or_false, Bool.false_or, Bool.not_true, Bool.not_false, Bool.not_not, Bool.and_self, Bool.or_self, decide_true, decide_false, decide_eq_true_eq, beq_self_eq_true, Bool.false_eq_true, List.all_cons, List.all_nil, List.any_cons, List.any_nil, id_eq, Nat.max_self, Nat.sub_self, Nat.zero_le, Bool.decide_eq_true, List.isEmpty_cons, List.isEmpty_nil, ite_self, Nat.max_zero, Nat.zero_max, $ls,*])
open M2
def tWs : Ws → Txt | .both => t_both | .either => t_either | .last => t_last
def tBars : Bool → Txt | true => t_win | false => t_own
def tNow : Bool → Txt | true => t_now | false => t_morning
def tUse : Bool → Txt | true => t_use | false => t_day
def tYes : Bool → Txt | true => t_yes | false => t_no
def tWd : Wd → Txt | .always => t_always | .bar => t_bar | .no => t_no | .once => t_once
def tP : Bool → Txt | true => [49] | false => [48]
def tWh : Wh → Txt | .a => [48] | .b => [49] | .o => [50]
def lnRu (r : Ru) : List Txt := [t_words ++ t__58_32 ++ tWs r.ws, t_bars ++ t__58_32 ++ tBars r.win, t_lag ++ t__58_32 ++ tNow r.lag, t_court ++ t__58_32 ++ tNow r.court, t_once ++ t__58_32 ++ tUse r.use, t_void ++ t__58_32 ++ tYes r.void, t_paper ++ t__58_32 ++ tYes r.paper]
def lnEv : Ev → Txt
  | .say p w => joinT t__32 [t_say, tP p, tWd w]
  | .court p => joinT t__32 [t_court, tP p]
  | .clear p => joinT t__32 [t_clear, tP p]
  | .come w => joinT t__32 [t_come, tWh w]
  | .paper p => joinT t__32 [t_paper, tP p]
  | .morning => joinT t__32 [t_morning]
def txRu (r : Ru) : Txt := joinT t__10 (lnRu r)
def txRow (es : List Ev) : Txt := joinT t__10 (es.map lnEv)
theorem lnRu_ok : ∀ r : Ru, ((lnRu r).all fun l => !l.contains 10 && decide (l.length ≤ 20)) = true := by
  have h : allRu.all (fun r => (lnRu r).all fun l => !l.contains 10 && decide (l.length ≤ 20)) = true := by decide +kernel
  exact fun r => List.all_eq_true.mp h r (mem_allRu r)
theorem lnEv_ok : ∀ e : Ev, (!(lnEv e).contains 10 && decide ((lnEv e).length ≤ 20) && decide ((lnEv e) ≠ [])) = true := by
  have h : allEv.all (fun e => !(lnEv e).contains 10 && decide ((lnEv e).length ≤ 20) && decide ((lnEv e) ≠ [])) = true := by decide +kernel
  exact fun e => List.all_eq_true.mp h e (mem_allEv e)
theorem lnRu_no {r : Ru} : ∀ l ∈ lnRu r, 10 ∉ l := fun l m => by
  have := List.all_eq_true.mp (lnRu_ok r) l m
  simp at this
  exact this.1
theorem lnRu_len {r : Ru} : ∀ l ∈ lnRu r, l.length ≤ 20 := fun l m => by
  have := List.all_eq_true.mp (lnRu_ok r) l m
  simp at this
  exact this.2
theorem lnEv_no (e : Ev) : 10 ∉ lnEv e := by
  have := lnEv_ok e
  simp at this
  exact this.1.1
theorem lnEv_len (e : Ev) : (lnEv e).length ≤ 20 := by
  have := lnEv_ok e
  simp at this
  exact this.1.2
theorem lnEv_ne (e : Ev) : lnEv e ≠ [] := by
  have := lnEv_ok e
  simp at this
  exact this.2
theorem txRu_len (r : Ru) : (txRu r).length ≤ 147 := join_le (m := 20) fun l m => lnRu_len l m
theorem txRow_len (es : List Ev) : (txRow es).length ≤ es.length * 21 := by
  have := join_le (c := 10) (m := 20) (ys := es.map lnEv) fun l m => by
    obtain ⟨e, _, rfl⟩ := List.mem_map.mp m
    exact lnEv_len e
  rw [List.length_map] at this
  exact this
theorem txRu_split (r : Ru) : splitT 10 (txRu r) = lnRu r := split_join (by simp [lnRu]) fun l m => lnRu_no l m
theorem txRow_split {es : List Ev} (h : es ≠ []) : splitT 10 (txRow es) = es.map lnEv := split_join (by simpa using h) fun l m => by
  obtain ⟨e, _, rfl⟩ := List.mem_map.mp m
  exact lnEv_no e
theorem txRow_ne {es : List Ev} (h : es ≠ []) : txRow es ≠ [] := by
  cases es with
  | nil => exact absurd rfl h
  | cons e es =>
    cases es with
    | nil => exact lnEv_ne e
    | cons a es =>
      show lnEv e ++ t__10 ++ joinT t__10 ((a :: es).map lnEv) ≠ []
      simp
/-! ### rules -/
theorem line_ws (w : Ws) : f_line_of [.sh (.str t_words), .sh (eWs w)] = some (.ok (.sh (.str (t_words ++ t__58_32 ++ tWs w))), [none, none]) := by cases w <;> rfl
theorem line_bars (w : Bool) : f_line_of [.sh (.str t_bars), .sh (eBars w)] = some (.ok (.sh (.str (t_bars ++ t__58_32 ++ tBars w))), [none, none]) := by cases w <;> rfl
theorem line_lag (w : Bool) : f_line_of [.sh (.str t_lag), .sh (eNow w)] = some (.ok (.sh (.str (t_lag ++ t__58_32 ++ tNow w))), [none, none]) := by cases w <;> rfl
theorem line_court (w : Bool) : f_line_of [.sh (.str t_court), .sh (eNow w)] = some (.ok (.sh (.str (t_court ++ t__58_32 ++ tNow w))), [none, none]) := by cases w <;> rfl
theorem line_once (w : Bool) : f_line_of [.sh (.str t_once), .sh (eUse w)] = some (.ok (.sh (.str (t_once ++ t__58_32 ++ tUse w))), [none, none]) := by cases w <;> rfl
theorem line_void (w : Bool) : f_line_of [.sh (.str t_void), .sh (.bl w)] = some (.ok (.sh (.str (t_void ++ t__58_32 ++ tYes w))), [none, none]) := by cases w <;> rfl
theorem line_paper (w : Bool) : f_line_of [.sh (.str t_paper), .sh (.bl w)] = some (.ok (.sh (.str (t_paper ++ t__58_32 ++ tYes w))), [none, none]) := by cases w <;> rfl
theorem eRu_tup (r : Ru) : eRu r = .tup [eWs r.ws, eBars r.win, eNow r.lag, eNow r.court, eUse r.use, .bl r.void, .bl r.paper] := rfl
theorem rule_lines_spec (r : Ru) : f_rule_lines [.sh (eRu r)] = some (.ok (.ow (.lst ((lnRu r).map D.str))), [none]) := by
  rw [eRu_tup, f_rule_lines, mkFn_eq]
  simp_arith [c_PART_NAMES, ce0_rule_lines, line_ws, line_bars, line_lag, line_court, line_once, line_void, line_paper, lnRu]
theorem join_ru (r : Ru) : iJoin (.str t__10) (.lst ((lnRu r).map D.str)) = some (.sh (.str (txRu r))) := by
  have := txRu_len r
  unfold iJoin
  dsimp only
  rw [strL_str]
  dsimp only
  rw [if_pos (by show (txRu r).length + 1 ≤ 16777216; omega)]
  rfl
theorem rule_text_spec (r : Ru) : f_rule_text [.sh (eRu r)] = some (.ok (.sh (.str (txRu r))), [none]) := by
  rw [f_rule_text, mkFn_eq]
  simp_arith [need_rule_enc, rule_lines_spec, txtB_str, un1_some, join_ru]
theorem value_0 (w : Ws) : f_value_in [.sh (.int 0), .sh (.str (t_words ++ t__58_32 ++ tWs w))] = some (.ok (.ow (.lst [eWs w])), [none, none]) := by cases w <;> rfl
theorem value_1 (w : Bool) : f_value_in [.sh (.int 1), .sh (.str (t_bars ++ t__58_32 ++ tBars w))] = some (.ok (.ow (.lst [eBars w])), [none, none]) := by cases w <;> rfl
theorem value_2 (w : Bool) : f_value_in [.sh (.int 2), .sh (.str (t_lag ++ t__58_32 ++ tNow w))] = some (.ok (.ow (.lst [eNow w])), [none, none]) := by cases w <;> rfl
theorem value_3 (w : Bool) : f_value_in [.sh (.int 3), .sh (.str (t_court ++ t__58_32 ++ tNow w))] = some (.ok (.ow (.lst [eNow w])), [none, none]) := by cases w <;> rfl
theorem value_4 (w : Bool) : f_value_in [.sh (.int 4), .sh (.str (t_once ++ t__58_32 ++ tUse w))] = some (.ok (.ow (.lst [eUse w])), [none, none]) := by cases w <;> rfl
theorem value_5 (w : Bool) : f_value_in [.sh (.int 5), .sh (.str (t_void ++ t__58_32 ++ tYes w))] = some (.ok (.ow (.lst [.bl w])), [none, none]) := by cases w <;> rfl
theorem value_6 (w : Bool) : f_value_in [.sh (.int 6), .sh (.str (t_paper ++ t__58_32 ++ tYes w))] = some (.ok (.ow (.lst [.bl w])), [none, none]) := by cases w <;> rfl
theorem split_ru (r : Ru) : iSplit (.str (txRu r)) (.str t__10) = some (.ow (.lst ((lnRu r).map D.str))) := by
  have := txRu_len r
  unfold iSplit
  dsimp only
  rw [if_pos (by rw [Bool.and_eq_true, decide_eq_true_eq, decide_eq_true_eq]; exact ⟨by show _ ≤ 16777216; omega, by decide⟩), txRu_split]
section
variable {o0 o1 o3 o4 o5 : Option SB} {found : List D}
theorem read_turn {i : Int} {l : Txt} {v : D} (hv : f_value_in [.sh (.int i), .sh (.str l)] = some (.ok (.ow (.lst [v])), [none, none])) (dv : D.dep v ≤ 50) (hf : found.length ≤ 1000) (n5 : Nio o5) :
    fb0_read_rule [o0, o1, some (.sh (.tup found)), some (.sh (.int i)), some (.sh (.str l)), o5] = some (.ok .nx, [o0, o1, some (.sh (.tup (found ++ [v]))), some (.sh (.int i)), some (.sh (.str l)), some (.ow (.lst [v]))]) := by
  have h1 : found.length + 1 ≤ 16777216 := by omega
  have h2 : D.dep v + 1 ≤ 60 := by omega
  rw [K_id (m := fb0_read_rule), fb0_read_rule]
  simp_arith [hv, putS_nio n5, h1, h2]
end
theorem read_seven {tx l0 l1 l2 l3 l4 l5 l6 : Txt} {v0 v1 v2 v3 v4 v5 v6 : D} (s : iSplit (.str tx) (.str t__10) = some (.ow (.lst [.str l0, .str l1, .str l2, .str l3, .str l4, .str l5, .str l6]))) (h0 : f_value_in [.sh (.int 0), .sh (.str l0)] = some (.ok (.ow (.lst [v0])), [none, none])) (d0 : D.dep v0 ≤ 50) (h1 : f_value_in [.sh (.int 1), .sh (.str l1)] = some (.ok (.ow (.lst [v1])), [none, none])) (d1 : D.dep v1 ≤ 50) (h2 : f_value_in [.sh (.int 2), .sh (.str l2)] = some (.ok (.ow (.lst [v2])), [none, none])) (d2 : D.dep v2 ≤ 50) (h3 : f_value_in [.sh (.int 3), .sh (.str l3)] = some (.ok (.ow (.lst [v3])), [none, none])) (d3 : D.dep v3 ≤ 50) (h4 : f_value_in [.sh (.int 4), .sh (.str l4)] = some (.ok (.ow (.lst [v4])), [none, none])) (d4 : D.dep v4 ≤ 50) (h5 : f_value_in [.sh (.int 5), .sh (.str l5)] = some (.ok (.ow (.lst [v5])), [none, none])) (d5 : D.dep v5 ≤ 50) (h6 : f_value_in [.sh (.int 6), .sh (.str l6)] = some (.ok (.ow (.lst [v6])), [none, none])) (d6 : D.dep v6 ≤ 50) 
    (ir : f_is_rule [.sh (.tup [v0, v1, v2, v3, v4, v5, v6])] = some (.ok (.sh (.bl true)), [none])) : f_read_rule [.sh (.str tx)] = some (.ok (.sh (.tup [v0, v1, v2, v3, v4, v5, v6])), [none]) := by
  have t0 := read_turn (o0 := some (.sh (.str tx))) (o1 := some (.sh (.lst [.str l0, .str l1, .str l2, .str l3, .str l4, .str l5, .str l6]))) (o5 := none) (found := []) h0 d0 (by simp) nio_no
  have t1 := read_turn (o0 := some (.sh (.str tx))) (o1 := some (.sh (.lst [.str l0, .str l1, .str l2, .str l3, .str l4, .str l5, .str l6]))) (o5 := some (.ow (.lst [v0]))) (found := [v0]) h1 d1 (by simp) nio_ow
  have t2 := read_turn (o0 := some (.sh (.str tx))) (o1 := some (.sh (.lst [.str l0, .str l1, .str l2, .str l3, .str l4, .str l5, .str l6]))) (o5 := some (.ow (.lst [v1]))) (found := [v0, v1]) h2 d2 (by simp) nio_ow
  have t3 := read_turn (o0 := some (.sh (.str tx))) (o1 := some (.sh (.lst [.str l0, .str l1, .str l2, .str l3, .str l4, .str l5, .str l6]))) (o5 := some (.ow (.lst [v2]))) (found := [v0, v1, v2]) h3 d3 (by simp) nio_ow
  have t4 := read_turn (o0 := some (.sh (.str tx))) (o1 := some (.sh (.lst [.str l0, .str l1, .str l2, .str l3, .str l4, .str l5, .str l6]))) (o5 := some (.ow (.lst [v3]))) (found := [v0, v1, v2, v3]) h4 d4 (by simp) nio_ow
  have t5 := read_turn (o0 := some (.sh (.str tx))) (o1 := some (.sh (.lst [.str l0, .str l1, .str l2, .str l3, .str l4, .str l5, .str l6]))) (o5 := some (.ow (.lst [v4]))) (found := [v0, v1, v2, v3, v4]) h5 d5 (by simp) nio_ow
  have t6 := read_turn (o0 := some (.sh (.str tx))) (o1 := some (.sh (.lst [.str l0, .str l1, .str l2, .str l3, .str l4, .str l5, .str l6]))) (o5 := some (.ow (.lst [v5]))) (found := [v0, v1, v2, v3, v4, v5]) h6 d6 (by simp) nio_ow
  simp only [List.cons_append, List.nil_append] at t0 t1 t2 t3 t4 t5 t6
  rw [f_read_rule, mkFn_eq]
  simp_arith [txtB_str, s, K_eq t0, K_eq t1, K_eq t2, K_eq t3, K_eq t4, K_eq t5, K_eq t6, ir]
theorem read_rule_spec (r : Ru) : f_read_rule [.sh (.str (txRu r))] = some (.ok (.sh (eRu r)), [none]) :=
  read_seven (split_ru r) (value_0 r.ws) (by rw [dep_eWs]; omega) (value_1 r.win) (by rw [dep_eBars]; omega) (value_2 r.lag) (by rw [dep_eNow]; omega) (value_3 r.court) (by rw [dep_eNow]; omega) (value_4 r.use) (by rw [dep_eUse]; omega) (value_5 r.void) (by rw [dep_bl]; omega) (value_6 r.paper) (by rw [dep_bl]; omega) (is_rule_enc r)
theorem names_split : iSplit (.str t_words_32bars_32lag_32court_32once_32void_32paper) (.str t__32) = some (.ow (.lst [.str t_words, .str t_bars, .str t_lag, .str t_court, .str t_once, .str t_void, .str t_paper])) := rfl
theorem eWs_str (w : Ws) : eWs w = .str (tWs w) := by cases w <;> rfl
theorem eBars_str (w : Bool) : eBars w = .str (tBars w) := by cases w <;> rfl
theorem eNow_str (w : Bool) : eNow w = .str (tNow w) := by cases w <;> rfl
theorem eUse_str (w : Bool) : eUse w = .str (tUse w) := by cases w <;> rfl
theorem add_len (a b : Txt) (h : a.length + b.length ≤ 1000) : iAdd (.str a) (.str b) = some (.sh (.str (a ++ b))) := by
  unfold iAdd
  dsimp only
  rw [if_pos (by show _ ≤ 16777216; omega)]
section
variable {row nms acc : List D} {i : Int} {n w m l : Txt} {v : Bool} {o4 : Option SB}
theorem lines_turn (h1 : WF.atI row i = some (.str w)) (h2 : WF.atI nms i = some (.str n)) (a : iAdd (.str n) (.str t__58_32) = some (.sh (.str m))) (b : iAdd (.str m) (.str w) = some (.sh (.str l))) (ha : acc.length ≤ 1000) (n4 : Nio o4) :
    fb0__law_rule_lines [some (.sh (.tup row)), some (.ow (.lst nms)), some (.ow (.lst acc)), some (.sh (.int i)), o4] = some (.ok .nx, [some (.sh (.tup row)), some (.ow (.lst nms)), some (.ow (.lst (acc ++ [.str l]))), some (.sh (.int i)), some (.sh (.str w))]) := by
  have ha : acc.length < 16777216 := by omega
  rw [K_id (m := fb0__law_rule_lines), fb0__law_rule_lines]
  simp_arith [-Add_str, h1, h2, a, b, putS_nio n4, ha]
theorem lines_turnB (h1 : WF.atI row i = some (.bl v)) (h2 : WF.atI nms i = some (.str n)) (a : iAdd (.str n) (.str t__58_32) = some (.sh (.str m))) (b : iAdd (.str m) (.str (tYes v)) = some (.sh (.str l))) (ha : acc.length ≤ 1000) (n4 : Nio o4) :
    fb0__law_rule_lines [some (.sh (.tup row)), some (.ow (.lst nms)), some (.ow (.lst acc)), some (.sh (.int i)), o4] = some (.ok .nx, [some (.sh (.tup row)), some (.ow (.lst nms)), some (.ow (.lst (acc ++ [.str l]))), some (.sh (.int i)), some (.sh (.str (tYes v)))]) := by
  have ha : acc.length < 16777216 := by omega
  rw [K_id (m := fb0__law_rule_lines), fb0__law_rule_lines]
  cases v with
  | true =>
    rw [show tYes true = t_yes from rfl] at b ⊢
    simp_arith [-Add_str, h1, h2, a, b, putS_nio n4, ha]
  | false =>
    rw [show tYes false = t_no from rfl] at b ⊢
    simp_arith [-Add_str, h1, h2, a, b, putS_nio n4, ha]
end
theorem lines_seven {n0 n1 n2 n3 n4 n5 n6 w0 w1 w2 w3 w4 m0 m1 m2 m3 m4 m5 m6 l0 l1 l2 l3 l4 l5 l6 : Txt} {v5 v6 : Bool} (s : iSplit (.str t_words_32bars_32lag_32court_32once_32void_32paper) (.str t__32) = some (.ow (.lst [.str n0, .str n1, .str n2, .str n3, .str n4, .str n5, .str n6]))) (a0 : iAdd (.str n0) (.str t__58_32) = some (.sh (.str m0))) (b0 : iAdd (.str m0) (.str w0) = some (.sh (.str l0))) (a1 : iAdd (.str n1) (.str t__58_32) = some (.sh (.str m1))) (b1 : iAdd (.str m1) (.str w1) = some (.sh (.str l1))) (a2 : iAdd (.str n2) (.str t__58_32) = some (.sh (.str m2))) (b2 : iAdd (.str m2) (.str w2) = some (.sh (.str l2))) (a3 : iAdd (.str n3) (.str t__58_32) = some (.sh (.str m3))) (b3 : iAdd (.str m3) (.str w3) = some (.sh (.str l3))) (a4 : iAdd (.str n4) (.str t__58_32) = some (.sh (.str m4))) (b4 : iAdd (.str m4) (.str w4) = some (.sh (.str l4))) (a5 : iAdd (.str n5) (.str t__58_32) = some (.sh (.str m5))) (b5 : iAdd (.str m5) (.str (tYes v5)) = some (.sh (.str l5))) (a6 : iAdd (.str n6) (.str t__58_32) = some (.sh (.str m6))) (b6 : iAdd (.str m6) (.str (tYes v6)) = some (.sh (.str l6))) :
    f__law_rule_lines [.sh (.tup [.str w0, .str w1, .str w2, .str w3, .str w4, .bl v5, .bl v6])] = some (.ok (.ow (.lst [.str l0, .str l1, .str l2, .str l3, .str l4, .str l5, .str l6])), [none]) := by
  have t0 := lines_turn (row := [.str w0, .str w1, .str w2, .str w3, .str w4, .bl v5, .bl v6]) (nms := [.str n0, .str n1, .str n2, .str n3, .str n4, .str n5, .str n6]) (i := 0) (acc := []) (o4 := none) rfl rfl a0 b0 (by simp) nio_no
  have t1 := lines_turn (row := [.str w0, .str w1, .str w2, .str w3, .str w4, .bl v5, .bl v6]) (nms := [.str n0, .str n1, .str n2, .str n3, .str n4, .str n5, .str n6]) (i := 1) (acc := [.str l0]) (o4 := some (.sh (.str w0))) rfl rfl a1 b1 (by simp) nio_sh
  have t2 := lines_turn (row := [.str w0, .str w1, .str w2, .str w3, .str w4, .bl v5, .bl v6]) (nms := [.str n0, .str n1, .str n2, .str n3, .str n4, .str n5, .str n6]) (i := 2) (acc := [.str l0, .str l1]) (o4 := some (.sh (.str w1))) rfl rfl a2 b2 (by simp) nio_sh
  have t3 := lines_turn (row := [.str w0, .str w1, .str w2, .str w3, .str w4, .bl v5, .bl v6]) (nms := [.str n0, .str n1, .str n2, .str n3, .str n4, .str n5, .str n6]) (i := 3) (acc := [.str l0, .str l1, .str l2]) (o4 := some (.sh (.str w2))) rfl rfl a3 b3 (by simp) nio_sh
  have t4 := lines_turn (row := [.str w0, .str w1, .str w2, .str w3, .str w4, .bl v5, .bl v6]) (nms := [.str n0, .str n1, .str n2, .str n3, .str n4, .str n5, .str n6]) (i := 4) (acc := [.str l0, .str l1, .str l2, .str l3]) (o4 := some (.sh (.str w3))) rfl rfl a4 b4 (by simp) nio_sh
  have t5 := lines_turnB (row := [.str w0, .str w1, .str w2, .str w3, .str w4, .bl v5, .bl v6]) (nms := [.str n0, .str n1, .str n2, .str n3, .str n4, .str n5, .str n6]) (i := 5) (acc := [.str l0, .str l1, .str l2, .str l3, .str l4]) (o4 := some (.sh (.str w4))) rfl rfl a5 b5 (by simp) nio_sh
  have t6 := lines_turnB (row := [.str w0, .str w1, .str w2, .str w3, .str w4, .bl v5, .bl v6]) (nms := [.str n0, .str n1, .str n2, .str n3, .str n4, .str n5, .str n6]) (i := 6) (acc := [.str l0, .str l1, .str l2, .str l3, .str l4, .str l5]) (o4 := some (.sh (.str (tYes v5)))) rfl rfl a6 b6 (by simp) nio_sh
  simp only [List.cons_append, List.nil_append] at t0 t1 t2 t3 t4 t5 t6
  rw [f__law_rule_lines, mkFn_eq]
  simp_arith [txtB_str, s, K_eq t0, K_eq t1, K_eq t2, K_eq t3, K_eq t4, K_eq t5, K_eq t6]
theorem law_rule_lines_spec (r : Ru) : f__law_rule_lines [.sh (eRu r)] = some (.ok (.ow (.lst ((lnRu r).map D.str))), [none]) := by
  rw [eRu_tup, eWs_str, eBars_str, eNow_str, eNow_str, eUse_str]
  exact lines_seven names_split rfl (by cases r.ws <;> rfl) rfl (by cases r.win <;> rfl) rfl (by cases r.lag <;> rfl) rfl (by cases r.court <;> rfl) rfl (by cases r.use <;> rfl) rfl (by cases r.void <;> rfl) rfl (by cases r.paper <;> rfl)
/-! ### rows -/
theorem event_line_spec (e : Ev) : f_event_line [.sh (eEv e)] = some (.ok (.sh (.str (lnEv e))), [none]) := by
  cases e with
  | say p w => cases p <;> cases w <;> rfl
  | court p => cases p <;> rfl
  | clear p => cases p <;> rfl
  | come w => cases w <;> rfl
  | paper p => cases p <;> rfl
  | morning => rfl
theorem ln_eq (a b : Ev) : D.eqv (.str (lnEv a)) (.str (lnEv b)) = decide (a = b) := by
  have h : allEv.all (fun a => allEv.all fun b => (lnEv a == lnEv b) == decide (a = b)) = true := by decide +kernel
  have := List.all_eq_true.mp (List.all_eq_true.mp h a (mem_allEv a)) b (mem_allEv b)
  rw [eqv_ss]
  exact beq_iff_eq.mp this
theorem event_in_spec (e : Ev) : f_event_in [.sh (.str (lnEv e))] = some (.ok (.ow (.lst [eEv e])), [none]) := by
  have c := mComp_pure (ρ0 := [some (.sh (.str (lnEv e))), none]) (ρ := [some (.sh (.str (lnEv e))), none]) (i := 1) (it := items (mK c_EVENTS)) (c := cc0_event_in) (e := ce0_event_in) (ds := allEv.map eEv) (fun d => if D.eqv d (eEv e) then some d else none) (items_sh (d := .tup (allEv.map eEv)) rfl rfl) (by simp) rfl (by decide) fun d md => by
    obtain ⟨a, _, rfl⟩ := List.mem_map.mp md
    have eq : D.eqv (eEv a) (eEv e) = decide (a = e) := by
      have h : allEv.all (fun a => allEv.all fun b => D.eqv (eEv a) (eEv b) == decide (a = b)) = true := by decide +kernel
      exact beq_iff_eq.mp (List.all_eq_true.mp (List.all_eq_true.mp h a (mem_allEv a)) e (mem_allEv e))
    have l1 := ln_eq a e
    rw [eqv_ss] at l1
    by_cases q : a = e
    · rw [decide_eq_true q] at eq l1
      refine .inr ⟨eEv a, if_pos eq, ?_, ?_⟩
      · rw [K_id (m := cc0_event_in), cc0_event_in]
        simp_arith [event_line_spec, l1]
      · rw [K_id (m := ce0_event_in), ce0_event_in]
        simp_arith []
    · rw [decide_eq_false q] at eq l1
      refine .inl ⟨if_neg (by rw [eq]; decide), ?_⟩
      rw [K_id (m := cc0_event_in), cc0_event_in]
      simp_arith [event_line_spec, l1]
  have f : (allEv.map eEv).filterMap (fun d => if D.eqv d (eEv e) then some d else none) = [eEv e] := by
    cases e with
    | say p w => cases p <;> cases w <;> rfl
    | court p => cases p <;> rfl
    | clear p => cases p <;> rfl
    | come w => cases w <;> rfl
    | paper p => cases p <;> rfl
    | morning => rfl
  rw [f] at c
  rw [f_event_in, mkFn_eq]
  simp_arith [-K_mComp, K_eq c]
theorem join_row {es : List Ev} (h : es.length ≤ 10000) : iJoin (.str t__10) (.lst (es.map fun e => .str (lnEv e))) = some (.sh (.str (txRow es))) := by
  have := txRow_len es
  unfold iJoin
  dsimp only
  rw [strL_map]
  dsimp only
  rw [if_pos (by show (txRow es).length + 1 ≤ 16777216; omega)]
  rfl
theorem map_line (es : List Ev) : (es.map eEv).filterMap (fun d => some (match f_event_line [.sh d] with | some (.ok (.sh x), _) => x | _ => d)) = es.map fun e => .str (lnEv e) := by
  rw [filterMap_some, List.map_map]
  refine List.map_congr_left fun e _ => ?_
  show (match f_event_line [.sh (eEv e)] with | some (.ok (.sh x), _) => x | _ => eEv e) = _
  rw [event_line_spec]
theorem row_text_spec (es : List Ev) (h : es.length ≤ 60) : f_row_text [.sh (eRow es)] = some (.ok (.sh (.str (txRow es))), [none]) := by
  have c := mComp_pure (ρ0 := [some (.sh (eRow es)), none]) (ρ := [some (.sh (eRow es)), none]) (i := 1) (it := items (mV 0)) (c := yes) (e := ce0_row_text) (ds := es.map eEv) (fun d => some (match f_event_line [.sh d] with | some (.ok (.sh x), _) => x | _ => d)) (items_sh (d := eRow es) rfl rfl) (by simp) rfl (by rw [List.length_map]; show _ ≤ 16777216; omega) fun d md => by
    obtain ⟨a, _, rfl⟩ := List.mem_map.mp md
    refine .inr ⟨.str (lnEv a), ?_, rfl, ?_⟩
    · show some (match f_event_line [.sh (eEv a)] with | some (.ok (.sh x), _) => x | _ => eEv a) = _
      rw [event_line_spec]
    · rw [K_id (m := ce0_row_text), ce0_row_text]
      simp_arith [event_line_spec]
  rw [map_line] at c
  rw [f_row_text, mkFn_eq]
  simp_arith [-K_mComp, need_row_enc es h, txtB_str, K_eq c, join_row (show es.length ≤ 10000 by omega)]
theorem split_row {es : List Ev} (h : es.length ≤ 10000) (h0 : es ≠ []) : iSplit (.str (txRow es)) (.str t__10) = some (.ow (.lst (es.map fun e => .str (lnEv e)))) := by
  have := txRow_len es
  unfold iSplit
  dsimp only
  rw [if_pos (by rw [Bool.and_eq_true, decide_eq_true_eq, decide_eq_true_eq]; exact ⟨by show _ ≤ 16777216; omega, by decide⟩), txRow_split h0, List.map_map]
  rfl
theorem rows_go {x0 x1 : Option SB} : ∀ (es : List Ev) (xs : List D) {fs : List Ev} {o3 o4 o5 : Option SB}, xs.length = es.length → fs.length + es.length ≤ 10000 → Nio o3 → Nio o4 → Nio o5 →
    ∃ o3' o4' o5', forGo (.tup [3, 4]) fb0_read_row (zipD xs (es.map fun e => .str (lnEv e))) [x0, x1, some (.sh (eRow fs)), o3, o4, o5] = some (.ok .nx, [x0, x1, some (.sh (eRow (fs ++ es))), o3', o4', o5'])
  | [], xs, fs, o3, o4, o5, hl, _, n3, n4, n5 => ⟨o3, o4, o5, by
      have : xs = [] := List.length_eq_zero_iff.mp hl
      subst this
      rw [List.append_nil]
      rfl⟩
  | e :: es, [], fs, o3, o4, o5, hl, _, n3, n4, n5 => nomatch hl
  | e :: es, x :: xs, fs, o3, o4, o5, hl, hf, n3, n4, n5 => by
    rw [List.length_cons] at hf
    obtain ⟨a3, a4, a5, ih⟩ := rows_go (x0 := x0) (x1 := x1) es xs (fs := fs ++ [e]) (o3 := some (.sh x)) (o4 := some (.sh (.str (lnEv e)))) (o5 := some (.ow (.lst [eEv e]))) (by simpa using hl) (by rw [List.length_append, List.length_singleton]; omega) nio_sh nio_sh nio_ow
    have h1 : fs.length + 1 ≤ 16777216 := by omega
    have t : fb0_read_row [x0, x1, some (.sh (eRow fs)), some (.sh x), some (.sh (.str (lnEv e))), o5] = some (.ok .nx, [x0, x1, some (.sh (eRow (fs ++ [e]))), some (.sh x), some (.sh (.str (lnEv e))), some (.ow (.lst [eEv e]))]) := by
      rw [K_id (m := fb0_read_row), fb0_read_row]
      simp_arith [eRow, event_in_spec, putS_nio n5, dep_eEv, List.length_map, h1, List.map_append]
    refine ⟨a3, a4, a5, ?_⟩
    rw [K_id (m := forGo _ _ _), List.map_cons, zipD_cons]
    simp_arith [putS_nio n3, putS_nio n4, K_eq t, K_eq ih, List.append_assoc]
theorem read_row_spec (es : List Ev) (h : es.length ≤ 60) : f_read_row [.sh (.str (txRow es))] = some (.ok (.sh (eRow es)), [none]) := by
  have ae := are_events_enc es (by omega)
  rw [decide_eq_true (by omega)] at ae
  obtain ⟨a3, a4, a5, go⟩ := rows_go (x0 := some (.sh (.str (txRow es)))) (x1 := some (.sh (.lst (es.map fun e => .str (lnEv e))))) es (upto es.length) (fs := []) (o3 := none) (o4 := none) (o5 := none) upto_len (by simp; omega) nio_no nio_no nio_no
  rw [List.nil_append] at go
  by_cases h0 : es = []
  · subst h0; rfl
  · have s := split_row (es := es) (by omega) h0
    have ne : (txRow es == t_empty) = false := beq_eq_false_iff_ne.mpr (txRow_ne h0)
    have er : eRow [] = .tup [] := rfl
    rw [er] at go
    rw [f_read_row, mkFn_eq]
    simp_arith [ne, txtB_str, s, List.length_map, K_eq go, ae]
theorem ev_lines_one (e : Ev) (o0 : Option SB) : ce1__law_event_lines [o0, some (.sh (eEv e)), none] = some (.ok (.sh (.str (lnEv e))), [o0, some (.sh (eEv e)), none]) := by
  cases e with
  | say p w => cases p <;> cases w <;> rfl
  | court p => cases p <;> rfl
  | clear p => cases p <;> rfl
  | come w => cases w <;> rfl
  | paper p => cases p <;> rfl
  | morning => rfl
theorem law_event_lines_spec (es : List Ev) (h : es.length ≤ 10000) : f__law_event_lines [.sh (eRow es)] = some (.ok (.ow (.lst (es.map fun e => .str (lnEv e)))), [none]) := by
  have c := mComp_pure (ρ0 := [some (.sh (eRow es)), none, none]) (ρ := [some (.sh (eRow es)), none, none]) (i := 1) (it := items (mV 0)) (c := yes) (e := ce1__law_event_lines) (ds := es.map eEv) (fun d => some (match f_event_line [.sh d] with | some (.ok (.sh x), _) => x | _ => d)) (items_sh (d := eRow es) rfl rfl) (by simp) rfl (by rw [List.length_map]; show _ ≤ 16777216; omega) fun d md => by
    obtain ⟨a, _, rfl⟩ := List.mem_map.mp md
    refine .inr ⟨.str (lnEv a), ?_, rfl, ev_lines_one a _⟩
    show some (match f_event_line [.sh (eEv a)] with | some (.ok (.sh x), _) => x | _ => eEv a) = _
    rw [event_line_spec]
  rw [map_line] at c
  rw [f__law_event_lines, mkFn_eq]
  simp_arith [-K_mComp, K_eq c]
end CM
end WF

set_option Elab.async false
set_option linter.all false
set_option maxRecDepth 100000
set_option maxHeartbeats 2000000
/-! P_k10: the pure statement of k10. -/
namespace WF
namespace K10
local macro_rules | `(tactic| simp_arith [$ls,*]) => `(tactic| simp only [KO_some, KO_none, KO_ite, KE_some, KE_none, KE_ite, K_ret, K_stuck, K_lift, kId_eq, eId_eq, un1_some, op2_some, dat_sh, dat_ow, dat_pl, dat_tp, sbsD_nil, sbsD_cons, toD_sh, toD_ow, toD_io, toD_lst, toD_dic, at_zero, at_succ, kV_sh, kV_lst, kV_dic, K_mV, kP_sh, kP_ow, kP_io, K_mP, kM_sh, kM_ow, K_mMv, K_mK, kOp2_eq, kOp1_eq, K_mOp, kUn_eq, K_mUn, K_mNeg, isNB_eq, notNB_eq, K_mIsN, K_mNotN, lele_int, kLL3_eq, kLL2_eq, kLL1_eq, K_mLeLe, kTV_eq, K_tV, kTA_eq, K_tAnd, kTO_eq, K_tOr, kTN_eq, K_tNot, K_yes, kMA2_eq, kMA1_eq, K_mAnd, kMO2_eq, kMO1_eq, K_mOr, notB_bl, K_mNot, kIf_eq, K_mIf, boolV_bl, tru_bl, tru_non, tru_int, tru_str, tru_tup, tru_lst, K_mNil, kC2_eq, kC1_eq, K_mCons, keptO_nil, keptO_sh, keptO_ow, keptO_tp, tupO_eq, lstO_eq, kTup_eq, kLst_eq, K_mTup, K_mLst, fzO_eq, kFz_eq, K_mFz, lzip2_eq, kLZ2_eq, kLZ1_eq, K_mLZip, K_mDic0, dic1_eq, kD2_eq, kD1_eq, K_mDic1, elB_sh, elB_ow, ixO_sh, ixO_ow, ixO_pl, ixO_tp, kIx2_eq, kIx1_eq, K_mIx, slO_eq, kSl3_eq, kSl2_eq, kSl1_eq, K_mSl, intD_int, K_mEndN, kEnd_eq, K_mEndS, K_mRev, get3_eq, kG3_eq, kG2_eq, kG1_eq, K_mGet, txtB_str, kSp3_eq, kSp2_eq, kSp1_eq, K_mSplit, kJn3_eq, kJn2_eq, kJn1_eq, K_mJoinS, lent_nil, lent_sh1, lent_ow, lent_tp, lent_pl, nodup0, nodup1, nodup2, handL_nil, handL_cons, handB_sh, handB_lst, handB_dic, handB_tp, handB_pl, lendS_sh, lendS_ow, lendS_io, argsO_eq, backL_nil, backL_cons, backB_sh, backB_ow, backB_tp, backB_plN, backB_plS, putE_zero, putE_succ, put_ow, put_io, sput_sh, KF_ok, KF_exc, KF_none, KF_ite, KF_r, kArg_eq, kCall_eq, K_mCall, ioS_io, ioS_sh, ioS_ow, ioS_no, outs0, outs1, outs2, outs3, outs4, outs5, kFn_rt, kFn_nx, eFn_eq, mkFn_eq, rep0, repS, itO_eq, kIt_eq, K_items, dItems_tup, dItems_lst, rngD_int, kRg_eq, K_itRange, zipO_eq, kZ2_eq, kZ1_eq, K_itZip, enO_eq, kEn_eq, K_itEnum, zip2_tup, zip2_lst, zipD_cons, zipD_nil, zipD_nil2, enumD_tup, enumD_lst, putS_succ, putS_no, putS_sh, putS_ow, putTg_one, putTg_tup, putSs_nil, putSs_cons, slots_one, slots_tup, clr_nil, clr_cons, back_nil, back_cons, free_nil, free_cons, fr1_succ, fr1_no, fr1_sh, kCoE_eq, kCo_eq, K_mComp, K_comp0, kCo3_eq, kCo2_eq, kCo1_eq, kCo0_eq, K_comp1, K_sPass, K_sBreak, K_sCont, kSeq_nx, kSeq_rt, kSeq_bk, kSeq_ct, K_sSeq, kDrop_eq, K_sDrop, K_sIf, kNx_eq, ownO_sh, ownO_ow, ownO_tp, setO_eq, kSet_eq, K_sSet, ownOs_nil, ownOs_cons, putA_nil, putA_cons, parO_eq, kPar_eq, K_sPar, tupB_tp, tupB_sh, unpO_eq, kUnp_eq, K_sUnp, putOE_zero, putOE_succ, obj_ow, obj_io, hasO_zero, hasO_succ, xsO_eq, kXS3_eq, kXS2_eq, kXS1_eq, K_sIxSet, apO_eq, kNon_eq, kAp2_eq, kAp1_eq, K_mApp, kKy_eq, K_itKeys, keysOf_dic, strD_str, getO_eq, getS_dic, kGt3_eq, kGt2_eq, kGt1_eq, kGt0_eq, K_mGetN, addAt_lst, setAt_lst, setAt_dicS, setAt_dicT, kFor_eq, K_sFor, kFor2_nx, kFor2_ct, kFor2_bk, kFor2_rt, kFor1_eq, K_for0, K_for1, kWh2_nx, kWh2_ct, kWh2_bk, kWh2_rt, kWh1_eq, kRet_sh, kRet_ow, kRet_tp, K_sRet, tpO_eq, kTp_eq, K_mTp, sbBs_nil, sbBs_cons, sbB_sh, sbB_ow, K_sRaise, eTry_eq, K_sTry, K_tryGo0, K_tryGo1, Add_int, Add_tup, Add_lst, Add_str, Sub_int, Mul_int, Mul_lst, Fdiv_int, Mod_int, Lt_int, Le_int, Gt_int, Ge_int, Eq_eq, Ne_eq, In_tup, In_lst, Nin_tup, Nin_lst, mem_nil, mem_cons, Ix_tup, Ix_lst, atI_0, atI_1, atI_2, atI_3, atI_4, atI_5, atI_6, Len_tup, Len_lst, Len_dic, Ix_dic, In_dic, Nin_dic, Min_int, Len_str, Int_int, Int_bl, Tuple_lst, Tuple_tup, List_lst, List_tup, List_dic, bools_nil, bools_cons, All_lst, Any_lst, dep_non, dep_bl, dep_int, dep_str, dep_tupS, dep_lstS, deps_nil, deps_cons, isNon_non, isNon_int, isNon_tup, isNon_lst, isNon_str, isNon_bl, eqv_ss, eqv_ii, eqv_bb, eqv_nn, eqv_tt, eqv_ll, eqvs_nn, eqvs_nc, eqvs_cn, eqvs_cc, upto_1, upto_2, upto_3, upto_7, K_mAdd, K_mSub, K_mMul, K_mFdiv, K_mMod, K_mPow, K_mEq, K_mNe, K_mLt, K_mLe, K_mGt, K_mGe, K_mIn, K_mNin, K_mMin, K_mJoin, K_mIndex, K_mLen, K_mInt, K_mStr, K_mTuple, K_mList, K_mAll, K_mAny, K_mSorted, K_mDict, K_mIsA, IsA_tup, IsA_lst, IsA_str, IsA_int, IsA_bl, Mul_tup, txt_nc, txt_cn, IsA_non, isA, LIM, List.drop_zero, List.take_zero, List.drop_succ_cons, List.take_succ_cons, List.drop_nil, List.take_nil, Nat.sub_zero, reduceIte, ite_true, ite_false, Nat.reduceAdd, Nat.reduceMul, Nat.reduceSub, Nat.reduceLT, Nat.reduceLeDiff, Nat.reduceEqDiff, Nat.reduceBEq, Nat.reduceBNe, Nat.reducePow, Int.reduceAdd, Int.reduceMul, Int.reduceNeg, Int.reduceSub, Int.reduceLE, Int.reduceLT, Int.reduceEq, Int.reduceBEq, Int.reduceBNe, Int.reducePow, Int.reduceToNat, Int.reduceNe, Int.reduceMod, Int.reduceDiv, Int.cast_ofNat_Int, Int.ofNat_zero, Int.ofNat_one, List.cons_beq_cons, and_true, true_and, and_self, and_false, false_and, not_false_eq_true, not_true_eq_false, or_true, true_or, or_false, false_or, List.map_cons, List.map_nil, List.length_cons, List.length_nil, List.cons_append, List.nil_append, List.append_nil, List.set_cons_zero, List.set_cons_succ, Option.bind_some, Option.bind_none, Option.map_some, Option.map_none, List.head?_cons, if_true, Bool.and_true, Bool.true_and, Bool.and_false, Bool.false_and, Bool.or_true, Bool.true_or, Bool.or_false, Bool.false_or, Bool.not_true, Bool.not_false, Bool.not_not, Bool.and_self, Bool.or_self, decide_true, decide_false, decide_eq_true_eq, beq_self_eq_true, Bool.false_eq_true, List.all_cons, List.all_nil, List.any_cons, List.any_nil, id_eq, Nat.max_self, Nat.sub_self, Nat.zero_le, Bool.decide_eq_true, List.isEmpty_cons, List.isEmpty_nil, ite_self, Nat.max_zero, Nat.zero_max, $ls,*])
open CM M2
theorem isA_ws {w : Ws} : iIsA .bool (eWs w) = some (.sh (.bl false)) := by cases w <;> rfl
theorem isA_bars {w : Bool} : iIsA .bool (eBars w) = some (.sh (.bl false)) := by cases w <;> rfl
theorem isA_now {w : Bool} : iIsA .bool (eNow w) = some (.sh (.bl false)) := by cases w <;> rfl
theorem isA_use {w : Bool} : iIsA .bool (eUse w) = some (.sh (.bl false)) := by cases w <;> rfl
theorem dItems_ru (r : Ru) : dItems (eRu r) = some [eWs r.ws, eBars r.win, eNow r.lag, eNow r.court, eUse r.use, .bl r.void, .bl r.paper] := rfl
theorem ru_self (r : Ru) : D.eqv (eRu r) (eRu r) = true := eqv_self _ (by rw [dep_eRu]; omega)
theorem row_self (es : List Ev) : D.eqv (eRow es) (eRow es) = true := eqv_self _ (by have := dep_eRow es; omega)
section
variable {o0 o1 o3 o4 o5 o6 o7 o8 : Option SB}
theorem turn {g s : Int} (p : Pot g s) (n4 : Nio o4) (n5 : Nio o5) (n6 : Nio o6) (n7 : Nio o7) :
    ∃ g' s' o4' o5' o6' o7', Pot g' s' ∧ Nio o4' ∧ Nio o5' ∧ Nio o6' ∧ Nio o7' ∧ fb0_law [o0, o1, some (oPot g s), o3, o4, o5, o6, o7, none] = some (.ok .nx, [o0, o1, some (oPot g' s'), o3, o4', o5', o6', o7', none]) := by
  obtain ⟨g1, s1, r, p1, e1⟩ := rule_draw p
  obtain ⟨g2, s2, es, p2, hl, e2⟩ := row_draw (m := 60) p1 (by decide)
  have e2' : f__law_row [pot g1 s1, .sh (.int 60)] = some (.ok (.sh (eRow es)), [some (pot g2 s2), none]) := e2
  have d2 := dep_eRow es
  have d2' : D.dep (eRow es) ≤ 60 := by omega
  have z1 : f_read_row [.sh (.str t_empty)] = some (.ok (.sh (.tup [])), [none]) := read_row_spec [] (by decide)
  have z2 : f_row_text [.sh (.tup [])] = some (.ok (.sh (.str t_empty)), [none]) := row_text_spec [] (by decide)
  have rt := rule_text_spec r
  have rr := read_rule_spec r
  have jr := join_ru r
  have tt := row_text_spec es hl
  have tr := read_row_spec es hl
  have jt := join_row (es := es) (by omega)
  have le := law_event_lines_spec es (by omega)
  generalize txRu r = x at rt rr jr
  generalize txRow es = y at tt tr jt
  generalize es.map (fun e => D.str (lnEv e)) = ys at le jt
  refine ⟨g2, s2, some (.sh (.str x)), some (.sh (.str y)), some (.sh (eRu r)), some (.sh (eRow es)), p2, nio_sh, nio_sh, nio_sh, nio_sh, ?_⟩
  rw [K_id (m := fb0_law), fb0_law]
  simp_arith [putS_nio n4, putS_nio n5, putS_nio n6, putS_nio n7, e1, e2', law_rule_lines_spec, txtB_str, jr, le, jt, rt, rr, tt, tr, z1, z2, dep_eRu, d2', ru_self, row_self, dItems_ru, ce0_law, isA_ws, isA_bars, isA_now, isA_use, repL, List.replicate, List.flatten_cons, List.flatten_nil]
theorem turns {g s : Int} (p : Pot g s) (n3 : Nio o3) (n4 : Nio o4) (n5 : Nio o5) (n6 : Nio o6) (n7 : Nio o7) (ds : List D) :
    ∃ g' s' o3' o4' o5' o6' o7', Pot g' s' ∧ Nio o3' ∧ Nio o4' ∧ Nio o5' ∧ Nio o6' ∧ Nio o7' ∧ forGo (.one 3) fb0_law ds [o0, o1, some (oPot g s), o3, o4, o5, o6, o7, none] = some (.ok .nx, [o0, o1, some (oPot g' s'), o3', o4', o5', o6', o7', none]) := by
  obtain ⟨ρ', e, g', s', a3, a4, a5, a6, a7, h⟩ := forGo_inv (t := .one 3) (body := fb0_law) (fun ρ => ∃ g s o3 o4 o5 o6 o7, Pot g s ∧ Nio o3 ∧ Nio o4 ∧ Nio o5 ∧ Nio o6 ∧ Nio o7 ∧ ρ = [o0, o1, some (oPot g s), o3, o4, o5, o6, o7, none]) (ds := ds) (fun d _ ρ ⟨g, s, o3, o4, o5, o6, o7, p, n3, n4, n5, n6, n7, h⟩ => by
    subst h
    obtain ⟨g', s', a4, a5, a6, a7, p', m4, m5, m6, m7, e⟩ := turn (o0 := o0) (o1 := o1) (o3 := some (.sh d)) p n4 n5 n6 n7
    exact ⟨_, _, by show putS _ 3 _ = _; simp only [putS_succ, putS_nio n3, Option.map_some], e, g', s', _, a4, a5, a6, a7, p', nio_sh, m4, m5, m6, m7, rfl⟩) _ ⟨g, s, o3, o4, o5, o6, o7, p, n3, n4, n5, n6, n7, rfl⟩
  obtain ⟨p', n3, n4, n5, n6, n7, rfl⟩ := h
  exact ⟨g', s', a3, a4, a5, a6, a7, p', n3, n4, n5, n6, n7, e⟩
theorem cellT {cell : Int} {o2 : Option SB} (n2 : Nio o2) (n3 : Nio o3) (n4 : Nio o4) (n5 : Nio o5) (n6 : Nio o6) (n7 : Nio o7) :
    ∃ o2' o3' o4' o5' o6' o7', Nio o2' ∧ Nio o3' ∧ Nio o4' ∧ Nio o5' ∧ Nio o6' ∧ Nio o7' ∧ fb1_law [o0, some (.sh (.int cell)), o2, o3, o4, o5, o6, o7, none] = some (.ok .nx, [o0, some (.sh (.int cell)), o2', o3', o4', o5', o6', o7', none]) := by
  obtain ⟨g1, s1, p1, e1⟩ := pot_spec cell 57 (by decide) (by decide)
  obtain ⟨g2, s2, b3, b4, b5, b6, b7, p2, k3, k4, k5, k6, k7, e2⟩ := turns (o0 := o0) (o1 := some (.sh (.int cell))) p1 n3 n4 n5 n6 n7 (upto 4)
  refine ⟨some (oPot g2 s2), b3, b4, b5, b6, b7, nio_ow, k3, k4, k5, k6, k7, ?_⟩
  generalize hu : upto 4 = u at e2
  have hu' : upto (Int.toNat 4) = u := hu
  rw [K_id (m := fb1_law), fb1_law]
  simp_arith [putS_nio n2, e1, hu, hu', K_eq e2]
theorem cells (cs : List Int) {o1 o2 : Option SB} (n1 : Nio o1) (n2 : Nio o2) (n3 : Nio o3) (n4 : Nio o4) (n5 : Nio o5) (n6 : Nio o6) (n7 : Nio o7) :
    ∃ ρ', forGo (.one 1) fb1_law (cs.map D.int) [o0, o1, o2, o3, o4, o5, o6, o7, none] = some (.ok .nx, o0 :: ρ') := by
  obtain ⟨ρ', e, a1, a2, a3, a4, a5, a6, a7, h⟩ := forGo_inv (t := .one 1) (body := fb1_law) (fun ρ => ∃ o1 o2 o3 o4 o5 o6 o7, Nio o1 ∧ Nio o2 ∧ Nio o3 ∧ Nio o4 ∧ Nio o5 ∧ Nio o6 ∧ Nio o7 ∧ ρ = [o0, o1, o2, o3, o4, o5, o6, o7, none]) (ds := cs.map D.int) (fun d md ρ ⟨o1, o2, o3, o4, o5, o6, o7, n1, n2, n3, n4, n5, n6, n7, h⟩ => by
    subst h
    obtain ⟨c, _, rfl⟩ := List.mem_map.mp md
    obtain ⟨a2, a3, a4, a5, a6, a7, m2, m3, m4, m5, m6, m7, e⟩ := cellT (cell := c) (o0 := o0) n2 n3 n4 n5 n6 n7
    exact ⟨_, _, by show putS _ 1 _ = _; simp only [putS_succ, putS_nio n1, Option.map_some], e, _, a2, a3, a4, a5, a6, a7, nio_sh, m2, m3, m4, m5, m6, m7, rfl⟩) _ ⟨o1, o2, o3, o4, o5, o6, o7, n1, n2, n3, n4, n5, n6, n7, rfl⟩
  obtain ⟨_, _, _, _, _, _, _, rfl⟩ := h
  exact ⟨_, e⟩
end
theorem keeps : ∀ ns : List Int, ns.length ≤ 63 → ∃ os, f_law [.sh (.lst (ns.map D.int))] = some (.ok (.sh (.bl true)), os) := fun ns hl => by
  obtain ⟨cs, e0⟩ : ∃ cs : List Int, iSl (.lst ((.int 0 : D) :: ns.map D.int)) none (some 10) = some (.ow (.lst (cs.map D.int))) := by
    refine ⟨(0 :: ns).take 10, ?_⟩
    show some (B.ow (.lst ((((0 :: ns).map D.int).drop 0).take (min 10 ((0 :: ns).map D.int).length)))) = _
    rw [List.drop_zero, List.map_take, ← List.take_take, List.take_length]
  have l0 : 1 + ns.length ≤ 16777216 := by omega
  obtain ⟨ρ', e1⟩ := cells (o0 := some (.sh (.lst (ns.map D.int)))) cs (o1 := none) (o2 := none) (o3 := none) (o4 := none) (o5 := none) (o6 := none) (o7 := none) nio_no nio_no nio_no nio_no nio_no nio_no nio_no
  refine ⟨[none], ?_⟩
  rw [f_law, mkFn_eq]
  simp (maxSteps := 10000000) only [KO_some, KO_none, KO_ite, KE_some, KE_none, KE_ite, K_ret, K_stuck, K_lift, kId_eq, eId_eq, un1_some, op2_some, dat_sh, dat_ow, dat_pl, dat_tp, sbsD_nil, sbsD_cons, toD_sh, toD_ow, toD_io, toD_lst, toD_dic, at_zero, at_succ, kV_sh, kV_lst, kV_dic, K_mV, kP_sh, kP_ow, kP_io, K_mP, kM_sh, kM_ow, K_mMv, K_mK, kOp2_eq, kOp1_eq, K_mOp, kUn_eq, K_mUn, K_mNeg, isNB_eq, notNB_eq, K_mIsN, K_mNotN, lele_int, kLL3_eq, kLL2_eq, kLL1_eq, K_mLeLe, kTV_eq, K_tV, kTA_eq, K_tAnd, kTO_eq, K_tOr, kTN_eq, K_tNot, K_yes, kMA2_eq, kMA1_eq, K_mAnd, kMO2_eq, kMO1_eq, K_mOr, notB_bl, K_mNot, kIf_eq, K_mIf, boolV_bl, tru_bl, tru_non, tru_int, tru_str, tru_tup, tru_lst, K_mNil, kC2_eq, kC1_eq, K_mCons, keptO_nil, keptO_sh, keptO_ow, keptO_tp, tupO_eq, lstO_eq, kTup_eq, kLst_eq, K_mTup, K_mLst, fzO_eq, kFz_eq, K_mFz, lzip2_eq, kLZ2_eq, kLZ1_eq, K_mLZip, K_mDic0, dic1_eq, kD2_eq, kD1_eq, K_mDic1, elB_sh, elB_ow, ixO_sh, ixO_ow, ixO_pl, ixO_tp, kIx2_eq, kIx1_eq, K_mIx, slO_eq, kSl3_eq, kSl2_eq, kSl1_eq, K_mSl, intD_int, K_mEndN, kEnd_eq, K_mEndS, K_mRev, get3_eq, kG3_eq, kG2_eq, kG1_eq, K_mGet, txtB_str, kSp3_eq, kSp2_eq, kSp1_eq, K_mSplit, kJn3_eq, kJn2_eq, kJn1_eq, K_mJoinS, lent_nil, lent_sh1, lent_ow, lent_tp, lent_pl, nodup0, nodup1, nodup2, handL_nil, handL_cons, handB_sh, handB_lst, handB_dic, handB_tp, handB_pl, lendS_sh, lendS_ow, lendS_io, argsO_eq, backL_nil, backL_cons, backB_sh, backB_ow, backB_tp, backB_plN, backB_plS, putE_zero, putE_succ, put_ow, put_io, sput_sh, KF_ok, KF_exc, KF_none, KF_ite, KF_r, kArg_eq, kCall_eq, K_mCall, ioS_io, ioS_sh, ioS_ow, ioS_no, outs0, outs1, outs2, outs3, outs4, outs5, kFn_rt, kFn_nx, eFn_eq, mkFn_eq, rep0, repS, itO_eq, kIt_eq, K_items, dItems_tup, dItems_lst, rngD_int, kRg_eq, K_itRange, zipO_eq, kZ2_eq, kZ1_eq, K_itZip, enO_eq, kEn_eq, K_itEnum, zip2_tup, zip2_lst, zipD_cons, zipD_nil, zipD_nil2, enumD_tup, enumD_lst, putS_succ, putS_no, putS_sh, putS_ow, putTg_one, putTg_tup, putSs_nil, putSs_cons, slots_one, slots_tup, clr_nil, clr_cons, back_nil, back_cons, free_nil, free_cons, fr1_succ, fr1_no, fr1_sh, kCoE_eq, kCo_eq, K_mComp, K_comp0, kCo3_eq, kCo2_eq, kCo1_eq, kCo0_eq, K_comp1, K_sPass, K_sBreak, K_sCont, kSeq_nx, kSeq_rt, kSeq_bk, kSeq_ct, K_sSeq, kDrop_eq, K_sDrop, K_sIf, kNx_eq, ownO_sh, ownO_ow, ownO_tp, setO_eq, kSet_eq, K_sSet, ownOs_nil, ownOs_cons, putA_nil, putA_cons, parO_eq, kPar_eq, K_sPar, tupB_tp, tupB_sh, unpO_eq, kUnp_eq, K_sUnp, putOE_zero, putOE_succ, obj_ow, obj_io, hasO_zero, hasO_succ, xsO_eq, kXS3_eq, kXS2_eq, kXS1_eq, K_sIxSet, apO_eq, kNon_eq, kAp2_eq, kAp1_eq, K_mApp, kKy_eq, K_itKeys, keysOf_dic, strD_str, getO_eq, getS_dic, kGt3_eq, kGt2_eq, kGt1_eq, kGt0_eq, K_mGetN, addAt_lst, setAt_lst, setAt_dicS, setAt_dicT, kFor_eq, K_sFor, kFor2_nx, kFor2_ct, kFor2_bk, kFor2_rt, kFor1_eq, kWh2_nx, kWh2_ct, kWh2_bk, kWh2_rt, kWh1_eq, kRet_sh, kRet_ow, kRet_tp, K_sRet, tpO_eq, kTp_eq, K_mTp, sbBs_nil, sbBs_cons, sbB_sh, sbB_ow, K_sRaise, eTry_eq, K_sTry, K_tryGo0, K_tryGo1, Add_int, Add_tup, Add_lst, Add_str, Sub_int, Mul_int, Mul_lst, Fdiv_int, Mod_int, Lt_int, Le_int, Gt_int, Ge_int, Eq_eq, Ne_eq, In_tup, In_lst, Nin_tup, Nin_lst, mem_nil, mem_cons, Ix_tup, Ix_lst, atI_0, atI_1, atI_2, atI_3, atI_4, atI_5, atI_6, Len_tup, Len_lst, Len_dic, Ix_dic, In_dic, Nin_dic, Min_int, Len_str, Int_int, Int_bl, Tuple_lst, Tuple_tup, List_lst, List_tup, List_dic, bools_nil, bools_cons, All_lst, Any_lst, dep_non, dep_bl, dep_int, dep_str, dep_tupS, dep_lstS, deps_nil, deps_cons, isNon_non, isNon_int, isNon_tup, isNon_lst, isNon_str, isNon_bl, eqv_ss, eqv_ii, eqv_bb, eqv_nn, eqv_tt, eqv_ll, eqvs_nn, eqvs_nc, eqvs_cn, eqvs_cc, upto_1, upto_2, upto_3, upto_7, K_mAdd, K_mSub, K_mMul, K_mFdiv, K_mMod, K_mPow, K_mEq, K_mNe, K_mLt, K_mLe, K_mGt, K_mGe, K_mIn, K_mNin, K_mMin, K_mJoin, K_mIndex, K_mLen, K_mInt, K_mStr, K_mTuple, K_mList, K_mAll, K_mAny, K_mSorted, K_mDict, K_mIsA, IsA_tup, IsA_lst, IsA_str, IsA_int, IsA_bl, Mul_tup, txt_nc, txt_cn, IsA_non, isA, LIM, List.drop_zero, List.take_zero, List.drop_succ_cons, List.take_succ_cons, List.drop_nil, List.take_nil, Nat.sub_zero, reduceIte, ite_true, ite_false, Nat.reduceAdd, Nat.reduceMul, Nat.reduceSub, Nat.reduceLT, Nat.reduceLeDiff, Nat.reduceEqDiff, Nat.reduceBEq, Nat.reduceBNe, Nat.reducePow, Int.reduceAdd, Int.reduceMul, Int.reduceNeg, Int.reduceSub, Int.reduceLE, Int.reduceLT, Int.reduceEq, Int.reduceBEq, Int.reduceBNe, Int.reducePow, Int.reduceToNat, Int.reduceNe, Int.reduceMod, Int.reduceDiv, Int.cast_ofNat_Int, Int.ofNat_zero, Int.ofNat_one, List.cons_beq_cons, and_true, true_and, and_self, and_false, false_and, not_false_eq_true, not_true_eq_false, or_true, true_or, or_false, false_or, List.map_cons, List.map_nil, List.length_cons, List.length_nil, List.cons_append, List.nil_append, List.append_nil, List.set_cons_zero, List.set_cons_succ, Option.bind_some, Option.bind_none, Option.map_some, Option.map_none, List.head?_cons, if_true, Bool.and_true, Bool.true_and, Bool.and_false, Bool.false_and, Bool.or_true, Bool.true_or, Bool.or_false, Bool.false_or, Bool.not_true, Bool.not_false, Bool.not_not, Bool.and_self, Bool.or_self, decide_true, decide_false, decide_eq_true_eq, beq_self_eq_true, Bool.false_eq_true, List.all_cons, List.all_nil, List.any_cons, List.any_nil, id_eq, Nat.max_self, Nat.sub_self, Nat.zero_le, Bool.decide_eq_true, List.isEmpty_cons, List.isEmpty_nil, ite_self, Nat.max_zero, Nat.zero_max, List.length_map, l0, e0, K_eq e1]
end K10
end WF

set_option Elab.async false
set_option linter.all false
set_option maxRecDepth 100000
set_option maxHeartbeats 4000000
namespace WF
namespace K10
open CM PySem PySem.Spec PyProof.Rows L2
def top (i : Nat) : Stmt := PySem.Challenge.pw_whofetches_k10_texts_there_and_back.main.body.getD i (.Pass ⟨0, 0, 0, 0⟩)
abbrev s_is_same : Stmt := top 11
abbrev s_is_rule : Stmt := top 12
abbrev s_is_number : Stmt := top 13
abbrev s_is_word : Stmt := top 14
abbrev s_is_event : Stmt := top 15
abbrev s_are_events : Stmt := top 16
abbrev s_need_rule : Stmt := top 17
abbrev s_need_row : Stmt := top 18
abbrev s_line_of : Stmt := top 20
abbrev s_rule_lines : Stmt := top 21
abbrev s_rule_text : Stmt := top 22
abbrev s_value_in : Stmt := top 23
abbrev s_read_rule : Stmt := top 24
abbrev s_event_line : Stmt := top 25
abbrev s_row_text : Stmt := top 26
abbrev s_event_in : Stmt := top 27
abbrev s_read_row : Stmt := top 28
abbrev s__law_pot : Stmt := top 30
abbrev s__law_lot : Stmt := top 31
abbrev s__law_pick : Stmt := top 32
abbrev s__law_values : Stmt := top 33
abbrev s__law_rule : Stmt := top 34
abbrev s__law_words : Stmt := top 35
abbrev s__law_event : Stmt := top 36
abbrev s__law_row : Stmt := top 37
abbrev s__law_rule_lines : Stmt := top 38
abbrev s__law_event_lines : Stmt := top 39
abbrev s_law : Stmt := top 40
theorem nm_InvalidRow : Nm "InvalidRow" := nm_of (by decide +kernel)
theorem nm_InvalidRule : Nm "InvalidRule" := nm_of (by decide +kernel)
theorem nm__law_event : Nm "_law_event" := nm_of (by decide +kernel)
theorem nm__law_event_lines : Nm "_law_event_lines" := nm_of (by decide +kernel)
theorem nm__law_lot : Nm "_law_lot" := nm_of (by decide +kernel)
theorem nm__law_pick : Nm "_law_pick" := nm_of (by decide +kernel)
theorem nm__law_pot : Nm "_law_pot" := nm_of (by decide +kernel)
theorem nm__law_row : Nm "_law_row" := nm_of (by decide +kernel)
theorem nm__law_rule : Nm "_law_rule" := nm_of (by decide +kernel)
theorem nm__law_rule_lines : Nm "_law_rule_lines" := nm_of (by decide +kernel)
theorem nm__law_values : Nm "_law_values" := nm_of (by decide +kernel)
theorem nm__law_words : Nm "_law_words" := nm_of (by decide +kernel)
theorem nm_are_events : Nm "are_events" := nm_of (by decide +kernel)
theorem nm_at : Nm "at" := nm_of (by decide +kernel)
theorem nm_cell : Nm "cell" := nm_of (by decide +kernel)
theorem nm_deep : Nm "deep" := nm_of (by decide +kernel)
theorem nm_event : Nm "event" := nm_of (by decide +kernel)
theorem nm_event_in : Nm "event_in" := nm_of (by decide +kernel)
theorem nm_event_line : Nm "event_line" := nm_of (by decide +kernel)
theorem nm_found : Nm "found" := nm_of (by decide +kernel)
theorem nm_great : Nm "great" := nm_of (by decide +kernel)
theorem nm_high : Nm "high" := nm_of (by decide +kernel)
theorem nm_is_event : Nm "is_event" := nm_of (by decide +kernel)
theorem nm_is_number : Nm "is_number" := nm_of (by decide +kernel)
theorem nm_is_rule : Nm "is_rule" := nm_of (by decide +kernel)
theorem nm_is_same : Nm "is_same" := nm_of (by decide +kernel)
theorem nm_is_word : Nm "is_word" := nm_of (by decide +kernel)
theorem nm_line : Nm "line" := nm_of (by decide +kernel)
theorem nm_line_of : Nm "line_of" := nm_of (by decide +kernel)
theorem nm_lines : Nm "lines" := nm_of (by decide +kernel)
theorem nm_many : Nm "many" := nm_of (by decide +kernel)
theorem nm_more : Nm "more" := nm_of (by decide +kernel)
theorem nm_most : Nm "most" := nm_of (by decide +kernel)
theorem nm_names : Nm "names" := nm_of (by decide +kernel)
theorem nm_need_row : Nm "need_row" := nm_of (by decide +kernel)
theorem nm_need_rule : Nm "need_rule" := nm_of (by decide +kernel)
theorem nm_one : Nm "one" := nm_of (by decide +kernel)
theorem nm_other : Nm "other" := nm_of (by decide +kernel)
theorem nm_parent : Nm "parent" := nm_of (by decide +kernel)
theorem nm_part : Nm "part" := nm_of (by decide +kernel)
theorem nm_pot : Nm "pot" := nm_of (by decide +kernel)
theorem nm_read_row : Nm "read_row" := nm_of (by decide +kernel)
theorem nm_read_rule : Nm "read_rule" := nm_of (by decide +kernel)
theorem nm_row : Nm "row" := nm_of (by decide +kernel)
theorem nm_row_text : Nm "row_text" := nm_of (by decide +kernel)
theorem nm_rule : Nm "rule" := nm_of (by decide +kernel)
theorem nm_rule_lines : Nm "rule_lines" := nm_of (by decide +kernel)
theorem nm_rule_text : Nm "rule_text" := nm_of (by decide +kernel)
theorem nm_salt : Nm "salt" := nm_of (by decide +kernel)
theorem nm_script : Nm "script" := nm_of (by decide +kernel)
theorem nm_some : Nm "some" := nm_of (by decide +kernel)
theorem nm_text : Nm "text" := nm_of (by decide +kernel)
theorem nm_things : Nm "things" := nm_of (by decide +kernel)
theorem nm_value : Nm "value" := nm_of (by decide +kernel)
theorem nm_value_in : Nm "value_in" := nm_of (by decide +kernel)
theorem nm_word : Nm "word" := nm_of (by decide +kernel)
structure Ad where
  a_is_same : Addr
  fd_is_same : FuncData
  a_is_rule : Addr
  fd_is_rule : FuncData
  a_is_number : Addr
  fd_is_number : FuncData
  a_is_word : Addr
  fd_is_word : FuncData
  a_is_event : Addr
  fd_is_event : FuncData
  a_are_events : Addr
  fd_are_events : FuncData
  a_need_rule : Addr
  fd_need_rule : FuncData
  a_need_row : Addr
  fd_need_row : FuncData
  a_line_of : Addr
  fd_line_of : FuncData
  a_rule_lines : Addr
  fd_rule_lines : FuncData
  a_rule_text : Addr
  fd_rule_text : FuncData
  a_value_in : Addr
  fd_value_in : FuncData
  a_read_rule : Addr
  fd_read_rule : FuncData
  a_event_line : Addr
  fd_event_line : FuncData
  a_row_text : Addr
  fd_row_text : FuncData
  a_event_in : Addr
  fd_event_in : FuncData
  a_read_row : Addr
  fd_read_row : FuncData
  a__law_pot : Addr
  fd__law_pot : FuncData
  a__law_lot : Addr
  fd__law_lot : FuncData
  a__law_pick : Addr
  fd__law_pick : FuncData
  a__law_values : Addr
  fd__law_values : FuncData
  a__law_rule : Addr
  fd__law_rule : FuncData
  a__law_words : Addr
  fd__law_words : FuncData
  a__law_event : Addr
  fd__law_event : FuncData
  a__law_row : Addr
  fd__law_row : FuncData
  a__law_rule_lines : Addr
  fd__law_rule_lines : FuncData
  a__law_event_lines : Addr
  fd__law_event_lines : FuncData
  a_law : Addr
  fd_law : FuncData
  cl_FetchError : Addr
  cl_InvalidRule : Addr
  cl_InvalidRow : Addr
abbrev Ad.cl (a : Ad) : Nat → Addr
  | 0 => a.cl_FetchError
  | 1 => a.cl_InvalidRule
  | 2 => a.cl_InvalidRow
  | 3 => a.cl_FetchError
  | 4 => a.cl_FetchError
  | 5 => a.cl_FetchError
  | 6 => a.cl_FetchError
  | 7 => a.cl_FetchError
  | 8 => a.cl_FetchError
  | 9 => a.cl_FetchError
  | 10 => a.cl_FetchError
  | 11 => a.cl_FetchError
  | _ => a.cl_FetchError
abbrev n_is_same : List Str := ["one", "other"]
abbrev p_is_same : List Str := ["one", "other"]
theorem sc_is_same : FnScope n_is_same p_is_same (defScope s_is_same) := ⟨rfl, rfl, rfl, by decide +kernel, rfl, by decide +kernel, by decide +kernel⟩
abbrev n_is_rule : List Str := ["value", "one", "some", "other"]
abbrev p_is_rule : List Str := ["value"]
theorem sc_is_rule : FnScope n_is_rule p_is_rule (defScope s_is_rule) := ⟨rfl, rfl, rfl, by decide +kernel, rfl, by decide +kernel, by decide +kernel⟩
abbrev n_is_number : List Str := ["value", "high"]
abbrev p_is_number : List Str := ["value", "high"]
theorem sc_is_number : FnScope n_is_number p_is_number (defScope s_is_number) := ⟨rfl, rfl, rfl, by decide +kernel, rfl, by decide +kernel, by decide +kernel⟩
abbrev n_is_word : List Str := ["value"]
abbrev p_is_word : List Str := ["value"]
theorem sc_is_word : FnScope n_is_word p_is_word (defScope s_is_word) := ⟨rfl, rfl, rfl, by decide +kernel, rfl, by decide +kernel, by decide +kernel⟩
abbrev n_is_event : List Str := ["value"]
abbrev p_is_event : List Str := ["value"]
theorem sc_is_event : FnScope n_is_event p_is_event (defScope s_is_event) := ⟨rfl, rfl, rfl, by decide +kernel, rfl, by decide +kernel, by decide +kernel⟩
abbrev n_are_events : List Str := ["value", "event"]
abbrev p_are_events : List Str := ["value"]
theorem sc_are_events : FnScope n_are_events p_are_events (defScope s_are_events) := ⟨rfl, rfl, rfl, by decide +kernel, rfl, by decide +kernel, by decide +kernel⟩
abbrev n_need_rule : List Str := ["rule"]
abbrev p_need_rule : List Str := ["rule"]
theorem sc_need_rule : FnScope n_need_rule p_need_rule (defScope s_need_rule) := ⟨rfl, rfl, rfl, by decide +kernel, rfl, by decide +kernel, by decide +kernel⟩
abbrev n_need_row : List Str := ["row"]
abbrev p_need_row : List Str := ["row"]
theorem sc_need_row : FnScope n_need_row p_need_row (defScope s_need_row) := ⟨rfl, rfl, rfl, by decide +kernel, rfl, by decide +kernel, by decide +kernel⟩
abbrev n_line_of : List Str := ["part", "value"]
abbrev p_line_of : List Str := ["part", "value"]
theorem sc_line_of : FnScope n_line_of p_line_of (defScope s_line_of) := ⟨rfl, rfl, rfl, by decide +kernel, rfl, by decide +kernel, by decide +kernel⟩
abbrev n_rule_lines : List Str := ["rule", "part", "value"]
abbrev p_rule_lines : List Str := ["rule"]
theorem sc_rule_lines : FnScope n_rule_lines p_rule_lines (defScope s_rule_lines) := ⟨rfl, rfl, rfl, by decide +kernel, rfl, by decide +kernel, by decide +kernel⟩
abbrev n_rule_text : List Str := ["rule"]
abbrev p_rule_text : List Str := ["rule"]
theorem sc_rule_text : FnScope n_rule_text p_rule_text (defScope s_rule_text) := ⟨rfl, rfl, rfl, by decide +kernel, rfl, by decide +kernel, by decide +kernel⟩
abbrev n_value_in : List Str := ["at", "line", "value"]
abbrev p_value_in : List Str := ["at", "line"]
theorem sc_value_in : FnScope n_value_in p_value_in (defScope s_value_in) := ⟨rfl, rfl, rfl, by decide +kernel, rfl, by decide +kernel, by decide +kernel⟩
abbrev n_read_rule : List Str := ["text", "lines", "found", "at", "line", "some"]
abbrev p_read_rule : List Str := ["text"]
theorem sc_read_rule : FnScope n_read_rule p_read_rule (defScope s_read_rule) := ⟨rfl, rfl, rfl, by decide +kernel, rfl, by decide +kernel, by decide +kernel⟩
abbrev n_event_line : List Str := ["event", "part"]
abbrev p_event_line : List Str := ["event"]
theorem sc_event_line : FnScope n_event_line p_event_line (defScope s_event_line) := ⟨rfl, rfl, rfl, by decide +kernel, rfl, by decide +kernel, by decide +kernel⟩
abbrev n_row_text : List Str := ["row", "event"]
abbrev p_row_text : List Str := ["row"]
theorem sc_row_text : FnScope n_row_text p_row_text (defScope s_row_text) := ⟨rfl, rfl, rfl, by decide +kernel, rfl, by decide +kernel, by decide +kernel⟩
abbrev n_event_in : List Str := ["line", "event"]
abbrev p_event_in : List Str := ["line"]
theorem sc_event_in : FnScope n_event_in p_event_in (defScope s_event_in) := ⟨rfl, rfl, rfl, by decide +kernel, rfl, by decide +kernel, by decide +kernel⟩
abbrev n_read_row : List Str := ["text", "lines", "found", "at", "line", "some"]
abbrev p_read_row : List Str := ["text"]
theorem sc_read_row : FnScope n_read_row p_read_row (defScope s_read_row) := ⟨rfl, rfl, rfl, by decide +kernel, rfl, by decide +kernel, by decide +kernel⟩
abbrev n__law_pot : List Str := ["cell", "salt", "great"]
abbrev p__law_pot : List Str := ["cell", "salt"]
theorem sc__law_pot : FnScope n__law_pot p__law_pot (defScope s__law_pot) := ⟨rfl, rfl, rfl, by decide +kernel, rfl, by decide +kernel, by decide +kernel⟩
abbrev n__law_lot : List Str := ["pot", "many", "found", "deep"]
abbrev p__law_lot : List Str := ["pot", "many"]
theorem sc__law_lot : FnScope n__law_lot p__law_lot (defScope s__law_lot) := ⟨rfl, rfl, rfl, by decide +kernel, rfl, by decide +kernel, by decide +kernel⟩
abbrev n__law_pick : List Str := ["pot", "things"]
abbrev p__law_pick : List Str := ["pot", "things"]
theorem sc__law_pick : FnScope n__law_pick p__law_pick (defScope s__law_pick) := ⟨rfl, rfl, rfl, by decide +kernel, rfl, by decide +kernel, by decide +kernel⟩
abbrev n__law_values : List Str := ["found"]
abbrev p__law_values : List Str := []
theorem sc__law_values : FnScope n__law_values p__law_values (defScope s__law_values) := ⟨rfl, rfl, rfl, by decide +kernel, rfl, by decide +kernel, by decide +kernel⟩
abbrev n__law_rule : List Str := ["pot", "some"]
abbrev p__law_rule : List Str := ["pot"]
theorem sc__law_rule : FnScope n__law_rule p__law_rule (defScope s__law_rule) := ⟨rfl, rfl, rfl, by decide +kernel, rfl, by decide +kernel, by decide +kernel⟩
abbrev n__law_words : List Str := []
abbrev p__law_words : List Str := []
theorem sc__law_words : FnScope n__law_words p__law_words (defScope s__law_words) := ⟨rfl, rfl, rfl, by decide +kernel, rfl, by decide +kernel, by decide +kernel⟩
abbrev n__law_event : List Str := ["pot", "some", "word", "parent"]
abbrev p__law_event : List Str := ["pot"]
theorem sc__law_event : FnScope n__law_event p__law_event (defScope s__law_event) := ⟨rfl, rfl, rfl, by decide +kernel, rfl, by decide +kernel, by decide +kernel⟩
abbrev n__law_row : List Str := ["pot", "most", "turn"]
abbrev p__law_row : List Str := ["pot", "most"]
theorem sc__law_row : FnScope n__law_row p__law_row (defScope s__law_row) := ⟨rfl, rfl, rfl, by decide +kernel, rfl, by decide +kernel, by decide +kernel⟩
abbrev n__law_rule_lines : List Str := ["rule", "names", "found", "at", "word"]
abbrev p__law_rule_lines : List Str := ["rule"]
theorem sc__law_rule_lines : FnScope n__law_rule_lines p__law_rule_lines (defScope s__law_rule_lines) := ⟨rfl, rfl, rfl, by decide +kernel, rfl, by decide +kernel, by decide +kernel⟩
abbrev n__law_event_lines : List Str := ["row", "event", "part"]
abbrev p__law_event_lines : List Str := ["row"]
theorem sc__law_event_lines : FnScope n__law_event_lines p__law_event_lines (defScope s__law_event_lines) := ⟨rfl, rfl, rfl, by decide +kernel, rfl, by decide +kernel, by decide +kernel⟩
abbrev n_law : List Str := ["script", "cell", "pot", "turn", "text", "more", "rule", "row", "one"]
abbrev p_law : List Str := ["script"]
theorem sc_law : FnScope n_law p_law (defScope s_law) := ⟨rfl, rfl, rfl, by decide +kernel, rfl, by decide +kernel, by decide +kernel⟩
/-- what the top has written -/
structure Txt (K : PySem.W.Frag) (mg : Str → Option Value) (a : Ad) : Prop where
  g_is_same : mg "is_same" = some (.ref a.a_is_same)
  k_is_same : PySem.W.keepIn K (.ref a.a_is_same) = true
  t_is_same : Fun K "is_same" "is_same" s_is_same a.a_is_same a.fd_is_same
  d_is_same : Binds K a.fd_is_same ["one", "other"] []
  g_is_rule : mg "is_rule" = some (.ref a.a_is_rule)
  k_is_rule : PySem.W.keepIn K (.ref a.a_is_rule) = true
  t_is_rule : Fun K "is_rule" "is_rule" s_is_rule a.a_is_rule a.fd_is_rule
  d_is_rule : Binds K a.fd_is_rule ["value"] []
  g_is_number : mg "is_number" = some (.ref a.a_is_number)
  k_is_number : PySem.W.keepIn K (.ref a.a_is_number) = true
  t_is_number : Fun K "is_number" "is_number" s_is_number a.a_is_number a.fd_is_number
  d_is_number : Binds K a.fd_is_number ["value", "high"] []
  g_is_word : mg "is_word" = some (.ref a.a_is_word)
  k_is_word : PySem.W.keepIn K (.ref a.a_is_word) = true
  t_is_word : Fun K "is_word" "is_word" s_is_word a.a_is_word a.fd_is_word
  d_is_word : Binds K a.fd_is_word ["value"] []
  g_is_event : mg "is_event" = some (.ref a.a_is_event)
  k_is_event : PySem.W.keepIn K (.ref a.a_is_event) = true
  t_is_event : Fun K "is_event" "is_event" s_is_event a.a_is_event a.fd_is_event
  d_is_event : Binds K a.fd_is_event ["value"] []
  g_are_events : mg "are_events" = some (.ref a.a_are_events)
  k_are_events : PySem.W.keepIn K (.ref a.a_are_events) = true
  t_are_events : Fun K "are_events" "are_events" s_are_events a.a_are_events a.fd_are_events
  d_are_events : Binds K a.fd_are_events ["value"] []
  g_need_rule : mg "need_rule" = some (.ref a.a_need_rule)
  k_need_rule : PySem.W.keepIn K (.ref a.a_need_rule) = true
  t_need_rule : Fun K "need_rule" "need_rule" s_need_rule a.a_need_rule a.fd_need_rule
  d_need_rule : Binds K a.fd_need_rule ["rule"] []
  g_need_row : mg "need_row" = some (.ref a.a_need_row)
  k_need_row : PySem.W.keepIn K (.ref a.a_need_row) = true
  t_need_row : Fun K "need_row" "need_row" s_need_row a.a_need_row a.fd_need_row
  d_need_row : Binds K a.fd_need_row ["row"] []
  g_line_of : mg "line_of" = some (.ref a.a_line_of)
  k_line_of : PySem.W.keepIn K (.ref a.a_line_of) = true
  t_line_of : Fun K "line_of" "line_of" s_line_of a.a_line_of a.fd_line_of
  d_line_of : Binds K a.fd_line_of ["part", "value"] []
  g_rule_lines : mg "rule_lines" = some (.ref a.a_rule_lines)
  k_rule_lines : PySem.W.keepIn K (.ref a.a_rule_lines) = true
  t_rule_lines : Fun K "rule_lines" "rule_lines" s_rule_lines a.a_rule_lines a.fd_rule_lines
  d_rule_lines : Binds K a.fd_rule_lines ["rule"] []
  g_rule_text : mg "rule_text" = some (.ref a.a_rule_text)
  k_rule_text : PySem.W.keepIn K (.ref a.a_rule_text) = true
  t_rule_text : Fun K "rule_text" "rule_text" s_rule_text a.a_rule_text a.fd_rule_text
  d_rule_text : Binds K a.fd_rule_text ["rule"] []
  g_value_in : mg "value_in" = some (.ref a.a_value_in)
  k_value_in : PySem.W.keepIn K (.ref a.a_value_in) = true
  t_value_in : Fun K "value_in" "value_in" s_value_in a.a_value_in a.fd_value_in
  d_value_in : Binds K a.fd_value_in ["at", "line"] []
  g_read_rule : mg "read_rule" = some (.ref a.a_read_rule)
  k_read_rule : PySem.W.keepIn K (.ref a.a_read_rule) = true
  t_read_rule : Fun K "read_rule" "read_rule" s_read_rule a.a_read_rule a.fd_read_rule
  d_read_rule : Binds K a.fd_read_rule ["text"] []
  g_event_line : mg "event_line" = some (.ref a.a_event_line)
  k_event_line : PySem.W.keepIn K (.ref a.a_event_line) = true
  t_event_line : Fun K "event_line" "event_line" s_event_line a.a_event_line a.fd_event_line
  d_event_line : Binds K a.fd_event_line ["event"] []
  g_row_text : mg "row_text" = some (.ref a.a_row_text)
  k_row_text : PySem.W.keepIn K (.ref a.a_row_text) = true
  t_row_text : Fun K "row_text" "row_text" s_row_text a.a_row_text a.fd_row_text
  d_row_text : Binds K a.fd_row_text ["row"] []
  g_event_in : mg "event_in" = some (.ref a.a_event_in)
  k_event_in : PySem.W.keepIn K (.ref a.a_event_in) = true
  t_event_in : Fun K "event_in" "event_in" s_event_in a.a_event_in a.fd_event_in
  d_event_in : Binds K a.fd_event_in ["line"] []
  g_read_row : mg "read_row" = some (.ref a.a_read_row)
  k_read_row : PySem.W.keepIn K (.ref a.a_read_row) = true
  t_read_row : Fun K "read_row" "read_row" s_read_row a.a_read_row a.fd_read_row
  d_read_row : Binds K a.fd_read_row ["text"] []
  g__law_pot : mg "_law_pot" = some (.ref a.a__law_pot)
  k__law_pot : PySem.W.keepIn K (.ref a.a__law_pot) = true
  t__law_pot : Fun K "_law_pot" "_law_pot" s__law_pot a.a__law_pot a.fd__law_pot
  d__law_pot : Binds K a.fd__law_pot ["cell", "salt"] []
  g__law_lot : mg "_law_lot" = some (.ref a.a__law_lot)
  k__law_lot : PySem.W.keepIn K (.ref a.a__law_lot) = true
  t__law_lot : Fun K "_law_lot" "_law_lot" s__law_lot a.a__law_lot a.fd__law_lot
  d__law_lot : Binds K a.fd__law_lot ["pot", "many"] []
  g__law_pick : mg "_law_pick" = some (.ref a.a__law_pick)
  k__law_pick : PySem.W.keepIn K (.ref a.a__law_pick) = true
  t__law_pick : Fun K "_law_pick" "_law_pick" s__law_pick a.a__law_pick a.fd__law_pick
  d__law_pick : Binds K a.fd__law_pick ["pot", "things"] []
  g__law_values : mg "_law_values" = some (.ref a.a__law_values)
  k__law_values : PySem.W.keepIn K (.ref a.a__law_values) = true
  t__law_values : Fun K "_law_values" "_law_values" s__law_values a.a__law_values a.fd__law_values
  d__law_values : Binds K a.fd__law_values [] []
  g__law_rule : mg "_law_rule" = some (.ref a.a__law_rule)
  k__law_rule : PySem.W.keepIn K (.ref a.a__law_rule) = true
  t__law_rule : Fun K "_law_rule" "_law_rule" s__law_rule a.a__law_rule a.fd__law_rule
  d__law_rule : Binds K a.fd__law_rule ["pot"] []
  g__law_words : mg "_law_words" = some (.ref a.a__law_words)
  k__law_words : PySem.W.keepIn K (.ref a.a__law_words) = true
  t__law_words : Fun K "_law_words" "_law_words" s__law_words a.a__law_words a.fd__law_words
  d__law_words : Binds K a.fd__law_words [] []
  g__law_event : mg "_law_event" = some (.ref a.a__law_event)
  k__law_event : PySem.W.keepIn K (.ref a.a__law_event) = true
  t__law_event : Fun K "_law_event" "_law_event" s__law_event a.a__law_event a.fd__law_event
  d__law_event : Binds K a.fd__law_event ["pot"] []
  g__law_row : mg "_law_row" = some (.ref a.a__law_row)
  k__law_row : PySem.W.keepIn K (.ref a.a__law_row) = true
  t__law_row : Fun K "_law_row" "_law_row" s__law_row a.a__law_row a.fd__law_row
  d__law_row : Binds K a.fd__law_row ["pot", "most"] []
  g__law_rule_lines : mg "_law_rule_lines" = some (.ref a.a__law_rule_lines)
  k__law_rule_lines : PySem.W.keepIn K (.ref a.a__law_rule_lines) = true
  t__law_rule_lines : Fun K "_law_rule_lines" "_law_rule_lines" s__law_rule_lines a.a__law_rule_lines a.fd__law_rule_lines
  d__law_rule_lines : Binds K a.fd__law_rule_lines ["rule"] []
  g__law_event_lines : mg "_law_event_lines" = some (.ref a.a__law_event_lines)
  k__law_event_lines : PySem.W.keepIn K (.ref a.a__law_event_lines) = true
  t__law_event_lines : Fun K "_law_event_lines" "_law_event_lines" s__law_event_lines a.a__law_event_lines a.fd__law_event_lines
  d__law_event_lines : Binds K a.fd__law_event_lines ["row"] []
  g_law : mg "law" = some (.ref a.a_law)
  k_law : PySem.W.keepIn K (.ref a.a_law) = true
  t_law : Fun K "law" "law" s_law a.a_law a.fd_law
  d_law : Binds K a.fd_law ["script"] []
  g_FetchError : mg "FetchError" = some (.ref a.cl_FetchError)
  k_FetchError : PySem.W.keepIn K (.ref a.cl_FetchError) = true
  u_FetchError : PySem.W.subIn K (.ref a.cl_FetchError) (.type "BaseException") = some true
  y_FetchError : PySem.W.typeIn K (.ref a.cl_FetchError) = some (.type "type")
  x_FetchError : PySem.W.excIn K a.cl_FetchError [.type "ValueError", .type "Exception", .type "BaseException", .type "object"] "ValueError.__new__" = true
  g_InvalidRule : mg "InvalidRule" = some (.ref a.cl_InvalidRule)
  k_InvalidRule : PySem.W.keepIn K (.ref a.cl_InvalidRule) = true
  u_InvalidRule : PySem.W.subIn K (.ref a.cl_InvalidRule) (.type "BaseException") = some true
  y_InvalidRule : PySem.W.typeIn K (.ref a.cl_InvalidRule) = some (.type "type")
  x_InvalidRule : PySem.W.excIn K a.cl_InvalidRule [.type "ValueError", .type "Exception", .type "BaseException", .type "object"] "ValueError.__new__" = true
  g_InvalidRow : mg "InvalidRow" = some (.ref a.cl_InvalidRow)
  k_InvalidRow : PySem.W.keepIn K (.ref a.cl_InvalidRow) = true
  u_InvalidRow : PySem.W.subIn K (.ref a.cl_InvalidRow) (.type "BaseException") = some true
  y_InvalidRow : PySem.W.typeIn K (.ref a.cl_InvalidRow) = some (.type "type")
  x_InvalidRow : PySem.W.excIn K a.cl_InvalidRow [.type "ValueError", .type "Exception", .type "BaseException", .type "object"] "ValueError.__new__" = true
  e_EVENTS : ∀ {X : Cx} {pos : Pos}, X.K = K → X.mg = mg → Gl X "EVENTS" → SimE a.cl X (.Name "EVENTS" pos) (mK c_EVENTS)
  e_MOST_EVENTS : ∀ {X : Cx} {pos : Pos}, X.K = K → X.mg = mg → Gl X "MOST_EVENTS" → SimE a.cl X (.Name "MOST_EVENTS" pos) (mK c_MOST_EVENTS)
  e_PART_NAMES : ∀ {X : Cx} {pos : Pos}, X.K = K → X.mg = mg → Gl X "PART_NAMES" → SimE a.cl X (.Name "PART_NAMES" pos) (mK c_PART_NAMES)
  e_VALUES : ∀ {X : Cx} {pos : Pos}, X.K = K → X.mg = mg → Gl X "VALUES" → SimE a.cl X (.Name "VALUES" pos) (mK c_VALUES)
  e_WORDS : ∀ {X : Cx} {pos : Pos}, X.K = K → X.mg = mg → Gl X "WORDS" → SimE a.cl X (.Name "WORDS" pos) (mK c_WORDS)
  b_all : mg "all" = none
  b_any : mg "any" = none
  b_bool : mg "bool" = none
  b_enumerate : mg "enumerate" = none
  b_int : mg "int" = none
  b_isinstance : mg "isinstance" = none
  b_len : mg "len" = none
  b_range : mg "range" = none
  b_str : mg "str" = none
  b_tuple : mg "tuple" = none
  b_zip : mg "zip" = none
variable {P : Program} {w : World} {K : PySem.W.Frag} {mg : Str → Option Value} {base : Heap} {a : Ad}
theorem ok_is_same (T : Txt K mg a) : FnOk P w K mg base (L2.CX P w) 1 a.a_is_same a.fd_is_same p_is_same (FSp ⟨P, w, K, a.cl⟩ f_is_same) := by
  refine fn_ok (k := 0) a.cl T.t_is_same sc_is_same rfl rfl (by decide) fun cdv A outer s H E hr => ?_
  have hu := hu_room hr
  exact (sim_seq (sim_ifS (sim_tW (sim_tOrC (sim_tV (e_isBool ⟨by rfl, T.b_isinstance⟩ ⟨by rfl, T.b_bool⟩ (e_P 0 rfl (Or.inl rfl) nm_one)) (fun _ => rfl)) (sim_tOr1 (sim_tV (e_isBool ⟨by rfl, T.b_isinstance⟩ ⟨by rfl, T.b_bool⟩ (e_P 1 rfl (Or.inl rfl) nm_other)) (fun _ => rfl))))) (sim_one (sim_ret (sim_and (e_isBool ⟨by rfl, T.b_isinstance⟩ ⟨by rfl, T.b_bool⟩ (e_P 0 rfl (Or.inl rfl) nm_one)) (sim_and (e_isBool ⟨by rfl, T.b_isinstance⟩ ⟨by rfl, T.b_bool⟩ (e_P 1 rfl (Or.inl rfl) nm_other)) (sim_and1 ((sim_eq hu (e_P 0 rfl (Or.inl rfl) nm_one) (e_P 1 rfl (Or.inl rfl) nm_other))).e))))) sim_pnil)
  (sim_one (sim_ret (sim_and (e_isStr ⟨by rfl, T.b_isinstance⟩ ⟨by rfl, T.b_str⟩ (e_P 0 rfl (Or.inl rfl) nm_one)) (sim_and (e_isStr ⟨by rfl, T.b_isinstance⟩ ⟨by rfl, T.b_str⟩ (e_P 1 rfl (Or.inl rfl) nm_other)) (sim_and1 ((sim_eq hu (e_P 0 rfl (Or.inl rfl) nm_one) (e_P 1 rfl (Or.inl rfl) nm_other))).e))))))
theorem ok_is_rule (T : Txt K mg a) : FnOk P w K mg base (L2.CX P w) 2 a.a_is_rule a.fd_is_rule p_is_rule (FSp ⟨P, w, K, a.cl⟩ f_is_rule) := by
  refine fn_ok (k := 1) a.cl T.t_is_rule sc_is_rule rfl rfl (by decide) fun cdv A outer s H E hr => ?_
  have hu := hu_room hr
  exact (sim_seq (sim_ifS (sim_tW (sim_tOrC (sim_tNot (sim_tV (e_isTup ⟨by rfl, T.b_isinstance⟩ ⟨by rfl, T.b_tuple⟩ (e_P 0 rfl (Or.inl rfl) nm_value)) (fun _ => rfl))) (sim_tOr1 ((sim_ne hu (e_len ⟨by rfl, T.b_len⟩ (e_P 0 rfl (Or.inl rfl) nm_value)) (e_len ⟨by rfl, T.b_len⟩ (T.e_PART_NAMES rfl rfl (by rfl))))).t))) (sim_one (sim_ret (sim_cst (by kernel_rfl)))) sim_pnil)
  (sim_one (sim_ret (e_all ⟨by rfl, T.b_all⟩ rfl (sim_comp (own := [("one", 1), ("some", 2)]) rfl sc_is_rule.nd (i_zip ⟨by rfl, T.b_zip⟩ (e_V 0 rfl (Or.inl rfl) nm_value) (T.e_VALUES rfl rfl (by rfl))) (blkOk_by (by kernel_rfl)) rfl (tg_tup 2 rfl (fun _ _ _ _ _ => pg_tup rfl (pgs_one sc_is_rule.nd rfl (Or.inr rfl) (Or.inl rfl) (pgs_one sc_is_rule.nd rfl (Or.inl rfl) (Or.inr rfl) pgs_nil rfl) rfl) rfl rfl)) (fun _ _ _ _ _ => simTs_nil) (fun _ _ _ _ _ => (e_any ⟨by rfl, T.b_any⟩ rfl (sim_comp (own := [("other", 3)]) rfl sc_is_rule.nd (sim_items (e_V 2 rfl (Or.inl rfl) nm_some)) (blkOk_by (by kernel_rfl)) rfl (tg_one (fun _ _ _ _ _ => pg_name sc_is_rule.nd rfl (Or.inl rfl) (Or.inr rfl))) (fun _ _ _ _ _ => simTs_nil) (fun _ _ _ _ _ => (e_call (ok_is_same T) (hr.mono (by decide)) T.g_is_same T.k_is_same T.d_is_same nm_is_same (a_c (e_V 1 rfl (Or.inr (Or.inl rfl)) nm_one) (a_c (e_V 3 rfl (Or.inl rfl) nm_other) a_n)) (by rfl))) (fun _ => rfl)))) (fun _ => rfl))))))
theorem ok_is_number (T : Txt K mg a) : FnOk P w K mg base (L2.CX P w) 1 a.a_is_number a.fd_is_number p_is_number (FSp ⟨P, w, K, a.cl⟩ f_is_number) := by
  refine fn_ok (k := 0) a.cl T.t_is_number sc_is_number rfl rfl (by decide) fun cdv A outer s H E hr => ?_
  have hu := hu_room hr
  exact (sim_one (sim_ret (sim_and (e_isInt ⟨by rfl, T.b_isinstance⟩ ⟨by rfl, T.b_int⟩ (e_P 0 rfl (Or.inl rfl) nm_value)) (sim_and (sim_not (e_isBool ⟨by rfl, T.b_isinstance⟩ ⟨by rfl, T.b_bool⟩ (e_P 0 rfl (Or.inl rfl) nm_value))) (sim_and1 (sim_lele (sim_cst (by kernel_rfl)) (e_P 0 rfl (Or.inl rfl) nm_value) (e_P 1 rfl (Or.inl rfl) nm_high)))))))
theorem ok_is_word (T : Txt K mg a) : FnOk P w K mg base (L2.CX P w) 1 a.a_is_word a.fd_is_word p_is_word (FSp ⟨P, w, K, a.cl⟩ f_is_word) := by
  refine fn_ok (k := 0) a.cl T.t_is_word sc_is_word rfl rfl (by decide) fun cdv A outer s H E hr => ?_
  have hu := hu_room hr
  exact (sim_one (sim_ret (sim_and (e_isStr ⟨by rfl, T.b_isinstance⟩ ⟨by rfl, T.b_str⟩ (e_P 0 rfl (Or.inl rfl) nm_value)) (sim_and1 ((sim_in hu rfl (e_P 0 rfl (Or.inl rfl) nm_value) (T.e_WORDS rfl rfl (by rfl)))).e))))
theorem ok_is_event (T : Txt K mg a) : FnOk P w K mg base (L2.CX P w) 2 a.a_is_event a.fd_is_event p_is_event (FSp ⟨P, w, K, a.cl⟩ f_is_event) := by
  refine fn_ok (k := 1) a.cl T.t_is_event sc_is_event rfl rfl (by decide) fun cdv A outer s H E hr => ?_
  have hu := hu_room hr
  exact (sim_seq (sim_ifS (sim_tW (sim_tOrC (sim_tNot (sim_tV (e_isTup ⟨by rfl, T.b_isinstance⟩ ⟨by rfl, T.b_tuple⟩ (e_P 0 rfl (Or.inl rfl) nm_value)) (fun _ => rfl))) (sim_tOrC ((sim_eq hu (e_P 0 rfl (Or.inl rfl) nm_value) (sim_cst (by kernel_rfl)))).t (sim_tOr1 (sim_tNot (sim_tV (e_isStr ⟨by rfl, T.b_isinstance⟩ ⟨by rfl, T.b_str⟩ (sim_ix hu (e_P 0 rfl (Or.inl rfl) nm_value) (sim_cst (by kernel_rfl)) (fun _ _ => rfl))) (fun _ => rfl))))))) (sim_one (sim_ret (sim_cst (by kernel_rfl)))) sim_pnil)
  (sim_seq (sim_ifS ((sim_eq hu (sim_ix hu (e_P 0 rfl (Or.inl rfl) nm_value) (sim_cst (by kernel_rfl)) (fun _ _ => rfl)) (sim_cst (by kernel_rfl)))).t (sim_one (sim_ret ((sim_eq hu (e_len ⟨by rfl, T.b_len⟩ (e_P 0 rfl (Or.inl rfl) nm_value)) (sim_cst (by kernel_rfl)))).e)) sim_pnil)
  (sim_seq (sim_ifS ((sim_eq hu (sim_ix hu (e_P 0 rfl (Or.inl rfl) nm_value) (sim_cst (by kernel_rfl)) (fun _ _ => rfl)) (sim_cst (by kernel_rfl)))).t (sim_one (sim_ret (sim_and ((sim_eq hu (e_len ⟨by rfl, T.b_len⟩ (e_P 0 rfl (Or.inl rfl) nm_value)) (sim_cst (by kernel_rfl)))).e (sim_and (e_call (ok_is_number T) (hr.mono (by decide)) T.g_is_number T.k_is_number T.d_is_number nm_is_number (a_c (sim_ix hu (e_P 0 rfl (Or.inl rfl) nm_value) (sim_cst (by kernel_rfl)) (fun _ _ => rfl)) (a_c (sim_cst (by kernel_rfl)) a_n)) (by rfl)) (sim_and1 (e_call (ok_is_word T) (hr.mono (by decide)) T.g_is_word T.k_is_word T.d_is_word nm_is_word (a_c (sim_ix hu (e_P 0 rfl (Or.inl rfl) nm_value) (sim_cst (by kernel_rfl)) (fun _ _ => rfl)) a_n) (by rfl))))))) sim_pnil)
  (sim_seq (sim_ifS ((sim_eq hu (sim_ix hu (e_P 0 rfl (Or.inl rfl) nm_value) (sim_cst (by kernel_rfl)) (fun _ _ => rfl)) (sim_cst (by kernel_rfl)))).t (sim_one (sim_ret (sim_and ((sim_eq hu (e_len ⟨by rfl, T.b_len⟩ (e_P 0 rfl (Or.inl rfl) nm_value)) (sim_cst (by kernel_rfl)))).e (sim_and1 (e_call (ok_is_number T) (hr.mono (by decide)) T.g_is_number T.k_is_number T.d_is_number nm_is_number (a_c (sim_ix hu (e_P 0 rfl (Or.inl rfl) nm_value) (sim_cst (by kernel_rfl)) (fun _ _ => rfl)) (a_c (sim_cst (by kernel_rfl)) a_n)) (by rfl)))))) sim_pnil)
  (sim_one (sim_ret (sim_and ((sim_in hu rfl (sim_ix hu (e_P 0 rfl (Or.inl rfl) nm_value) (sim_cst (by kernel_rfl)) (fun _ _ => rfl)) (sim_cst (by kernel_rfl)))).e (sim_and ((sim_eq hu (e_len ⟨by rfl, T.b_len⟩ (e_P 0 rfl (Or.inl rfl) nm_value)) (sim_cst (by kernel_rfl)))).e (sim_and1 (e_call (ok_is_number T) (hr.mono (by decide)) T.g_is_number T.k_is_number T.d_is_number nm_is_number (a_c (sim_ix hu (e_P 0 rfl (Or.inl rfl) nm_value) (sim_cst (by kernel_rfl)) (fun _ _ => rfl)) (a_c (sim_cst (by kernel_rfl)) a_n)) (by rfl)))))))))))
theorem ok_are_events (T : Txt K mg a) : FnOk P w K mg base (L2.CX P w) 3 a.a_are_events a.fd_are_events p_are_events (FSp ⟨P, w, K, a.cl⟩ f_are_events) := by
  refine fn_ok (k := 2) a.cl T.t_are_events sc_are_events rfl rfl (by decide) fun cdv A outer s H E hr => ?_
  have hu := hu_room hr
  exact (sim_one (sim_ret (sim_and (e_isTup ⟨by rfl, T.b_isinstance⟩ ⟨by rfl, T.b_tuple⟩ (e_P 0 rfl (Or.inl rfl) nm_value)) (sim_and ((sim_le (e_len ⟨by rfl, T.b_len⟩ (e_P 0 rfl (Or.inl rfl) nm_value)) (T.e_MOST_EVENTS rfl rfl (by rfl)))).e (sim_and1 (e_all ⟨by rfl, T.b_all⟩ rfl (sim_comp (own := [("event", 1)]) rfl sc_are_events.nd (sim_items (e_V 0 rfl (Or.inl rfl) nm_value)) (blkOk_by (by kernel_rfl)) rfl (tg_one (fun _ _ _ _ _ => pg_name sc_are_events.nd rfl (Or.inl rfl) (Or.inr rfl))) (fun _ _ _ _ _ => simTs_nil) (fun _ _ _ _ _ => (e_call (ok_is_event T) (hr.mono (by decide)) T.g_is_event T.k_is_event T.d_is_event nm_is_event (a_c (e_V 1 rfl (Or.inl rfl) nm_event) a_n) (by rfl))) (fun _ => rfl))))))))
theorem ok_need_rule (T : Txt K mg a) : FnOk P w K mg base (L2.CX P w) 3 a.a_need_rule a.fd_need_rule p_need_rule (FSp ⟨P, w, K, a.cl⟩ f_need_rule) := by
  refine fn_ok (k := 2) a.cl T.t_need_rule sc_need_rule rfl rfl (by decide) fun cdv A outer s H E hr => ?_
  have hu := hu_room hr
  exact (sim_one (sim_ifS (sim_tNot (sim_tV (e_call (ok_is_rule T) (hr.mono (by decide)) T.g_is_rule T.k_is_rule T.d_is_rule nm_is_rule (a_c (e_P 0 rfl (Or.inl rfl) nm_rule) a_n) (by rfl)) (fun _ => rfl))) (sim_one (sim_raise rfl (pmk_own PySem.F.excBase_ValueError T.x_InvalidRule T.g_InvalidRule T.k_InvalidRule (raises_own T.u_InvalidRule T.y_InvalidRule) (by rfl) nm_InvalidRule.d))) sim_pnil))
theorem ok_need_row (T : Txt K mg a) : FnOk P w K mg base (L2.CX P w) 4 a.a_need_row a.fd_need_row p_need_row (FSp ⟨P, w, K, a.cl⟩ f_need_row) := by
  refine fn_ok (k := 3) a.cl T.t_need_row sc_need_row rfl rfl (by decide) fun cdv A outer s H E hr => ?_
  have hu := hu_room hr
  exact (sim_one (sim_ifS (sim_tNot (sim_tV (e_call (ok_are_events T) (hr.mono (by decide)) T.g_are_events T.k_are_events T.d_are_events nm_are_events (a_c (e_P 0 rfl (Or.inl rfl) nm_row) a_n) (by rfl)) (fun _ => rfl))) (sim_one (sim_raise rfl (pmk_own PySem.F.excBase_ValueError T.x_InvalidRow T.g_InvalidRow T.k_InvalidRow (raises_own T.u_InvalidRow T.y_InvalidRow) (by rfl) nm_InvalidRow.d))) sim_pnil))
theorem ok_line_of (T : Txt K mg a) : FnOk P w K mg base (L2.CX P w) 1 a.a_line_of a.fd_line_of p_line_of (FSp ⟨P, w, K, a.cl⟩ f_line_of) := by
  refine fn_ok (k := 0) a.cl T.t_line_of sc_line_of rfl rfl (by decide) fun cdv A outer s H E hr => ?_
  have hu := hu_room hr
  exact (sim_seq (sim_ifS (sim_tV (e_isBool ⟨by rfl, T.b_isinstance⟩ ⟨by rfl, T.b_bool⟩ (e_P 1 rfl (Or.inl rfl) nm_value)) (fun _ => rfl)) (sim_one (sim_ret (sim_add (e_P 0 rfl (Or.inl rfl) nm_part) (sim_if (sim_tV (e_P 1 rfl (Or.inl rfl) nm_value) (fun _ => rfl)) (sim_cst (by kernel_rfl)) (sim_cst (by kernel_rfl)))))) sim_pnil)
  (sim_one (sim_ret (sim_add (sim_add (e_P 0 rfl (Or.inl rfl) nm_part) (sim_cst (by kernel_rfl))) (e_P 1 rfl (Or.inl rfl) nm_value)))))
theorem ok_rule_lines (T : Txt K mg a) : FnOk P w K mg base (L2.CX P w) 2 a.a_rule_lines a.fd_rule_lines p_rule_lines (FSp ⟨P, w, K, a.cl⟩ f_rule_lines) := by
  refine fn_ok (k := 1) a.cl T.t_rule_lines sc_rule_lines rfl rfl (by decide) fun cdv A outer s H E hr => ?_
  have hu := hu_room hr
  exact (sim_one (sim_ret (sim_comp (own := [("part", 1), ("value", 2)]) rfl sc_rule_lines.nd (i_zip ⟨by rfl, T.b_zip⟩ (T.e_PART_NAMES rfl rfl (by rfl)) (e_V 0 rfl (Or.inl rfl) nm_rule)) (blkOk_by (by kernel_rfl)) rfl (tg_tup 2 rfl (fun _ _ _ _ _ => pg_tup rfl (pgs_one sc_rule_lines.nd rfl (Or.inl rfl) (Or.inr rfl) (pgs_one sc_rule_lines.nd rfl (Or.inl rfl) (Or.inr rfl) pgs_nil rfl) rfl) rfl rfl)) (fun _ _ _ _ _ => simTs_nil) (fun _ _ _ _ _ => (e_call (ok_line_of T) (hr.mono (by decide)) T.g_line_of T.k_line_of T.d_line_of nm_line_of (a_c (e_V 1 rfl (Or.inl rfl) nm_part) (a_c (e_V 2 rfl (Or.inl rfl) nm_value) a_n)) (by rfl))) (fun _ => rfl))))
theorem ok_rule_text (T : Txt K mg a) : FnOk P w K mg base (L2.CX P w) 4 a.a_rule_text a.fd_rule_text p_rule_text (FSp ⟨P, w, K, a.cl⟩ f_rule_text) := by
  refine fn_ok (k := 3) a.cl T.t_rule_text sc_rule_text rfl rfl (by decide) fun cdv A outer s H E hr => ?_
  have hu := hu_room hr
  exact (sim_seq (sim_drop (e_call (ok_need_rule T) (hr.mono (by decide)) T.g_need_rule T.k_need_rule T.d_need_rule nm_need_rule (a_c (e_P 0 rfl (Or.inl rfl) nm_rule) a_n) (by rfl)) rfl)
  (sim_one (sim_ret (e_join (sim_cst (by kernel_rfl)) (e_call (ok_rule_lines T) (hr.mono (by decide)) T.g_rule_lines T.k_rule_lines T.d_rule_lines nm_rule_lines (a_c (e_P 0 rfl (Or.inl rfl) nm_rule) a_n) (by rfl))))))
theorem ok_value_in (T : Txt K mg a) : FnOk P w K mg base (L2.CX P w) 2 a.a_value_in a.fd_value_in p_value_in (FSp ⟨P, w, K, a.cl⟩ f_value_in) := by
  refine fn_ok (k := 1) a.cl T.t_value_in sc_value_in rfl rfl (by decide) fun cdv A outer s H E hr => ?_
  have hu := hu_room hr
  exact (sim_seq (sim_ifS ((sim_ge (e_P 0 rfl (Or.inr (Or.inl rfl)) nm_at) (e_len ⟨by rfl, T.b_len⟩ (T.e_PART_NAMES rfl rfl (by rfl))))).t (sim_one (sim_ret (sim_lst (sim_cstL (by kernel_rfl))))) sim_pnil)
  (sim_one (sim_ret (sim_comp (own := [("value", 2)]) rfl sc_value_in.nd (sim_items (sim_ix hu (T.e_VALUES rfl rfl (by rfl)) (e_P 0 rfl (Or.inr (Or.inl rfl)) nm_at) (fun _ _ => rfl))) (blkOk_by (by kernel_rfl)) rfl (tg_one (fun _ _ _ _ _ => pg_name sc_value_in.nd rfl (Or.inl rfl) (Or.inr rfl))) (fun _ _ _ _ _ => (simTs_one ((sim_eq hu (e_call (ok_line_of T) (hr.mono (by decide)) T.g_line_of T.k_line_of T.d_line_of nm_line_of (a_c (sim_ix hu (T.e_PART_NAMES rfl rfl (by rfl)) (e_P 0 rfl (Or.inr (Or.inl rfl)) nm_at) (fun _ _ => rfl)) (a_c (e_V 2 rfl (Or.inl rfl) nm_value) a_n)) (by rfl)) (e_P 1 rfl (Or.inr (Or.inl rfl)) nm_line))).t)) (fun _ _ _ _ _ => (e_V 2 rfl (Or.inl rfl) nm_value)) (fun _ => rfl)))))
theorem ok_read_rule (T : Txt K mg a) : FnOk P w K mg base (L2.CX P w) 3 a.a_read_rule a.fd_read_rule p_read_rule (FSp ⟨P, w, K, a.cl⟩ f_read_rule) := by
  refine fn_ok (k := 2) a.cl T.t_read_rule sc_read_rule rfl rfl (by decide) fun cdv A outer s H E hr => ?_
  have hu := hu_room hr
  exact (sim_seq (sim_ifS (sim_tNot (sim_tV (e_isStr ⟨by rfl, T.b_isinstance⟩ ⟨by rfl, T.b_str⟩ (e_P 0 rfl (Or.inl rfl) nm_text)) (fun _ => rfl))) (sim_one sim_no) sim_pnil)
  (sim_seq (sim_par rfl sc_read_rule.nd rfl rfl (by decide) rfl rfl (a_c (e_split (e_P 0 rfl (Or.inl rfl) nm_text) (sim_cst (by kernel_rfl))) (a_c (sim_cst (by kernel_rfl)) a_n)) rfl rfl)
  (sim_seq (sim_for (passes_of rfl) rfl (i_enum ⟨by rfl, T.b_enumerate⟩ (e_V 1 rfl (Or.inl rfl) nm_lines)) (simG_tup rfl (pgs_one sc_read_rule.nd rfl (Or.inl rfl) (Or.inl rfl) (pgs_one sc_read_rule.nd rfl (Or.inl rfl) (Or.inl rfl) pgs_nil rfl) rfl) rfl rfl rfl rfl) (sim_seq (sim_set sc_read_rule.nd rfl (Or.inl rfl) (e_call (ok_value_in T) (hr.mono (by decide)) T.g_value_in T.k_value_in T.d_value_in nm_value_in (a_c (e_V 3 rfl (Or.inl rfl) nm_at) (a_c (e_V 4 rfl (Or.inl rfl) nm_line) a_n)) (by rfl)) rfl (Or.inl rfl))
  (sim_seq (sim_ifS ((sim_eq hu (e_P 5 rfl (Or.inl rfl) nm_some) (sim_lst (sim_cstL (by kernel_rfl))))).t (sim_one sim_no) sim_pnil)
  (sim_one (sim_set sc_read_rule.nd rfl (Or.inl rfl) (sim_add (e_P 2 rfl (Or.inl rfl) nm_found) (sim_tup (a_c (sim_ix hu (e_P 5 rfl (Or.inl rfl) nm_some) (sim_cst (by kernel_rfl)) (fun _ _ => rfl)) a_n))) rfl (Or.inl rfl))))) (fun _ => rfl))
  (sim_seq (sim_ifS (sim_tNot (sim_tV (e_call (ok_is_rule T) (hr.mono (by decide)) T.g_is_rule T.k_is_rule T.d_is_rule nm_is_rule (a_c (e_V 2 rfl (Or.inl rfl) nm_found) a_n) (by rfl)) (fun _ => rfl))) (sim_one sim_no) sim_pnil)
  (sim_one (sim_ret (e_M 2 rfl (Or.inl rfl) nm_found)))))))
theorem ok_event_line (T : Txt K mg a) : FnOk P w K mg base (L2.CX P w) 1 a.a_event_line a.fd_event_line p_event_line (FSp ⟨P, w, K, a.cl⟩ f_event_line) := by
  refine fn_ok (k := 0) a.cl T.t_event_line sc_event_line rfl rfl (by decide) fun cdv A outer s H E hr => ?_
  have hu := hu_room hr
  exact (sim_one (sim_ret (e_join (sim_cst (by kernel_rfl)) (sim_comp (own := [("part", 1)]) rfl sc_event_line.nd (sim_items (e_V 0 rfl (Or.inl rfl) nm_event)) (blkOk_by (by kernel_rfl)) rfl (tg_one (fun _ _ _ _ _ => pg_name sc_event_line.nd rfl (Or.inl rfl) (Or.inr rfl))) (fun _ _ _ _ _ => simTs_nil) (fun _ _ _ _ _ => (e_str ⟨by rfl, T.b_str⟩ (e_P 1 rfl (Or.inl rfl) nm_part))) (fun _ => rfl)))))
theorem ok_row_text (T : Txt K mg a) : FnOk P w K mg base (L2.CX P w) 5 a.a_row_text a.fd_row_text p_row_text (FSp ⟨P, w, K, a.cl⟩ f_row_text) := by
  refine fn_ok (k := 4) a.cl T.t_row_text sc_row_text rfl rfl (by decide) fun cdv A outer s H E hr => ?_
  have hu := hu_room hr
  exact (sim_seq (sim_drop (e_call (ok_need_row T) (hr.mono (by decide)) T.g_need_row T.k_need_row T.d_need_row nm_need_row (a_c (e_P 0 rfl (Or.inl rfl) nm_row) a_n) (by rfl)) rfl)
  (sim_one (sim_ret (e_join (sim_cst (by kernel_rfl)) (sim_comp (own := [("event", 1)]) rfl sc_row_text.nd (sim_items (e_V 0 rfl (Or.inl rfl) nm_row)) (blkOk_by (by kernel_rfl)) rfl (tg_one (fun _ _ _ _ _ => pg_name sc_row_text.nd rfl (Or.inl rfl) (Or.inr rfl))) (fun _ _ _ _ _ => simTs_nil) (fun _ _ _ _ _ => (e_call (ok_event_line T) (hr.mono (by decide)) T.g_event_line T.k_event_line T.d_event_line nm_event_line (a_c (e_V 1 rfl (Or.inl rfl) nm_event) a_n) (by rfl))) (fun _ => rfl))))))
theorem ok_event_in (T : Txt K mg a) : FnOk P w K mg base (L2.CX P w) 2 a.a_event_in a.fd_event_in p_event_in (FSp ⟨P, w, K, a.cl⟩ f_event_in) := by
  refine fn_ok (k := 1) a.cl T.t_event_in sc_event_in rfl rfl (by decide) fun cdv A outer s H E hr => ?_
  have hu := hu_room hr
  exact (sim_one (sim_ret (sim_comp (own := [("event", 1)]) rfl sc_event_in.nd (sim_items (T.e_EVENTS rfl rfl (by rfl))) (blkOk_by (by kernel_rfl)) rfl (tg_one (fun _ _ _ _ _ => pg_name sc_event_in.nd rfl (Or.inl rfl) (Or.inr rfl))) (fun _ _ _ _ _ => (simTs_one ((sim_eq hu (e_call (ok_event_line T) (hr.mono (by decide)) T.g_event_line T.k_event_line T.d_event_line nm_event_line (a_c (e_V 1 rfl (Or.inl rfl) nm_event) a_n) (by rfl)) (e_P 0 rfl (Or.inr (Or.inl rfl)) nm_line))).t)) (fun _ _ _ _ _ => (e_V 1 rfl (Or.inl rfl) nm_event)) (fun _ => rfl))))
theorem ok_read_row (T : Txt K mg a) : FnOk P w K mg base (L2.CX P w) 4 a.a_read_row a.fd_read_row p_read_row (FSp ⟨P, w, K, a.cl⟩ f_read_row) := by
  refine fn_ok (k := 3) a.cl T.t_read_row sc_read_row rfl rfl (by decide) fun cdv A outer s H E hr => ?_
  have hu := hu_room hr
  exact (sim_seq (sim_ifS (sim_tNot (sim_tV (e_isStr ⟨by rfl, T.b_isinstance⟩ ⟨by rfl, T.b_str⟩ (e_P 0 rfl (Or.inl rfl) nm_text)) (fun _ => rfl))) (sim_one sim_no) sim_pnil)
  (sim_seq (sim_par rfl sc_read_row.nd rfl rfl (by decide) rfl rfl (a_c (sim_if ((sim_ne hu (e_P 0 rfl (Or.inl rfl) nm_text) (sim_cst (by kernel_rfl)))).t (e_split (e_P 0 rfl (Or.inl rfl) nm_text) (sim_cst (by kernel_rfl))) (sim_lst (sim_cstL (by kernel_rfl)))) (a_c (sim_cst (by kernel_rfl)) a_n)) rfl rfl)
  (sim_seq (sim_for (passes_of rfl) rfl (i_enum ⟨by rfl, T.b_enumerate⟩ (e_V 1 rfl (Or.inl rfl) nm_lines)) (simG_tup rfl (pgs_one sc_read_row.nd rfl (Or.inl rfl) (Or.inl rfl) (pgs_one sc_read_row.nd rfl (Or.inl rfl) (Or.inl rfl) pgs_nil rfl) rfl) rfl rfl rfl rfl) (sim_seq (sim_set sc_read_row.nd rfl (Or.inl rfl) (e_call (ok_event_in T) (hr.mono (by decide)) T.g_event_in T.k_event_in T.d_event_in nm_event_in (a_c (e_V 4 rfl (Or.inl rfl) nm_line) a_n) (by rfl)) rfl (Or.inl rfl))
  (sim_seq (sim_ifS ((sim_eq hu (e_P 5 rfl (Or.inl rfl) nm_some) (sim_lst (sim_cstL (by kernel_rfl))))).t (sim_one sim_no) sim_pnil)
  (sim_one (sim_set sc_read_row.nd rfl (Or.inl rfl) (sim_add (e_P 2 rfl (Or.inl rfl) nm_found) (sim_tup (a_c (sim_ix hu (e_P 5 rfl (Or.inl rfl) nm_some) (sim_cst (by kernel_rfl)) (fun _ _ => rfl)) a_n))) rfl (Or.inl rfl))))) (fun _ => rfl))
  (sim_seq (sim_ifS (sim_tNot (sim_tV (e_call (ok_are_events T) (hr.mono (by decide)) T.g_are_events T.k_are_events T.d_are_events nm_are_events (a_c (e_V 2 rfl (Or.inl rfl) nm_found) a_n) (by rfl)) (fun _ => rfl))) (sim_one sim_no) sim_pnil)
  (sim_one (sim_ret (e_M 2 rfl (Or.inl rfl) nm_found)))))))
theorem ok__law_pot (T : Txt K mg a) : FnOk P w K mg base (L2.CX P w) 1 a.a__law_pot a.fd__law_pot p__law_pot (FSp ⟨P, w, K, a.cl⟩ f__law_pot) := by
  refine fn_ok (k := 0) a.cl T.t__law_pot sc__law_pot rfl rfl (by decide) fun cdv A outer s H E hr => ?_
  have hu := hu_room hr
  exact (sim_seq (sim_set sc__law_pot.nd rfl (Or.inl rfl) (sim_if ((sim_ge (e_P 0 rfl (Or.inl rfl) nm_cell) (sim_pow (sim_cst (by kernel_rfl)) (sim_cst (by kernel_rfl))))).t (sim_add (sim_fdiv (e_P 0 rfl (Or.inl rfl) nm_cell) (sim_cst (by kernel_rfl))) (e_P 1 rfl (Or.inl rfl) nm_salt)) (sim_cst (by kernel_rfl))) rfl (Or.inl rfl))
  (sim_one (sim_ret (sim_lst (a_c (e_V 2 rfl (Or.inl rfl) nm_great) (a_c (sim_add (sim_mod (e_int ⟨by rfl, T.b_int⟩ (sim_add (sim_mul (e_P 0 rfl (Or.inl rfl) nm_cell) (sim_cst (by kernel_rfl))) (sim_mul (sim_cst (by kernel_rfl)) (e_P 1 rfl (Or.inl rfl) nm_salt)))) (sim_cst (by kernel_rfl))) (sim_cst (by kernel_rfl))) a_n))))))
theorem ok__law_lot (T : Txt K mg a) : FnOk P w K mg base (L2.CX P w) 1 a.a__law_lot a.fd__law_lot p__law_lot (FSp ⟨P, w, K, a.cl⟩ f__law_lot) := by
  refine fn_ok (k := 0) a.cl T.t__law_lot sc__law_lot rfl rfl (by decide) fun cdv A outer s H E hr => ?_
  have hu := hu_room hr
  exact (sim_seq (sim_ifS ((sim_gt (sim_ix hu (e_P 0 rfl (Or.inl rfl) nm_pot) (sim_cst (by kernel_rfl)) (fun _ _ => rfl)) (sim_cst (by kernel_rfl)))).t (sim_seq (sim_set sc__law_lot.nd rfl (Or.inl rfl) (sim_mod (e_int ⟨by rfl, T.b_int⟩ (sim_ix hu (e_P 0 rfl (Or.inl rfl) nm_pot) (sim_cst (by kernel_rfl)) (fun _ _ => rfl))) (e_P 1 rfl (Or.inl rfl) nm_many)) rfl (Or.inl rfl))
  (sim_seq (sim_ixset hu rfl (Or.inl rfl) nm_pot.d nm_pot.c (sim_fdiv (sim_ix hu (e_P 0 rfl (Or.inl rfl) nm_pot) (sim_cst (by kernel_rfl)) (fun _ _ => rfl)) (e_P 1 rfl (Or.inl rfl) nm_many)) (sim_cst (by kernel_rfl)) rfl rfl rfl (fun _ => rfl))
  (sim_one (sim_ret (e_M 2 rfl (Or.inl rfl) nm_found))))) sim_pnil)
  (sim_seq (sim_ixset hu rfl (Or.inl rfl) nm_pot.d nm_pot.c (sim_mod (e_int ⟨by rfl, T.b_int⟩ (sim_add (sim_mul (sim_ix hu (e_P 0 rfl (Or.inl rfl) nm_pot) (sim_cst (by kernel_rfl)) (fun _ _ => rfl)) (sim_cst (by kernel_rfl))) (sim_cst (by kernel_rfl)))) (sim_cst (by kernel_rfl))) (sim_cst (by kernel_rfl)) rfl rfl rfl (fun _ => rfl))
  (sim_seq (sim_set sc__law_lot.nd rfl (Or.inl rfl) (sim_mod (e_int ⟨by rfl, T.b_int⟩ (sim_mul (sim_ix hu (e_P 0 rfl (Or.inl rfl) nm_pot) (sim_cst (by kernel_rfl)) (fun _ _ => rfl)) (sim_add (sim_ix hu (e_P 0 rfl (Or.inl rfl) nm_pot) (sim_cst (by kernel_rfl)) (fun _ _ => rfl)) (sim_cst (by kernel_rfl))))) (sim_cst (by kernel_rfl))) rfl (Or.inl rfl))
  (sim_one (sim_ret (sim_mod (e_int ⟨by rfl, T.b_int⟩ (sim_fdiv (e_P 3 rfl (Or.inl rfl) nm_deep) (sim_cst (by kernel_rfl)))) (e_P 1 rfl (Or.inl rfl) nm_many)))))))
theorem ok__law_pick (T : Txt K mg a) : FnOk P w K mg base (L2.CX P w) 2 a.a__law_pick a.fd__law_pick p__law_pick (FSp ⟨P, w, K, a.cl⟩ f__law_pick) := by
  refine fn_ok (k := 1) a.cl T.t__law_pick sc__law_pick rfl rfl (by decide) fun cdv A outer s H E hr => ?_
  have hu := hu_room hr
  exact (sim_one (sim_ret (sim_ix hu (e_P 1 rfl (Or.inl rfl) nm_things) (e_call (ok__law_lot T) (hr.mono (by decide)) T.g__law_lot T.k__law_lot T.d__law_lot nm__law_lot (a_c (e_P 0 rfl (Or.inl rfl) nm_pot) (a_c (e_len ⟨by rfl, T.b_len⟩ (e_P 1 rfl (Or.inl rfl) nm_things)) a_n)) (by rfl)) (fun _ _ => rfl))))
theorem ok__law_values (T : Txt K mg a) : FnOk P w K mg base (L2.CX P w) 1 a.a__law_values a.fd__law_values p__law_values (FSp ⟨P, w, K, a.cl⟩ f__law_values) := by
  refine fn_ok (k := 0) a.cl T.t__law_values sc__law_values rfl rfl (by decide) fun cdv A outer s H E hr => ?_
  have hu := hu_room hr
  exact (sim_seq (sim_set sc__law_values.nd rfl (Or.inl rfl) (sim_lst (a_c (sim_lst (sim_cstL (by kernel_rfl))) (a_c (sim_lst (sim_cstL (by kernel_rfl))) (a_c (sim_lst (sim_cstL (by kernel_rfl))) (a_c (sim_lst (sim_cstL (by kernel_rfl))) (a_c (sim_lst (sim_cstL (by kernel_rfl))) a_n)))))) rfl (Or.inl rfl))
  (sim_one (sim_ret (sim_add (e_P 0 rfl (Or.inl rfl) nm_found) (sim_lst (a_c (sim_lst (sim_cstL (by kernel_rfl))) (a_c (sim_lst (sim_cstL (by kernel_rfl))) a_n)))))))
theorem ok__law_rule (T : Txt K mg a) : FnOk P w K mg base (L2.CX P w) 3 a.a__law_rule a.fd__law_rule p__law_rule (FSp ⟨P, w, K, a.cl⟩ f__law_rule) := by
  refine fn_ok (k := 2) a.cl T.t__law_rule sc__law_rule rfl rfl (by decide) fun cdv A outer s H E hr => ?_
  have hu := hu_room hr
  exact (sim_one (sim_ret (e_tuple ⟨by rfl, T.b_tuple⟩ (sim_comp (own := [("some", 1)]) rfl sc__law_rule.nd (sim_items (e_call0 (ok__law_values T) (hr.mono (by decide)) T.g__law_values T.k__law_values T.d__law_values nm__law_values  (by rfl))) (blkOk_by (by kernel_rfl)) rfl (tg_one (fun _ _ _ _ _ => pg_name sc__law_rule.nd rfl (Or.inl rfl) (Or.inr rfl))) (fun _ _ _ _ _ => simTs_nil) (fun _ _ _ _ _ => (e_call (ok__law_pick T) (hr.mono (by decide)) T.g__law_pick T.k__law_pick T.d__law_pick nm__law_pick (a_c (e_P 0 rfl (Or.inr (Or.inl rfl)) nm_pot) (a_c (e_V 1 rfl (Or.inl rfl) nm_some) a_n)) (by rfl))) (fun _ => rfl)))))
theorem ok__law_words (T : Txt K mg a) : FnOk P w K mg base (L2.CX P w) 1 a.a__law_words a.fd__law_words p__law_words (FSp ⟨P, w, K, a.cl⟩ f__law_words) := by
  refine fn_ok (k := 0) a.cl T.t__law_words sc__law_words rfl rfl (by decide) fun cdv A outer s H E hr => ?_
  have hu := hu_room hr
  exact (sim_one (sim_ret (sim_lst (sim_cstL (by kernel_rfl)))))
theorem ok__law_event (T : Txt K mg a) : FnOk P w K mg base (L2.CX P w) 3 a.a__law_event a.fd__law_event p__law_event (FSp ⟨P, w, K, a.cl⟩ f__law_event) := by
  refine fn_ok (k := 2) a.cl T.t__law_event sc__law_event rfl rfl (by decide) fun cdv A outer s H E hr => ?_
  have hu := hu_room hr
  exact (sim_seq (sim_set sc__law_event.nd rfl (Or.inl rfl) (sim_lst (sim_cstL (by kernel_rfl))) rfl (Or.inl rfl))
  (sim_seq (sim_set sc__law_event.nd rfl (Or.inl rfl) (e_call (ok__law_pick T) (hr.mono (by decide)) T.g__law_pick T.k__law_pick T.d__law_pick nm__law_pick (a_c (e_P 0 rfl (Or.inl rfl) nm_pot) (a_c (e_V 1 rfl (Or.inl rfl) nm_some) a_n)) (by rfl)) rfl (Or.inl rfl))
  (sim_seq (sim_ifS ((sim_eq hu (e_P 2 rfl (Or.inl rfl) nm_word) (sim_cst (by kernel_rfl)))).t (sim_one (sim_ret (sim_tp (a_c (e_M 2 rfl (Or.inl rfl) nm_word) a_n)))) sim_pnil)
  (sim_seq (sim_ifS ((sim_eq hu (e_P 2 rfl (Or.inl rfl) nm_word) (sim_cst (by kernel_rfl)))).t (sim_one (sim_ret (sim_tp (a_c (e_M 2 rfl (Or.inl rfl) nm_word) (a_c (e_call (ok__law_pick T) (hr.mono (by decide)) T.g__law_pick T.k__law_pick T.d__law_pick nm__law_pick (a_c (e_P 0 rfl (Or.inl rfl) nm_pot) (a_c (sim_lst (sim_cstL (by kernel_rfl))) a_n)) (by rfl)) a_n))))) sim_pnil)
  (sim_seq (sim_set sc__law_event.nd rfl (Or.inl rfl) (e_call (ok__law_lot T) (hr.mono (by decide)) T.g__law_lot T.k__law_lot T.d__law_lot nm__law_lot (a_c (e_P 0 rfl (Or.inl rfl) nm_pot) (a_c (sim_cst (by kernel_rfl)) a_n)) (by rfl)) rfl (Or.inl rfl))
  (sim_one (sim_ret (sim_if ((sim_eq hu (e_P 2 rfl (Or.inl rfl) nm_word) (sim_cst (by kernel_rfl)))).t (sim_tp (a_c (e_M 2 rfl (Or.inl rfl) nm_word) (a_c (e_M 3 rfl (Or.inl rfl) nm_parent) (a_c (e_call (ok__law_pick T) (hr.mono (by decide)) T.g__law_pick T.k__law_pick T.d__law_pick nm__law_pick (a_c (e_P 0 rfl (Or.inl rfl) nm_pot) (a_c (sim_add (e_call0 (ok__law_words T) (hr.mono (by decide)) T.g__law_words T.k__law_words T.d__law_words nm__law_words  (by rfl)) (sim_lst (sim_cstL (by kernel_rfl)))) a_n)) (by rfl)) a_n)))) (sim_tp (a_c (e_M 2 rfl (Or.inl rfl) nm_word) (a_c (e_M 3 rfl (Or.inl rfl) nm_parent) a_n)))))))))))
theorem ok__law_row (T : Txt K mg a) : FnOk P w K mg base (L2.CX P w) 4 a.a__law_row a.fd__law_row p__law_row (FSp ⟨P, w, K, a.cl⟩ f__law_row) := by
  refine fn_ok (k := 3) a.cl T.t__law_row sc__law_row rfl rfl (by decide) fun cdv A outer s H E hr => ?_
  have hu := hu_room hr
  exact (sim_one (sim_ret (e_tuple ⟨by rfl, T.b_tuple⟩ (sim_comp (own := [("turn", 2)]) rfl sc__law_row.nd (i_range ⟨by rfl, T.b_range⟩ (e_call (ok__law_lot T) (hr.mono (by decide)) T.g__law_lot T.k__law_lot T.d__law_lot nm__law_lot (a_c (e_P 0 rfl (Or.inr (Or.inl rfl)) nm_pot) (a_c (sim_add (e_P 1 rfl (Or.inl rfl) nm_most) (sim_cst (by kernel_rfl))) a_n)) (by rfl))) (blkOk_by (by kernel_rfl)) rfl (tg_one (fun _ _ _ _ _ => pg_name sc__law_row.nd rfl (Or.inl rfl) (Or.inr rfl))) (fun _ _ _ _ _ => simTs_nil) (fun _ _ _ _ _ => (e_call (ok__law_event T) (hr.mono (by decide)) T.g__law_event T.k__law_event T.d__law_event nm__law_event (a_c (e_P 0 rfl (Or.inr (Or.inl rfl)) nm_pot) a_n) (by rfl))) (fun _ => rfl)))))
theorem ok__law_rule_lines (T : Txt K mg a) : FnOk P w K mg base (L2.CX P w) 1 a.a__law_rule_lines a.fd__law_rule_lines p__law_rule_lines (FSp ⟨P, w, K, a.cl⟩ f__law_rule_lines) := by
  refine fn_ok (k := 0) a.cl T.t__law_rule_lines sc__law_rule_lines rfl rfl (by decide) fun cdv A outer s H E hr => ?_
  have hu := hu_room hr
  exact (sim_seq (sim_par rfl sc__law_rule_lines.nd rfl rfl (by decide) rfl rfl (a_c (e_split (sim_cst (by kernel_rfl)) (sim_cst (by kernel_rfl))) (a_c (sim_lst (sim_cstL (by kernel_rfl))) a_n)) rfl rfl)
  (sim_seq (sim_for (passes_of rfl) rfl (i_range ⟨by rfl, T.b_range⟩ (sim_cst (by kernel_rfl))) (simG_one sc__law_rule_lines.nd rfl (Or.inl rfl) (Or.inl rfl)) (sim_seq (sim_set sc__law_rule_lines.nd rfl (Or.inl rfl) (sim_ix hu (e_P 0 rfl (Or.inl rfl) nm_rule) (e_P 3 rfl (Or.inl rfl) nm_at) (fun _ _ => rfl)) rfl (Or.inl rfl))
  (sim_seq (sim_ifS (sim_tV (e_isBool ⟨by rfl, T.b_isinstance⟩ ⟨by rfl, T.b_bool⟩ (e_P 4 rfl (Or.inl rfl) nm_word)) (fun _ => rfl)) (sim_one (sim_set sc__law_rule_lines.nd rfl (Or.inl rfl) (sim_if (sim_tV (e_P 4 rfl (Or.inl rfl) nm_word) (fun _ => rfl)) (sim_cst (by kernel_rfl)) (sim_cst (by kernel_rfl))) rfl (Or.inl rfl))) sim_pnil)
  (sim_one (sim_drop (sim_app rfl (Or.inl rfl) nm_found.d nm_found.c (sim_add (sim_add (sim_ix hu (e_P 1 rfl (Or.inl rfl) nm_names) (e_P 3 rfl (Or.inl rfl) nm_at) (fun _ _ => rfl)) (sim_cst (by kernel_rfl))) (e_P 4 rfl (Or.inl rfl) nm_word)) rfl rfl rfl rfl rfl) rfl)))) (fun _ => rfl))
  (sim_one (sim_ret (e_M 2 rfl (Or.inl rfl) nm_found)))))
theorem ok__law_event_lines (T : Txt K mg a) : FnOk P w K mg base (L2.CX P w) 1 a.a__law_event_lines a.fd__law_event_lines p__law_event_lines (FSp ⟨P, w, K, a.cl⟩ f__law_event_lines) := by
  refine fn_ok (k := 0) a.cl T.t__law_event_lines sc__law_event_lines rfl rfl (by decide) fun cdv A outer s H E hr => ?_
  have hu := hu_room hr
  exact (sim_one (sim_ret (sim_comp (own := [("event", 1)]) rfl sc__law_event_lines.nd (sim_items (e_V 0 rfl (Or.inl rfl) nm_row)) (blkOk_by (by kernel_rfl)) rfl (tg_one (fun _ _ _ _ _ => pg_name sc__law_event_lines.nd rfl (Or.inl rfl) (Or.inr rfl))) (fun _ _ _ _ _ => simTs_nil) (fun _ _ _ _ _ => (e_join (sim_cst (by kernel_rfl)) (sim_comp (own := [("part", 2)]) rfl sc__law_event_lines.nd (sim_items (e_V 1 rfl (Or.inl rfl) nm_event)) (blkOk_by (by kernel_rfl)) rfl (tg_one (fun _ _ _ _ _ => pg_name sc__law_event_lines.nd rfl (Or.inl rfl) (Or.inr rfl))) (fun _ _ _ _ _ => simTs_nil) (fun _ _ _ _ _ => (e_str ⟨by rfl, T.b_str⟩ (e_P 2 rfl (Or.inl rfl) nm_part))) (fun _ => rfl)))) (fun _ => rfl))))
theorem ok_law (T : Txt K mg a) : FnOk P w K mg base (L2.CX P w) 6 a.a_law a.fd_law p_law (FSp ⟨P, w, K, a.cl⟩ f_law) := by
  refine fn_ok (k := 5) a.cl T.t_law sc_law rfl rfl (by decide) fun cdv A outer s H E hr => ?_
  have hu := hu_room hr
  exact (sim_seq (sim_for (passes_of rfl) rfl (sim_items (sim_sl (sim_add (sim_lst (sim_cstL (by kernel_rfl))) (e_P 0 rfl (Or.inl rfl) nm_script)) .none (.some (sim_cst (by kernel_rfl))))) (simG_one sc_law.nd rfl (Or.inl rfl) (Or.inl rfl)) (sim_seq (sim_set sc_law.nd rfl (Or.inl rfl) (e_call (ok__law_pot T) (hr.mono (by decide)) T.g__law_pot T.k__law_pot T.d__law_pot nm__law_pot (a_c (e_V 1 rfl (Or.inl rfl) nm_cell) (a_c (sim_cst (by kernel_rfl)) a_n)) (by rfl)) rfl (Or.inl rfl))
  (sim_one (sim_for (passes_of rfl) rfl (i_range ⟨by rfl, T.b_range⟩ (sim_cst (by kernel_rfl))) (simG_one sc_law.nd rfl (Or.inl rfl) (Or.inl rfl)) (sim_seq (sim_par rfl sc_law.nd rfl rfl (by decide) rfl rfl (a_c (e_call (ok__law_rule T) (hr.mono (by decide)) T.g__law_rule T.k__law_rule T.d__law_rule nm__law_rule (a_c (e_P 2 rfl (Or.inl rfl) nm_pot) a_n) (by rfl)) (a_c (e_call (ok__law_row T) (hr.mono (by decide)) T.g__law_row T.k__law_row T.d__law_row nm__law_row (a_c (e_P 2 rfl (Or.inl rfl) nm_pot) (a_c (sim_cst (by kernel_rfl)) a_n)) (by rfl)) a_n)) rfl rfl)
  (sim_seq (sim_set sc_law.nd rfl (Or.inl rfl) (e_join (sim_cst (by kernel_rfl)) (e_call (ok__law_rule_lines T) (hr.mono (by decide)) T.g__law_rule_lines T.k__law_rule_lines T.d__law_rule_lines nm__law_rule_lines (a_c (e_V 6 rfl (Or.inl rfl) nm_rule) a_n) (by rfl))) rfl (Or.inl rfl))
  (sim_seq (sim_set sc_law.nd rfl (Or.inl rfl) (e_join (sim_cst (by kernel_rfl)) (e_call (ok__law_event_lines T) (hr.mono (by decide)) T.g__law_event_lines T.k__law_event_lines T.d__law_event_lines nm__law_event_lines (a_c (e_V 7 rfl (Or.inl rfl) nm_row) a_n) (by rfl))) rfl (Or.inl rfl))
  (sim_seq (sim_ifS (sim_tW (sim_tOrC ((sim_ne hu (e_call (ok_rule_text T) (hr.mono (by decide)) T.g_rule_text T.k_rule_text T.d_rule_text nm_rule_text (a_c (e_V 6 rfl (Or.inl rfl) nm_rule) a_n) (by rfl)) (e_P 4 rfl (Or.inl rfl) nm_text))).t (sim_tOr1 ((sim_ne hu (e_call (ok_read_rule T) (hr.mono (by decide)) T.g_read_rule T.k_read_rule T.d_read_rule nm_read_rule (a_c (e_V 4 rfl (Or.inl rfl) nm_text) a_n) (by rfl)) (e_P 6 rfl (Or.inl rfl) nm_rule))).t))) (sim_one (sim_ret (sim_cst (by kernel_rfl)))) sim_pnil)
  (sim_seq (sim_ifS (sim_tW (sim_tOrC ((sim_ne hu (e_call (ok_row_text T) (hr.mono (by decide)) T.g_row_text T.k_row_text T.d_row_text nm_row_text (a_c (e_V 7 rfl (Or.inl rfl) nm_row) a_n) (by rfl)) (e_P 5 rfl (Or.inl rfl) nm_more))).t (sim_tOrC ((sim_ne hu (e_call (ok_read_row T) (hr.mono (by decide)) T.g_read_row T.k_read_row T.d_read_row nm_read_row (a_c (e_V 5 rfl (Or.inl rfl) nm_more) a_n) (by rfl)) (e_P 7 rfl (Or.inl rfl) nm_row))).t (sim_tOrC ((sim_ne hu (e_call (ok_read_row T) (hr.mono (by decide)) T.g_read_row T.k_read_row T.d_read_row nm_read_row (a_c (sim_cst (by kernel_rfl)) a_n) (by rfl)) (sim_cst (by kernel_rfl)))).t (sim_tOr1 ((sim_ne hu (e_call (ok_row_text T) (hr.mono (by decide)) T.g_row_text T.k_row_text T.d_row_text nm_row_text (a_c (sim_cst (by kernel_rfl)) a_n) (by rfl)) (sim_cst (by kernel_rfl)))).t))))) (sim_one (sim_ret (sim_cst (by kernel_rfl)))) sim_pnil)
  (sim_one (sim_ifS ((sim_ne hu (sim_comp (own := [("one", 8)]) rfl sc_law.nd (sim_items (e_call (ok_read_rule T) (hr.mono (by decide)) T.g_read_rule T.k_read_rule T.d_read_rule nm_read_rule (a_c (e_V 4 rfl (Or.inl rfl) nm_text) a_n) (by rfl))) (blkOk_by (by kernel_rfl)) rfl (tg_one (fun _ _ _ _ _ => pg_name sc_law.nd rfl (Or.inl rfl) (Or.inr rfl))) (fun _ _ _ _ _ => simTs_nil) (fun _ _ _ _ _ => (e_isBool ⟨by rfl, T.b_isinstance⟩ ⟨by rfl, T.b_bool⟩ (e_P 8 rfl (Or.inl rfl) nm_one))) (fun _ => rfl)) (sim_add (sim_mul (sim_lst (sim_cstL (by kernel_rfl))) (sim_cst (by kernel_rfl))) (sim_lst (sim_cstL (by kernel_rfl)))))).t (sim_one (sim_ret (sim_cst (by kernel_rfl)))) sim_pnil))))))) (fun _ => rfl)))) (fun _ => rfl))
  (sim_one (sim_ret (sim_cst (by kernel_rfl)))))
theorem nm_EVENTS : Nm "EVENTS" := nm_of (by decide +kernel)
theorem nm_MOST_EVENTS : Nm "MOST_EVENTS" := nm_of (by decide +kernel)
theorem nm_PART_NAMES : Nm "PART_NAMES" := nm_of (by decide +kernel)
theorem nm_VALUES : Nm "VALUES" := nm_of (by decide +kernel)
theorem nm_WORDS : Nm "WORDS" := nm_of (by decide +kernel)
theorem all_mk {l : PySem.W.OpenLaw} {w : World} {K : PySem.W.Frag} {h : Heap} {mg : Str → Option Value} {fa x_is_same x_is_rule x_is_number x_is_word x_is_event x_are_events x_need_rule x_need_row x_line_of x_rule_lines x_rule_text x_value_in x_read_rule x_event_line x_row_text x_event_in x_read_row x__law_pot x__law_lot x__law_pick x__law_values x__law_rule x__law_words x__law_event x__law_row x__law_rule_lines x__law_event_lines x_law x_FetchError x_InvalidRule x_InvalidRow y_EVENTS y_EVENTS_0 y_EVENTS_1 y_EVENTS_2 y_EVENTS_3 y_EVENTS_4 y_EVENTS_5 y_EVENTS_6 y_EVENTS_7 y_EVENTS_8 y_EVENTS_9 y_EVENTS_10 y_EVENTS_11 y_EVENTS_12 y_EVENTS_13 y_EVENTS_14 y_EVENTS_15 y_EVENTS_16 y_EVENTS_17 y_PART_NAMES y_VALUES y_VALUES_0 y_VALUES_1 y_VALUES_2 y_VALUES_3 y_VALUES_4 y_VALUES_5 y_VALUES_6 y_WORDS : Addr} (hk : Keeps f_law) (X : K.In h) (G : h.Ns mainGlobals mg) (hfa : mg "law" = some (.ref fa))
    {od_is_same an_is_same : Option Addr} {sl_is_same : Array (Option Value)} {oc_is_same kV_is_same dc_is_same pm_is_same cd_is_same ct_is_same : Value}
    {od_is_rule an_is_rule : Option Addr} {sl_is_rule : Array (Option Value)} {oc_is_rule kV_is_rule dc_is_rule pm_is_rule cd_is_rule ct_is_rule : Value}
    {od_is_number an_is_number : Option Addr} {sl_is_number : Array (Option Value)} {oc_is_number kV_is_number dc_is_number pm_is_number cd_is_number ct_is_number : Value}
    {od_is_word an_is_word : Option Addr} {sl_is_word : Array (Option Value)} {oc_is_word kV_is_word dc_is_word pm_is_word cd_is_word ct_is_word : Value}
    {od_is_event an_is_event : Option Addr} {sl_is_event : Array (Option Value)} {oc_is_event kV_is_event dc_is_event pm_is_event cd_is_event ct_is_event : Value}
    {od_are_events an_are_events : Option Addr} {sl_are_events : Array (Option Value)} {oc_are_events kV_are_events dc_are_events pm_are_events cd_are_events ct_are_events : Value}
    {od_need_rule an_need_rule : Option Addr} {sl_need_rule : Array (Option Value)} {oc_need_rule kV_need_rule dc_need_rule pm_need_rule cd_need_rule ct_need_rule : Value}
    {od_need_row an_need_row : Option Addr} {sl_need_row : Array (Option Value)} {oc_need_row kV_need_row dc_need_row pm_need_row cd_need_row ct_need_row : Value}
    {od_line_of an_line_of : Option Addr} {sl_line_of : Array (Option Value)} {oc_line_of kV_line_of dc_line_of pm_line_of cd_line_of ct_line_of : Value}
    {od_rule_lines an_rule_lines : Option Addr} {sl_rule_lines : Array (Option Value)} {oc_rule_lines kV_rule_lines dc_rule_lines pm_rule_lines cd_rule_lines ct_rule_lines : Value}
    {od_rule_text an_rule_text : Option Addr} {sl_rule_text : Array (Option Value)} {oc_rule_text kV_rule_text dc_rule_text pm_rule_text cd_rule_text ct_rule_text : Value}
    {od_value_in an_value_in : Option Addr} {sl_value_in : Array (Option Value)} {oc_value_in kV_value_in dc_value_in pm_value_in cd_value_in ct_value_in : Value}
    {od_read_rule an_read_rule : Option Addr} {sl_read_rule : Array (Option Value)} {oc_read_rule kV_read_rule dc_read_rule pm_read_rule cd_read_rule ct_read_rule : Value}
    {od_event_line an_event_line : Option Addr} {sl_event_line : Array (Option Value)} {oc_event_line kV_event_line dc_event_line pm_event_line cd_event_line ct_event_line : Value}
    {od_row_text an_row_text : Option Addr} {sl_row_text : Array (Option Value)} {oc_row_text kV_row_text dc_row_text pm_row_text cd_row_text ct_row_text : Value}
    {od_event_in an_event_in : Option Addr} {sl_event_in : Array (Option Value)} {oc_event_in kV_event_in dc_event_in pm_event_in cd_event_in ct_event_in : Value}
    {od_read_row an_read_row : Option Addr} {sl_read_row : Array (Option Value)} {oc_read_row kV_read_row dc_read_row pm_read_row cd_read_row ct_read_row : Value}
    {od__law_pot an__law_pot : Option Addr} {sl__law_pot : Array (Option Value)} {oc__law_pot kV__law_pot dc__law_pot pm__law_pot cd__law_pot ct__law_pot : Value}
    {od__law_lot an__law_lot : Option Addr} {sl__law_lot : Array (Option Value)} {oc__law_lot kV__law_lot dc__law_lot pm__law_lot cd__law_lot ct__law_lot : Value}
    {od__law_pick an__law_pick : Option Addr} {sl__law_pick : Array (Option Value)} {oc__law_pick kV__law_pick dc__law_pick pm__law_pick cd__law_pick ct__law_pick : Value}
    {od__law_values an__law_values : Option Addr} {sl__law_values : Array (Option Value)} {oc__law_values kV__law_values dc__law_values pm__law_values cd__law_values ct__law_values : Value}
    {od__law_rule an__law_rule : Option Addr} {sl__law_rule : Array (Option Value)} {oc__law_rule kV__law_rule dc__law_rule pm__law_rule cd__law_rule ct__law_rule : Value}
    {od__law_words an__law_words : Option Addr} {sl__law_words : Array (Option Value)} {oc__law_words kV__law_words dc__law_words pm__law_words cd__law_words ct__law_words : Value}
    {od__law_event an__law_event : Option Addr} {sl__law_event : Array (Option Value)} {oc__law_event kV__law_event dc__law_event pm__law_event cd__law_event ct__law_event : Value}
    {od__law_row an__law_row : Option Addr} {sl__law_row : Array (Option Value)} {oc__law_row kV__law_row dc__law_row pm__law_row cd__law_row ct__law_row : Value}
    {od__law_rule_lines an__law_rule_lines : Option Addr} {sl__law_rule_lines : Array (Option Value)} {oc__law_rule_lines kV__law_rule_lines dc__law_rule_lines pm__law_rule_lines cd__law_rule_lines ct__law_rule_lines : Value}
    {od__law_event_lines an__law_event_lines : Option Addr} {sl__law_event_lines : Array (Option Value)} {oc__law_event_lines kV__law_event_lines dc__law_event_lines pm__law_event_lines cd__law_event_lines ct__law_event_lines : Value}
    {od_law an_law : Option Addr} {sl_law : Array (Option Value)} {oc_law kV_law dc_law pm_law cd_law ct_law : Value}
    {od_EVENTS : Option Addr} {n_EVENTS_ : Nat} {sl_EVENTS : Array (Option Value)}
    {od_EVENTS_0 : Option Addr} {n_EVENTS_0_ : Nat} {sl_EVENTS_0 : Array (Option Value)}
    {tk_EVENTS_0_0 : Tok}
    {tk_EVENTS_0_1 : Tok}
    {od_EVENTS_1 : Option Addr} {n_EVENTS_1_ : Nat} {sl_EVENTS_1 : Array (Option Value)}
    {tk_EVENTS_1_0 : Tok}
    {tk_EVENTS_1_1 : Tok}
    {od_EVENTS_2 : Option Addr} {n_EVENTS_2_ : Nat} {sl_EVENTS_2 : Array (Option Value)}
    {tk_EVENTS_2_0 : Tok}
    {tk_EVENTS_2_1 : Tok}
    {od_EVENTS_3 : Option Addr} {n_EVENTS_3_ : Nat} {sl_EVENTS_3 : Array (Option Value)}
    {tk_EVENTS_3_0 : Tok}
    {tk_EVENTS_3_1 : Tok}
    {od_EVENTS_4 : Option Addr} {n_EVENTS_4_ : Nat} {sl_EVENTS_4 : Array (Option Value)}
    {tk_EVENTS_4_0 : Tok}
    {tk_EVENTS_4_1 : Tok}
    {od_EVENTS_5 : Option Addr} {n_EVENTS_5_ : Nat} {sl_EVENTS_5 : Array (Option Value)}
    {tk_EVENTS_5_0 : Tok}
    {tk_EVENTS_5_1 : Tok}
    {od_EVENTS_6 : Option Addr} {n_EVENTS_6_ : Nat} {sl_EVENTS_6 : Array (Option Value)}
    {tk_EVENTS_6_0 : Tok}
    {tk_EVENTS_6_1 : Tok}
    {od_EVENTS_7 : Option Addr} {n_EVENTS_7_ : Nat} {sl_EVENTS_7 : Array (Option Value)}
    {tk_EVENTS_7_0 : Tok}
    {od_EVENTS_8 : Option Addr} {n_EVENTS_8_ : Nat} {sl_EVENTS_8 : Array (Option Value)}
    {tk_EVENTS_8_0 : Tok}
    {tk_EVENTS_8_1 : Tok}
    {od_EVENTS_9 : Option Addr} {n_EVENTS_9_ : Nat} {sl_EVENTS_9 : Array (Option Value)}
    {tk_EVENTS_9_0 : Tok}
    {tk_EVENTS_9_1 : Tok}
    {od_EVENTS_10 : Option Addr} {n_EVENTS_10_ : Nat} {sl_EVENTS_10 : Array (Option Value)}
    {tk_EVENTS_10_0 : Tok}
    {tk_EVENTS_10_1 : Tok}
    {tk_EVENTS_10_2 : Tok}
    {od_EVENTS_11 : Option Addr} {n_EVENTS_11_ : Nat} {sl_EVENTS_11 : Array (Option Value)}
    {tk_EVENTS_11_0 : Tok}
    {tk_EVENTS_11_1 : Tok}
    {tk_EVENTS_11_2 : Tok}
    {od_EVENTS_12 : Option Addr} {n_EVENTS_12_ : Nat} {sl_EVENTS_12 : Array (Option Value)}
    {tk_EVENTS_12_0 : Tok}
    {tk_EVENTS_12_1 : Tok}
    {tk_EVENTS_12_2 : Tok}
    {od_EVENTS_13 : Option Addr} {n_EVENTS_13_ : Nat} {sl_EVENTS_13 : Array (Option Value)}
    {tk_EVENTS_13_0 : Tok}
    {tk_EVENTS_13_1 : Tok}
    {tk_EVENTS_13_2 : Tok}
    {od_EVENTS_14 : Option Addr} {n_EVENTS_14_ : Nat} {sl_EVENTS_14 : Array (Option Value)}
    {tk_EVENTS_14_0 : Tok}
    {tk_EVENTS_14_1 : Tok}
    {tk_EVENTS_14_2 : Tok}
    {od_EVENTS_15 : Option Addr} {n_EVENTS_15_ : Nat} {sl_EVENTS_15 : Array (Option Value)}
    {tk_EVENTS_15_0 : Tok}
    {tk_EVENTS_15_1 : Tok}
    {tk_EVENTS_15_2 : Tok}
    {od_EVENTS_16 : Option Addr} {n_EVENTS_16_ : Nat} {sl_EVENTS_16 : Array (Option Value)}
    {tk_EVENTS_16_0 : Tok}
    {tk_EVENTS_16_1 : Tok}
    {tk_EVENTS_16_2 : Tok}
    {od_EVENTS_17 : Option Addr} {n_EVENTS_17_ : Nat} {sl_EVENTS_17 : Array (Option Value)}
    {tk_EVENTS_17_0 : Tok}
    {tk_EVENTS_17_1 : Tok}
    {tk_EVENTS_17_2 : Tok}
    {tk_MOST_EVENTS : Tok}
    {od_PART_NAMES : Option Addr} {n_PART_NAMES_ : Nat} {sl_PART_NAMES : Array (Option Value)}
    {tk_PART_NAMES_0 : Tok}
    {tk_PART_NAMES_1 : Tok}
    {tk_PART_NAMES_2 : Tok}
    {tk_PART_NAMES_3 : Tok}
    {tk_PART_NAMES_4 : Tok}
    {tk_PART_NAMES_5 : Tok}
    {tk_PART_NAMES_6 : Tok}
    {od_VALUES : Option Addr} {n_VALUES_ : Nat} {sl_VALUES : Array (Option Value)}
    {od_VALUES_0 : Option Addr} {n_VALUES_0_ : Nat} {sl_VALUES_0 : Array (Option Value)}
    {tk_VALUES_0_0 : Tok}
    {tk_VALUES_0_1 : Tok}
    {tk_VALUES_0_2 : Tok}
    {od_VALUES_1 : Option Addr} {n_VALUES_1_ : Nat} {sl_VALUES_1 : Array (Option Value)}
    {tk_VALUES_1_0 : Tok}
    {tk_VALUES_1_1 : Tok}
    {od_VALUES_2 : Option Addr} {n_VALUES_2_ : Nat} {sl_VALUES_2 : Array (Option Value)}
    {tk_VALUES_2_0 : Tok}
    {tk_VALUES_2_1 : Tok}
    {od_VALUES_3 : Option Addr} {n_VALUES_3_ : Nat} {sl_VALUES_3 : Array (Option Value)}
    {tk_VALUES_3_0 : Tok}
    {tk_VALUES_3_1 : Tok}
    {od_VALUES_4 : Option Addr} {n_VALUES_4_ : Nat} {sl_VALUES_4 : Array (Option Value)}
    {tk_VALUES_4_0 : Tok}
    {tk_VALUES_4_1 : Tok}
    {od_VALUES_5 : Option Addr} {n_VALUES_5_ : Nat} {sl_VALUES_5 : Array (Option Value)}
    {od_VALUES_6 : Option Addr} {n_VALUES_6_ : Nat} {sl_VALUES_6 : Array (Option Value)}
    {od_WORDS : Option Addr} {n_WORDS_ : Nat} {sl_WORDS : Array (Option Value)}
    {tk_WORDS_0 : Tok}
    {tk_WORDS_1 : Tok}
    {tk_WORDS_2 : Tok}
    {tk_WORDS_3 : Tok}
    (a_is_same : PySem.W.nsIn K mainGlobals "is_same" = some (some (.ref x_is_same)))
    (l_is_same : K.lookup x_is_same = some ⟨oc_is_same, od_is_same, .func (PySem.W.fnOf "is_same" "is_same" (defArgs s_is_same) (defBody s_is_same) (defScope s_is_same) .none kV_is_same dc_is_same pm_is_same an_is_same cd_is_same ct_is_same), sl_is_same⟩)
    (c_is_same : PySem.W.codeIn K cd_is_same "is_same" = true)
    (k_is_same : PySem.W.keepIn K (.ref x_is_same) = true)
    (a_is_rule : PySem.W.nsIn K mainGlobals "is_rule" = some (some (.ref x_is_rule)))
    (l_is_rule : K.lookup x_is_rule = some ⟨oc_is_rule, od_is_rule, .func (PySem.W.fnOf "is_rule" "is_rule" (defArgs s_is_rule) (defBody s_is_rule) (defScope s_is_rule) .none kV_is_rule dc_is_rule pm_is_rule an_is_rule cd_is_rule ct_is_rule), sl_is_rule⟩)
    (c_is_rule : PySem.W.codeIn K cd_is_rule "is_rule" = true)
    (k_is_rule : PySem.W.keepIn K (.ref x_is_rule) = true)
    (a_is_number : PySem.W.nsIn K mainGlobals "is_number" = some (some (.ref x_is_number)))
    (l_is_number : K.lookup x_is_number = some ⟨oc_is_number, od_is_number, .func (PySem.W.fnOf "is_number" "is_number" (defArgs s_is_number) (defBody s_is_number) (defScope s_is_number) .none kV_is_number dc_is_number pm_is_number an_is_number cd_is_number ct_is_number), sl_is_number⟩)
    (c_is_number : PySem.W.codeIn K cd_is_number "is_number" = true)
    (k_is_number : PySem.W.keepIn K (.ref x_is_number) = true)
    (a_is_word : PySem.W.nsIn K mainGlobals "is_word" = some (some (.ref x_is_word)))
    (l_is_word : K.lookup x_is_word = some ⟨oc_is_word, od_is_word, .func (PySem.W.fnOf "is_word" "is_word" (defArgs s_is_word) (defBody s_is_word) (defScope s_is_word) .none kV_is_word dc_is_word pm_is_word an_is_word cd_is_word ct_is_word), sl_is_word⟩)
    (c_is_word : PySem.W.codeIn K cd_is_word "is_word" = true)
    (k_is_word : PySem.W.keepIn K (.ref x_is_word) = true)
    (a_is_event : PySem.W.nsIn K mainGlobals "is_event" = some (some (.ref x_is_event)))
    (l_is_event : K.lookup x_is_event = some ⟨oc_is_event, od_is_event, .func (PySem.W.fnOf "is_event" "is_event" (defArgs s_is_event) (defBody s_is_event) (defScope s_is_event) .none kV_is_event dc_is_event pm_is_event an_is_event cd_is_event ct_is_event), sl_is_event⟩)
    (c_is_event : PySem.W.codeIn K cd_is_event "is_event" = true)
    (k_is_event : PySem.W.keepIn K (.ref x_is_event) = true)
    (a_are_events : PySem.W.nsIn K mainGlobals "are_events" = some (some (.ref x_are_events)))
    (l_are_events : K.lookup x_are_events = some ⟨oc_are_events, od_are_events, .func (PySem.W.fnOf "are_events" "are_events" (defArgs s_are_events) (defBody s_are_events) (defScope s_are_events) .none kV_are_events dc_are_events pm_are_events an_are_events cd_are_events ct_are_events), sl_are_events⟩)
    (c_are_events : PySem.W.codeIn K cd_are_events "are_events" = true)
    (k_are_events : PySem.W.keepIn K (.ref x_are_events) = true)
    (a_need_rule : PySem.W.nsIn K mainGlobals "need_rule" = some (some (.ref x_need_rule)))
    (l_need_rule : K.lookup x_need_rule = some ⟨oc_need_rule, od_need_rule, .func (PySem.W.fnOf "need_rule" "need_rule" (defArgs s_need_rule) (defBody s_need_rule) (defScope s_need_rule) .none kV_need_rule dc_need_rule pm_need_rule an_need_rule cd_need_rule ct_need_rule), sl_need_rule⟩)
    (c_need_rule : PySem.W.codeIn K cd_need_rule "need_rule" = true)
    (k_need_rule : PySem.W.keepIn K (.ref x_need_rule) = true)
    (a_need_row : PySem.W.nsIn K mainGlobals "need_row" = some (some (.ref x_need_row)))
    (l_need_row : K.lookup x_need_row = some ⟨oc_need_row, od_need_row, .func (PySem.W.fnOf "need_row" "need_row" (defArgs s_need_row) (defBody s_need_row) (defScope s_need_row) .none kV_need_row dc_need_row pm_need_row an_need_row cd_need_row ct_need_row), sl_need_row⟩)
    (c_need_row : PySem.W.codeIn K cd_need_row "need_row" = true)
    (k_need_row : PySem.W.keepIn K (.ref x_need_row) = true)
    (a_line_of : PySem.W.nsIn K mainGlobals "line_of" = some (some (.ref x_line_of)))
    (l_line_of : K.lookup x_line_of = some ⟨oc_line_of, od_line_of, .func (PySem.W.fnOf "line_of" "line_of" (defArgs s_line_of) (defBody s_line_of) (defScope s_line_of) .none kV_line_of dc_line_of pm_line_of an_line_of cd_line_of ct_line_of), sl_line_of⟩)
    (c_line_of : PySem.W.codeIn K cd_line_of "line_of" = true)
    (k_line_of : PySem.W.keepIn K (.ref x_line_of) = true)
    (a_rule_lines : PySem.W.nsIn K mainGlobals "rule_lines" = some (some (.ref x_rule_lines)))
    (l_rule_lines : K.lookup x_rule_lines = some ⟨oc_rule_lines, od_rule_lines, .func (PySem.W.fnOf "rule_lines" "rule_lines" (defArgs s_rule_lines) (defBody s_rule_lines) (defScope s_rule_lines) .none kV_rule_lines dc_rule_lines pm_rule_lines an_rule_lines cd_rule_lines ct_rule_lines), sl_rule_lines⟩)
    (c_rule_lines : PySem.W.codeIn K cd_rule_lines "rule_lines" = true)
    (k_rule_lines : PySem.W.keepIn K (.ref x_rule_lines) = true)
    (a_rule_text : PySem.W.nsIn K mainGlobals "rule_text" = some (some (.ref x_rule_text)))
    (l_rule_text : K.lookup x_rule_text = some ⟨oc_rule_text, od_rule_text, .func (PySem.W.fnOf "rule_text" "rule_text" (defArgs s_rule_text) (defBody s_rule_text) (defScope s_rule_text) .none kV_rule_text dc_rule_text pm_rule_text an_rule_text cd_rule_text ct_rule_text), sl_rule_text⟩)
    (c_rule_text : PySem.W.codeIn K cd_rule_text "rule_text" = true)
    (k_rule_text : PySem.W.keepIn K (.ref x_rule_text) = true)
    (a_value_in : PySem.W.nsIn K mainGlobals "value_in" = some (some (.ref x_value_in)))
    (l_value_in : K.lookup x_value_in = some ⟨oc_value_in, od_value_in, .func (PySem.W.fnOf "value_in" "value_in" (defArgs s_value_in) (defBody s_value_in) (defScope s_value_in) .none kV_value_in dc_value_in pm_value_in an_value_in cd_value_in ct_value_in), sl_value_in⟩)
    (c_value_in : PySem.W.codeIn K cd_value_in "value_in" = true)
    (k_value_in : PySem.W.keepIn K (.ref x_value_in) = true)
    (a_read_rule : PySem.W.nsIn K mainGlobals "read_rule" = some (some (.ref x_read_rule)))
    (l_read_rule : K.lookup x_read_rule = some ⟨oc_read_rule, od_read_rule, .func (PySem.W.fnOf "read_rule" "read_rule" (defArgs s_read_rule) (defBody s_read_rule) (defScope s_read_rule) .none kV_read_rule dc_read_rule pm_read_rule an_read_rule cd_read_rule ct_read_rule), sl_read_rule⟩)
    (c_read_rule : PySem.W.codeIn K cd_read_rule "read_rule" = true)
    (k_read_rule : PySem.W.keepIn K (.ref x_read_rule) = true)
    (a_event_line : PySem.W.nsIn K mainGlobals "event_line" = some (some (.ref x_event_line)))
    (l_event_line : K.lookup x_event_line = some ⟨oc_event_line, od_event_line, .func (PySem.W.fnOf "event_line" "event_line" (defArgs s_event_line) (defBody s_event_line) (defScope s_event_line) .none kV_event_line dc_event_line pm_event_line an_event_line cd_event_line ct_event_line), sl_event_line⟩)
    (c_event_line : PySem.W.codeIn K cd_event_line "event_line" = true)
    (k_event_line : PySem.W.keepIn K (.ref x_event_line) = true)
    (a_row_text : PySem.W.nsIn K mainGlobals "row_text" = some (some (.ref x_row_text)))
    (l_row_text : K.lookup x_row_text = some ⟨oc_row_text, od_row_text, .func (PySem.W.fnOf "row_text" "row_text" (defArgs s_row_text) (defBody s_row_text) (defScope s_row_text) .none kV_row_text dc_row_text pm_row_text an_row_text cd_row_text ct_row_text), sl_row_text⟩)
    (c_row_text : PySem.W.codeIn K cd_row_text "row_text" = true)
    (k_row_text : PySem.W.keepIn K (.ref x_row_text) = true)
    (a_event_in : PySem.W.nsIn K mainGlobals "event_in" = some (some (.ref x_event_in)))
    (l_event_in : K.lookup x_event_in = some ⟨oc_event_in, od_event_in, .func (PySem.W.fnOf "event_in" "event_in" (defArgs s_event_in) (defBody s_event_in) (defScope s_event_in) .none kV_event_in dc_event_in pm_event_in an_event_in cd_event_in ct_event_in), sl_event_in⟩)
    (c_event_in : PySem.W.codeIn K cd_event_in "event_in" = true)
    (k_event_in : PySem.W.keepIn K (.ref x_event_in) = true)
    (a_read_row : PySem.W.nsIn K mainGlobals "read_row" = some (some (.ref x_read_row)))
    (l_read_row : K.lookup x_read_row = some ⟨oc_read_row, od_read_row, .func (PySem.W.fnOf "read_row" "read_row" (defArgs s_read_row) (defBody s_read_row) (defScope s_read_row) .none kV_read_row dc_read_row pm_read_row an_read_row cd_read_row ct_read_row), sl_read_row⟩)
    (c_read_row : PySem.W.codeIn K cd_read_row "read_row" = true)
    (k_read_row : PySem.W.keepIn K (.ref x_read_row) = true)
    (a__law_pot : PySem.W.nsIn K mainGlobals "_law_pot" = some (some (.ref x__law_pot)))
    (l__law_pot : K.lookup x__law_pot = some ⟨oc__law_pot, od__law_pot, .func (PySem.W.fnOf "_law_pot" "_law_pot" (defArgs s__law_pot) (defBody s__law_pot) (defScope s__law_pot) .none kV__law_pot dc__law_pot pm__law_pot an__law_pot cd__law_pot ct__law_pot), sl__law_pot⟩)
    (c__law_pot : PySem.W.codeIn K cd__law_pot "_law_pot" = true)
    (k__law_pot : PySem.W.keepIn K (.ref x__law_pot) = true)
    (a__law_lot : PySem.W.nsIn K mainGlobals "_law_lot" = some (some (.ref x__law_lot)))
    (l__law_lot : K.lookup x__law_lot = some ⟨oc__law_lot, od__law_lot, .func (PySem.W.fnOf "_law_lot" "_law_lot" (defArgs s__law_lot) (defBody s__law_lot) (defScope s__law_lot) .none kV__law_lot dc__law_lot pm__law_lot an__law_lot cd__law_lot ct__law_lot), sl__law_lot⟩)
    (c__law_lot : PySem.W.codeIn K cd__law_lot "_law_lot" = true)
    (k__law_lot : PySem.W.keepIn K (.ref x__law_lot) = true)
    (a__law_pick : PySem.W.nsIn K mainGlobals "_law_pick" = some (some (.ref x__law_pick)))
    (l__law_pick : K.lookup x__law_pick = some ⟨oc__law_pick, od__law_pick, .func (PySem.W.fnOf "_law_pick" "_law_pick" (defArgs s__law_pick) (defBody s__law_pick) (defScope s__law_pick) .none kV__law_pick dc__law_pick pm__law_pick an__law_pick cd__law_pick ct__law_pick), sl__law_pick⟩)
    (c__law_pick : PySem.W.codeIn K cd__law_pick "_law_pick" = true)
    (k__law_pick : PySem.W.keepIn K (.ref x__law_pick) = true)
    (a__law_values : PySem.W.nsIn K mainGlobals "_law_values" = some (some (.ref x__law_values)))
    (l__law_values : K.lookup x__law_values = some ⟨oc__law_values, od__law_values, .func (PySem.W.fnOf "_law_values" "_law_values" (defArgs s__law_values) (defBody s__law_values) (defScope s__law_values) .none kV__law_values dc__law_values pm__law_values an__law_values cd__law_values ct__law_values), sl__law_values⟩)
    (c__law_values : PySem.W.codeIn K cd__law_values "_law_values" = true)
    (k__law_values : PySem.W.keepIn K (.ref x__law_values) = true)
    (a__law_rule : PySem.W.nsIn K mainGlobals "_law_rule" = some (some (.ref x__law_rule)))
    (l__law_rule : K.lookup x__law_rule = some ⟨oc__law_rule, od__law_rule, .func (PySem.W.fnOf "_law_rule" "_law_rule" (defArgs s__law_rule) (defBody s__law_rule) (defScope s__law_rule) .none kV__law_rule dc__law_rule pm__law_rule an__law_rule cd__law_rule ct__law_rule), sl__law_rule⟩)
    (c__law_rule : PySem.W.codeIn K cd__law_rule "_law_rule" = true)
    (k__law_rule : PySem.W.keepIn K (.ref x__law_rule) = true)
    (a__law_words : PySem.W.nsIn K mainGlobals "_law_words" = some (some (.ref x__law_words)))
    (l__law_words : K.lookup x__law_words = some ⟨oc__law_words, od__law_words, .func (PySem.W.fnOf "_law_words" "_law_words" (defArgs s__law_words) (defBody s__law_words) (defScope s__law_words) .none kV__law_words dc__law_words pm__law_words an__law_words cd__law_words ct__law_words), sl__law_words⟩)
    (c__law_words : PySem.W.codeIn K cd__law_words "_law_words" = true)
    (k__law_words : PySem.W.keepIn K (.ref x__law_words) = true)
    (a__law_event : PySem.W.nsIn K mainGlobals "_law_event" = some (some (.ref x__law_event)))
    (l__law_event : K.lookup x__law_event = some ⟨oc__law_event, od__law_event, .func (PySem.W.fnOf "_law_event" "_law_event" (defArgs s__law_event) (defBody s__law_event) (defScope s__law_event) .none kV__law_event dc__law_event pm__law_event an__law_event cd__law_event ct__law_event), sl__law_event⟩)
    (c__law_event : PySem.W.codeIn K cd__law_event "_law_event" = true)
    (k__law_event : PySem.W.keepIn K (.ref x__law_event) = true)
    (a__law_row : PySem.W.nsIn K mainGlobals "_law_row" = some (some (.ref x__law_row)))
    (l__law_row : K.lookup x__law_row = some ⟨oc__law_row, od__law_row, .func (PySem.W.fnOf "_law_row" "_law_row" (defArgs s__law_row) (defBody s__law_row) (defScope s__law_row) .none kV__law_row dc__law_row pm__law_row an__law_row cd__law_row ct__law_row), sl__law_row⟩)
    (c__law_row : PySem.W.codeIn K cd__law_row "_law_row" = true)
    (k__law_row : PySem.W.keepIn K (.ref x__law_row) = true)
    (a__law_rule_lines : PySem.W.nsIn K mainGlobals "_law_rule_lines" = some (some (.ref x__law_rule_lines)))
    (l__law_rule_lines : K.lookup x__law_rule_lines = some ⟨oc__law_rule_lines, od__law_rule_lines, .func (PySem.W.fnOf "_law_rule_lines" "_law_rule_lines" (defArgs s__law_rule_lines) (defBody s__law_rule_lines) (defScope s__law_rule_lines) .none kV__law_rule_lines dc__law_rule_lines pm__law_rule_lines an__law_rule_lines cd__law_rule_lines ct__law_rule_lines), sl__law_rule_lines⟩)
    (c__law_rule_lines : PySem.W.codeIn K cd__law_rule_lines "_law_rule_lines" = true)
    (k__law_rule_lines : PySem.W.keepIn K (.ref x__law_rule_lines) = true)
    (a__law_event_lines : PySem.W.nsIn K mainGlobals "_law_event_lines" = some (some (.ref x__law_event_lines)))
    (l__law_event_lines : K.lookup x__law_event_lines = some ⟨oc__law_event_lines, od__law_event_lines, .func (PySem.W.fnOf "_law_event_lines" "_law_event_lines" (defArgs s__law_event_lines) (defBody s__law_event_lines) (defScope s__law_event_lines) .none kV__law_event_lines dc__law_event_lines pm__law_event_lines an__law_event_lines cd__law_event_lines ct__law_event_lines), sl__law_event_lines⟩)
    (c__law_event_lines : PySem.W.codeIn K cd__law_event_lines "_law_event_lines" = true)
    (k__law_event_lines : PySem.W.keepIn K (.ref x__law_event_lines) = true)
    (a_law : PySem.W.nsIn K mainGlobals "law" = some (some (.ref x_law)))
    (l_law : K.lookup x_law = some ⟨oc_law, od_law, .func (PySem.W.fnOf "law" "law" (defArgs s_law) (defBody s_law) (defScope s_law) .none kV_law dc_law pm_law an_law cd_law ct_law), sl_law⟩)
    (c_law : PySem.W.codeIn K cd_law "law" = true)
    (k_law : PySem.W.keepIn K (.ref x_law) = true)
    (a_FetchError : PySem.W.nsIn K mainGlobals "FetchError" = some (some (.ref x_FetchError)))
    (k_FetchError : PySem.W.keepIn K (.ref x_FetchError) = true)
    (u_FetchError : PySem.W.subIn K (.ref x_FetchError) (.type "BaseException") = some true)
    (y_FetchError : PySem.W.typeIn K (.ref x_FetchError) = some (.type "type"))
    (q_FetchError : PySem.W.excIn K x_FetchError [.type "ValueError", .type "Exception", .type "BaseException", .type "object"] "ValueError.__new__" = true)
    (a_InvalidRule : PySem.W.nsIn K mainGlobals "InvalidRule" = some (some (.ref x_InvalidRule)))
    (k_InvalidRule : PySem.W.keepIn K (.ref x_InvalidRule) = true)
    (u_InvalidRule : PySem.W.subIn K (.ref x_InvalidRule) (.type "BaseException") = some true)
    (y_InvalidRule : PySem.W.typeIn K (.ref x_InvalidRule) = some (.type "type"))
    (q_InvalidRule : PySem.W.excIn K x_InvalidRule [.type "ValueError", .type "Exception", .type "BaseException", .type "object"] "ValueError.__new__" = true)
    (a_InvalidRow : PySem.W.nsIn K mainGlobals "InvalidRow" = some (some (.ref x_InvalidRow)))
    (k_InvalidRow : PySem.W.keepIn K (.ref x_InvalidRow) = true)
    (u_InvalidRow : PySem.W.subIn K (.ref x_InvalidRow) (.type "BaseException") = some true)
    (y_InvalidRow : PySem.W.typeIn K (.ref x_InvalidRow) = some (.type "type"))
    (q_InvalidRow : PySem.W.excIn K x_InvalidRow [.type "ValueError", .type "Exception", .type "BaseException", .type "object"] "ValueError.__new__" = true)
    (a_EVENTS : PySem.W.nsIn K mainGlobals "EVENTS" = some (some (.ref y_EVENTS)))
    (l_EVENTS : K.lookup y_EVENTS = some ⟨.type "tuple", od_EVENTS, .seq #[.ref y_EVENTS_0, .ref y_EVENTS_1, .ref y_EVENTS_2, .ref y_EVENTS_3, .ref y_EVENTS_4, .ref y_EVENTS_5, .ref y_EVENTS_6, .ref y_EVENTS_7, .ref y_EVENTS_8, .ref y_EVENTS_9, .ref y_EVENTS_10, .ref y_EVENTS_11, .ref y_EVENTS_12, .ref y_EVENTS_13, .ref y_EVENTS_14, .ref y_EVENTS_15, .ref y_EVENTS_16, .ref y_EVENTS_17] n_EVENTS_, sl_EVENTS⟩)
    (l_EVENTS_0 : K.lookup y_EVENTS_0 = some ⟨.type "tuple", od_EVENTS_0, .seq #[.str "clear" tk_EVENTS_0_0, .int 0 tk_EVENTS_0_1] n_EVENTS_0_, sl_EVENTS_0⟩)
    (l_EVENTS_1 : K.lookup y_EVENTS_1 = some ⟨.type "tuple", od_EVENTS_1, .seq #[.str "clear" tk_EVENTS_1_0, .int 1 tk_EVENTS_1_1] n_EVENTS_1_, sl_EVENTS_1⟩)
    (l_EVENTS_2 : K.lookup y_EVENTS_2 = some ⟨.type "tuple", od_EVENTS_2, .seq #[.str "come" tk_EVENTS_2_0, .int 0 tk_EVENTS_2_1] n_EVENTS_2_, sl_EVENTS_2⟩)
    (l_EVENTS_3 : K.lookup y_EVENTS_3 = some ⟨.type "tuple", od_EVENTS_3, .seq #[.str "come" tk_EVENTS_3_0, .int 1 tk_EVENTS_3_1] n_EVENTS_3_, sl_EVENTS_3⟩)
    (l_EVENTS_4 : K.lookup y_EVENTS_4 = some ⟨.type "tuple", od_EVENTS_4, .seq #[.str "come" tk_EVENTS_4_0, .int 2 tk_EVENTS_4_1] n_EVENTS_4_, sl_EVENTS_4⟩)
    (l_EVENTS_5 : K.lookup y_EVENTS_5 = some ⟨.type "tuple", od_EVENTS_5, .seq #[.str "court" tk_EVENTS_5_0, .int 0 tk_EVENTS_5_1] n_EVENTS_5_, sl_EVENTS_5⟩)
    (l_EVENTS_6 : K.lookup y_EVENTS_6 = some ⟨.type "tuple", od_EVENTS_6, .seq #[.str "court" tk_EVENTS_6_0, .int 1 tk_EVENTS_6_1] n_EVENTS_6_, sl_EVENTS_6⟩)
    (l_EVENTS_7 : K.lookup y_EVENTS_7 = some ⟨.type "tuple", od_EVENTS_7, .seq #[.str "morning" tk_EVENTS_7_0] n_EVENTS_7_, sl_EVENTS_7⟩)
    (l_EVENTS_8 : K.lookup y_EVENTS_8 = some ⟨.type "tuple", od_EVENTS_8, .seq #[.str "paper" tk_EVENTS_8_0, .int 0 tk_EVENTS_8_1] n_EVENTS_8_, sl_EVENTS_8⟩)
    (l_EVENTS_9 : K.lookup y_EVENTS_9 = some ⟨.type "tuple", od_EVENTS_9, .seq #[.str "paper" tk_EVENTS_9_0, .int 1 tk_EVENTS_9_1] n_EVENTS_9_, sl_EVENTS_9⟩)
    (l_EVENTS_10 : K.lookup y_EVENTS_10 = some ⟨.type "tuple", od_EVENTS_10, .seq #[.str "say" tk_EVENTS_10_0, .int 0 tk_EVENTS_10_1, .str "always" tk_EVENTS_10_2] n_EVENTS_10_, sl_EVENTS_10⟩)
    (l_EVENTS_11 : K.lookup y_EVENTS_11 = some ⟨.type "tuple", od_EVENTS_11, .seq #[.str "say" tk_EVENTS_11_0, .int 0 tk_EVENTS_11_1, .str "bar" tk_EVENTS_11_2] n_EVENTS_11_, sl_EVENTS_11⟩)
    (l_EVENTS_12 : K.lookup y_EVENTS_12 = some ⟨.type "tuple", od_EVENTS_12, .seq #[.str "say" tk_EVENTS_12_0, .int 0 tk_EVENTS_12_1, .str "no" tk_EVENTS_12_2] n_EVENTS_12_, sl_EVENTS_12⟩)
    (l_EVENTS_13 : K.lookup y_EVENTS_13 = some ⟨.type "tuple", od_EVENTS_13, .seq #[.str "say" tk_EVENTS_13_0, .int 0 tk_EVENTS_13_1, .str "once" tk_EVENTS_13_2] n_EVENTS_13_, sl_EVENTS_13⟩)
    (l_EVENTS_14 : K.lookup y_EVENTS_14 = some ⟨.type "tuple", od_EVENTS_14, .seq #[.str "say" tk_EVENTS_14_0, .int 1 tk_EVENTS_14_1, .str "always" tk_EVENTS_14_2] n_EVENTS_14_, sl_EVENTS_14⟩)
    (l_EVENTS_15 : K.lookup y_EVENTS_15 = some ⟨.type "tuple", od_EVENTS_15, .seq #[.str "say" tk_EVENTS_15_0, .int 1 tk_EVENTS_15_1, .str "bar" tk_EVENTS_15_2] n_EVENTS_15_, sl_EVENTS_15⟩)
    (l_EVENTS_16 : K.lookup y_EVENTS_16 = some ⟨.type "tuple", od_EVENTS_16, .seq #[.str "say" tk_EVENTS_16_0, .int 1 tk_EVENTS_16_1, .str "no" tk_EVENTS_16_2] n_EVENTS_16_, sl_EVENTS_16⟩)
    (l_EVENTS_17 : K.lookup y_EVENTS_17 = some ⟨.type "tuple", od_EVENTS_17, .seq #[.str "say" tk_EVENTS_17_0, .int 1 tk_EVENTS_17_1, .str "once" tk_EVENTS_17_2] n_EVENTS_17_, sl_EVENTS_17⟩)
    (a_MOST_EVENTS : PySem.W.nsIn K mainGlobals "MOST_EVENTS" = some (some (.int 60 tk_MOST_EVENTS)))
    (a_PART_NAMES : PySem.W.nsIn K mainGlobals "PART_NAMES" = some (some (.ref y_PART_NAMES)))
    (l_PART_NAMES : K.lookup y_PART_NAMES = some ⟨.type "tuple", od_PART_NAMES, .seq #[.str "words" tk_PART_NAMES_0, .str "bars" tk_PART_NAMES_1, .str "lag" tk_PART_NAMES_2, .str "court" tk_PART_NAMES_3, .str "once" tk_PART_NAMES_4, .str "void" tk_PART_NAMES_5, .str "paper" tk_PART_NAMES_6] n_PART_NAMES_, sl_PART_NAMES⟩)
    (a_VALUES : PySem.W.nsIn K mainGlobals "VALUES" = some (some (.ref y_VALUES)))
    (l_VALUES : K.lookup y_VALUES = some ⟨.type "tuple", od_VALUES, .seq #[.ref y_VALUES_0, .ref y_VALUES_1, .ref y_VALUES_2, .ref y_VALUES_3, .ref y_VALUES_4, .ref y_VALUES_5, .ref y_VALUES_6] n_VALUES_, sl_VALUES⟩)
    (l_VALUES_0 : K.lookup y_VALUES_0 = some ⟨.type "tuple", od_VALUES_0, .seq #[.str "both" tk_VALUES_0_0, .str "either" tk_VALUES_0_1, .str "last" tk_VALUES_0_2] n_VALUES_0_, sl_VALUES_0⟩)
    (l_VALUES_1 : K.lookup y_VALUES_1 = some ⟨.type "tuple", od_VALUES_1, .seq #[.str "own" tk_VALUES_1_0, .str "win" tk_VALUES_1_1] n_VALUES_1_, sl_VALUES_1⟩)
    (l_VALUES_2 : K.lookup y_VALUES_2 = some ⟨.type "tuple", od_VALUES_2, .seq #[.str "morning" tk_VALUES_2_0, .str "now" tk_VALUES_2_1] n_VALUES_2_, sl_VALUES_2⟩)
    (l_VALUES_3 : K.lookup y_VALUES_3 = some ⟨.type "tuple", od_VALUES_3, .seq #[.str "morning" tk_VALUES_3_0, .str "now" tk_VALUES_3_1] n_VALUES_3_, sl_VALUES_3⟩)
    (l_VALUES_4 : K.lookup y_VALUES_4 = some ⟨.type "tuple", od_VALUES_4, .seq #[.str "day" tk_VALUES_4_0, .str "use" tk_VALUES_4_1] n_VALUES_4_, sl_VALUES_4⟩)
    (l_VALUES_5 : K.lookup y_VALUES_5 = some ⟨.type "tuple", od_VALUES_5, .seq #[.bool false, .bool true] n_VALUES_5_, sl_VALUES_5⟩)
    (l_VALUES_6 : K.lookup y_VALUES_6 = some ⟨.type "tuple", od_VALUES_6, .seq #[.bool false, .bool true] n_VALUES_6_, sl_VALUES_6⟩)
    (a_WORDS : PySem.W.nsIn K mainGlobals "WORDS" = some (some (.ref y_WORDS)))
    (l_WORDS : K.lookup y_WORDS = some ⟨.type "tuple", od_WORDS, .seq #[.str "always" tk_WORDS_0, .str "bar" tk_WORDS_1, .str "no" tk_WORDS_2, .str "once" tk_WORDS_3] n_WORDS_, sl_WORDS⟩)
    (b_all : PySem.W.nsIn K mainGlobals "all" = some none)
    (b_any : PySem.W.nsIn K mainGlobals "any" = some none)
    (b_bool : PySem.W.nsIn K mainGlobals "bool" = some none)
    (b_enumerate : PySem.W.nsIn K mainGlobals "enumerate" = some none)
    (b_int : PySem.W.nsIn K mainGlobals "int" = some none)
    (b_isinstance : PySem.W.nsIn K mainGlobals "isinstance" = some none)
    (b_len : PySem.W.nsIn K mainGlobals "len" = some none)
    (b_range : PySem.W.nsIn K mainGlobals "range" = some none)
    (b_str : PySem.W.nsIn K mainGlobals "str" = some none)
    (b_tuple : PySem.W.nsIn K mainGlobals "tuple" = some none)
    (b_zip : PySem.W.nsIn K mainGlobals "zip" = some none) :
    ∃ fd : FuncData, (∀ (s : Shared) (v : Value), BindsTo s fd ⟨[v], []⟩ [("script", v)]) ∧ ∀ base : Heap, K.In base → base.Ns mainGlobals mg → FnOk l.prog w K mg base (L2.CX l.prog w) 6 fa fd ["script"] (spLaw K) := by
  have e : x_law = fa := by have e := hfa.symm.trans (PySem.W.mg_of X G a_law); cases e; rfl
  subst e
  have T : Txt K mg ⟨x_is_same, PySem.W.fnOf "is_same" "is_same" (defArgs s_is_same) (defBody s_is_same) (defScope s_is_same) .none kV_is_same dc_is_same pm_is_same an_is_same cd_is_same ct_is_same, x_is_rule, PySem.W.fnOf "is_rule" "is_rule" (defArgs s_is_rule) (defBody s_is_rule) (defScope s_is_rule) .none kV_is_rule dc_is_rule pm_is_rule an_is_rule cd_is_rule ct_is_rule, x_is_number, PySem.W.fnOf "is_number" "is_number" (defArgs s_is_number) (defBody s_is_number) (defScope s_is_number) .none kV_is_number dc_is_number pm_is_number an_is_number cd_is_number ct_is_number, x_is_word, PySem.W.fnOf "is_word" "is_word" (defArgs s_is_word) (defBody s_is_word) (defScope s_is_word) .none kV_is_word dc_is_word pm_is_word an_is_word cd_is_word ct_is_word, x_is_event, PySem.W.fnOf "is_event" "is_event" (defArgs s_is_event) (defBody s_is_event) (defScope s_is_event) .none kV_is_event dc_is_event pm_is_event an_is_event cd_is_event ct_is_event, x_are_events, PySem.W.fnOf "are_events" "are_events" (defArgs s_are_events) (defBody s_are_events) (defScope s_are_events) .none kV_are_events dc_are_events pm_are_events an_are_events cd_are_events ct_are_events, x_need_rule, PySem.W.fnOf "need_rule" "need_rule" (defArgs s_need_rule) (defBody s_need_rule) (defScope s_need_rule) .none kV_need_rule dc_need_rule pm_need_rule an_need_rule cd_need_rule ct_need_rule, x_need_row, PySem.W.fnOf "need_row" "need_row" (defArgs s_need_row) (defBody s_need_row) (defScope s_need_row) .none kV_need_row dc_need_row pm_need_row an_need_row cd_need_row ct_need_row, x_line_of, PySem.W.fnOf "line_of" "line_of" (defArgs s_line_of) (defBody s_line_of) (defScope s_line_of) .none kV_line_of dc_line_of pm_line_of an_line_of cd_line_of ct_line_of, x_rule_lines, PySem.W.fnOf "rule_lines" "rule_lines" (defArgs s_rule_lines) (defBody s_rule_lines) (defScope s_rule_lines) .none kV_rule_lines dc_rule_lines pm_rule_lines an_rule_lines cd_rule_lines ct_rule_lines, x_rule_text, PySem.W.fnOf "rule_text" "rule_text" (defArgs s_rule_text) (defBody s_rule_text) (defScope s_rule_text) .none kV_rule_text dc_rule_text pm_rule_text an_rule_text cd_rule_text ct_rule_text, x_value_in, PySem.W.fnOf "value_in" "value_in" (defArgs s_value_in) (defBody s_value_in) (defScope s_value_in) .none kV_value_in dc_value_in pm_value_in an_value_in cd_value_in ct_value_in, x_read_rule, PySem.W.fnOf "read_rule" "read_rule" (defArgs s_read_rule) (defBody s_read_rule) (defScope s_read_rule) .none kV_read_rule dc_read_rule pm_read_rule an_read_rule cd_read_rule ct_read_rule, x_event_line, PySem.W.fnOf "event_line" "event_line" (defArgs s_event_line) (defBody s_event_line) (defScope s_event_line) .none kV_event_line dc_event_line pm_event_line an_event_line cd_event_line ct_event_line, x_row_text, PySem.W.fnOf "row_text" "row_text" (defArgs s_row_text) (defBody s_row_text) (defScope s_row_text) .none kV_row_text dc_row_text pm_row_text an_row_text cd_row_text ct_row_text, x_event_in, PySem.W.fnOf "event_in" "event_in" (defArgs s_event_in) (defBody s_event_in) (defScope s_event_in) .none kV_event_in dc_event_in pm_event_in an_event_in cd_event_in ct_event_in, x_read_row, PySem.W.fnOf "read_row" "read_row" (defArgs s_read_row) (defBody s_read_row) (defScope s_read_row) .none kV_read_row dc_read_row pm_read_row an_read_row cd_read_row ct_read_row, x__law_pot, PySem.W.fnOf "_law_pot" "_law_pot" (defArgs s__law_pot) (defBody s__law_pot) (defScope s__law_pot) .none kV__law_pot dc__law_pot pm__law_pot an__law_pot cd__law_pot ct__law_pot, x__law_lot, PySem.W.fnOf "_law_lot" "_law_lot" (defArgs s__law_lot) (defBody s__law_lot) (defScope s__law_lot) .none kV__law_lot dc__law_lot pm__law_lot an__law_lot cd__law_lot ct__law_lot, x__law_pick, PySem.W.fnOf "_law_pick" "_law_pick" (defArgs s__law_pick) (defBody s__law_pick) (defScope s__law_pick) .none kV__law_pick dc__law_pick pm__law_pick an__law_pick cd__law_pick ct__law_pick, x__law_values, PySem.W.fnOf "_law_values" "_law_values" (defArgs s__law_values) (defBody s__law_values) (defScope s__law_values) .none kV__law_values dc__law_values pm__law_values an__law_values cd__law_values ct__law_values, x__law_rule, PySem.W.fnOf "_law_rule" "_law_rule" (defArgs s__law_rule) (defBody s__law_rule) (defScope s__law_rule) .none kV__law_rule dc__law_rule pm__law_rule an__law_rule cd__law_rule ct__law_rule, x__law_words, PySem.W.fnOf "_law_words" "_law_words" (defArgs s__law_words) (defBody s__law_words) (defScope s__law_words) .none kV__law_words dc__law_words pm__law_words an__law_words cd__law_words ct__law_words, x__law_event, PySem.W.fnOf "_law_event" "_law_event" (defArgs s__law_event) (defBody s__law_event) (defScope s__law_event) .none kV__law_event dc__law_event pm__law_event an__law_event cd__law_event ct__law_event, x__law_row, PySem.W.fnOf "_law_row" "_law_row" (defArgs s__law_row) (defBody s__law_row) (defScope s__law_row) .none kV__law_row dc__law_row pm__law_row an__law_row cd__law_row ct__law_row, x__law_rule_lines, PySem.W.fnOf "_law_rule_lines" "_law_rule_lines" (defArgs s__law_rule_lines) (defBody s__law_rule_lines) (defScope s__law_rule_lines) .none kV__law_rule_lines dc__law_rule_lines pm__law_rule_lines an__law_rule_lines cd__law_rule_lines ct__law_rule_lines, x__law_event_lines, PySem.W.fnOf "_law_event_lines" "_law_event_lines" (defArgs s__law_event_lines) (defBody s__law_event_lines) (defScope s__law_event_lines) .none kV__law_event_lines dc__law_event_lines pm__law_event_lines an__law_event_lines cd__law_event_lines ct__law_event_lines, x_law, PySem.W.fnOf "law" "law" (defArgs s_law) (defBody s_law) (defScope s_law) .none kV_law dc_law pm_law an_law cd_law ct_law, x_FetchError, x_InvalidRule, x_InvalidRow⟩ := by
    constructor
    case g_is_same => exact PySem.W.mg_of X G a_is_same
    case k_is_same => exact k_is_same
    case t_is_same => exact fun_mk (st := s_is_same) l_is_same c_is_same k_is_same
    case d_is_same => exact (fun_mk (st := s_is_same) l_is_same c_is_same k_is_same).binds (ps := p_is_same) (fun _ _ _ _ _ _ us hl => match us, hl with | [_, _], _ => rfl)
    case g_is_rule => exact PySem.W.mg_of X G a_is_rule
    case k_is_rule => exact k_is_rule
    case t_is_rule => exact fun_mk (st := s_is_rule) l_is_rule c_is_rule k_is_rule
    case d_is_rule => exact (fun_mk (st := s_is_rule) l_is_rule c_is_rule k_is_rule).binds (ps := p_is_rule) (fun _ _ _ _ _ _ us hl => match us, hl with | [_], _ => rfl)
    case g_is_number => exact PySem.W.mg_of X G a_is_number
    case k_is_number => exact k_is_number
    case t_is_number => exact fun_mk (st := s_is_number) l_is_number c_is_number k_is_number
    case d_is_number => exact (fun_mk (st := s_is_number) l_is_number c_is_number k_is_number).binds (ps := p_is_number) (fun _ _ _ _ _ _ us hl => match us, hl with | [_, _], _ => rfl)
    case g_is_word => exact PySem.W.mg_of X G a_is_word
    case k_is_word => exact k_is_word
    case t_is_word => exact fun_mk (st := s_is_word) l_is_word c_is_word k_is_word
    case d_is_word => exact (fun_mk (st := s_is_word) l_is_word c_is_word k_is_word).binds (ps := p_is_word) (fun _ _ _ _ _ _ us hl => match us, hl with | [_], _ => rfl)
    case g_is_event => exact PySem.W.mg_of X G a_is_event
    case k_is_event => exact k_is_event
    case t_is_event => exact fun_mk (st := s_is_event) l_is_event c_is_event k_is_event
    case d_is_event => exact (fun_mk (st := s_is_event) l_is_event c_is_event k_is_event).binds (ps := p_is_event) (fun _ _ _ _ _ _ us hl => match us, hl with | [_], _ => rfl)
    case g_are_events => exact PySem.W.mg_of X G a_are_events
    case k_are_events => exact k_are_events
    case t_are_events => exact fun_mk (st := s_are_events) l_are_events c_are_events k_are_events
    case d_are_events => exact (fun_mk (st := s_are_events) l_are_events c_are_events k_are_events).binds (ps := p_are_events) (fun _ _ _ _ _ _ us hl => match us, hl with | [_], _ => rfl)
    case g_need_rule => exact PySem.W.mg_of X G a_need_rule
    case k_need_rule => exact k_need_rule
    case t_need_rule => exact fun_mk (st := s_need_rule) l_need_rule c_need_rule k_need_rule
    case d_need_rule => exact (fun_mk (st := s_need_rule) l_need_rule c_need_rule k_need_rule).binds (ps := p_need_rule) (fun _ _ _ _ _ _ us hl => match us, hl with | [_], _ => rfl)
    case g_need_row => exact PySem.W.mg_of X G a_need_row
    case k_need_row => exact k_need_row
    case t_need_row => exact fun_mk (st := s_need_row) l_need_row c_need_row k_need_row
    case d_need_row => exact (fun_mk (st := s_need_row) l_need_row c_need_row k_need_row).binds (ps := p_need_row) (fun _ _ _ _ _ _ us hl => match us, hl with | [_], _ => rfl)
    case g_line_of => exact PySem.W.mg_of X G a_line_of
    case k_line_of => exact k_line_of
    case t_line_of => exact fun_mk (st := s_line_of) l_line_of c_line_of k_line_of
    case d_line_of => exact (fun_mk (st := s_line_of) l_line_of c_line_of k_line_of).binds (ps := p_line_of) (fun _ _ _ _ _ _ us hl => match us, hl with | [_, _], _ => rfl)
    case g_rule_lines => exact PySem.W.mg_of X G a_rule_lines
    case k_rule_lines => exact k_rule_lines
    case t_rule_lines => exact fun_mk (st := s_rule_lines) l_rule_lines c_rule_lines k_rule_lines
    case d_rule_lines => exact (fun_mk (st := s_rule_lines) l_rule_lines c_rule_lines k_rule_lines).binds (ps := p_rule_lines) (fun _ _ _ _ _ _ us hl => match us, hl with | [_], _ => rfl)
    case g_rule_text => exact PySem.W.mg_of X G a_rule_text
    case k_rule_text => exact k_rule_text
    case t_rule_text => exact fun_mk (st := s_rule_text) l_rule_text c_rule_text k_rule_text
    case d_rule_text => exact (fun_mk (st := s_rule_text) l_rule_text c_rule_text k_rule_text).binds (ps := p_rule_text) (fun _ _ _ _ _ _ us hl => match us, hl with | [_], _ => rfl)
    case g_value_in => exact PySem.W.mg_of X G a_value_in
    case k_value_in => exact k_value_in
    case t_value_in => exact fun_mk (st := s_value_in) l_value_in c_value_in k_value_in
    case d_value_in => exact (fun_mk (st := s_value_in) l_value_in c_value_in k_value_in).binds (ps := p_value_in) (fun _ _ _ _ _ _ us hl => match us, hl with | [_, _], _ => rfl)
    case g_read_rule => exact PySem.W.mg_of X G a_read_rule
    case k_read_rule => exact k_read_rule
    case t_read_rule => exact fun_mk (st := s_read_rule) l_read_rule c_read_rule k_read_rule
    case d_read_rule => exact (fun_mk (st := s_read_rule) l_read_rule c_read_rule k_read_rule).binds (ps := p_read_rule) (fun _ _ _ _ _ _ us hl => match us, hl with | [_], _ => rfl)
    case g_event_line => exact PySem.W.mg_of X G a_event_line
    case k_event_line => exact k_event_line
    case t_event_line => exact fun_mk (st := s_event_line) l_event_line c_event_line k_event_line
    case d_event_line => exact (fun_mk (st := s_event_line) l_event_line c_event_line k_event_line).binds (ps := p_event_line) (fun _ _ _ _ _ _ us hl => match us, hl with | [_], _ => rfl)
    case g_row_text => exact PySem.W.mg_of X G a_row_text
    case k_row_text => exact k_row_text
    case t_row_text => exact fun_mk (st := s_row_text) l_row_text c_row_text k_row_text
    case d_row_text => exact (fun_mk (st := s_row_text) l_row_text c_row_text k_row_text).binds (ps := p_row_text) (fun _ _ _ _ _ _ us hl => match us, hl with | [_], _ => rfl)
    case g_event_in => exact PySem.W.mg_of X G a_event_in
    case k_event_in => exact k_event_in
    case t_event_in => exact fun_mk (st := s_event_in) l_event_in c_event_in k_event_in
    case d_event_in => exact (fun_mk (st := s_event_in) l_event_in c_event_in k_event_in).binds (ps := p_event_in) (fun _ _ _ _ _ _ us hl => match us, hl with | [_], _ => rfl)
    case g_read_row => exact PySem.W.mg_of X G a_read_row
    case k_read_row => exact k_read_row
    case t_read_row => exact fun_mk (st := s_read_row) l_read_row c_read_row k_read_row
    case d_read_row => exact (fun_mk (st := s_read_row) l_read_row c_read_row k_read_row).binds (ps := p_read_row) (fun _ _ _ _ _ _ us hl => match us, hl with | [_], _ => rfl)
    case g__law_pot => exact PySem.W.mg_of X G a__law_pot
    case k__law_pot => exact k__law_pot
    case t__law_pot => exact fun_mk (st := s__law_pot) l__law_pot c__law_pot k__law_pot
    case d__law_pot => exact (fun_mk (st := s__law_pot) l__law_pot c__law_pot k__law_pot).binds (ps := p__law_pot) (fun _ _ _ _ _ _ us hl => match us, hl with | [_, _], _ => rfl)
    case g__law_lot => exact PySem.W.mg_of X G a__law_lot
    case k__law_lot => exact k__law_lot
    case t__law_lot => exact fun_mk (st := s__law_lot) l__law_lot c__law_lot k__law_lot
    case d__law_lot => exact (fun_mk (st := s__law_lot) l__law_lot c__law_lot k__law_lot).binds (ps := p__law_lot) (fun _ _ _ _ _ _ us hl => match us, hl with | [_, _], _ => rfl)
    case g__law_pick => exact PySem.W.mg_of X G a__law_pick
    case k__law_pick => exact k__law_pick
    case t__law_pick => exact fun_mk (st := s__law_pick) l__law_pick c__law_pick k__law_pick
    case d__law_pick => exact (fun_mk (st := s__law_pick) l__law_pick c__law_pick k__law_pick).binds (ps := p__law_pick) (fun _ _ _ _ _ _ us hl => match us, hl with | [_, _], _ => rfl)
    case g__law_values => exact PySem.W.mg_of X G a__law_values
    case k__law_values => exact k__law_values
    case t__law_values => exact fun_mk (st := s__law_values) l__law_values c__law_values k__law_values
    case d__law_values => exact (fun_mk (st := s__law_values) l__law_values c__law_values k__law_values).binds (ps := p__law_values) (fun _ _ _ _ _ _ us hl => match us, hl with | [], _ => rfl)
    case g__law_rule => exact PySem.W.mg_of X G a__law_rule
    case k__law_rule => exact k__law_rule
    case t__law_rule => exact fun_mk (st := s__law_rule) l__law_rule c__law_rule k__law_rule
    case d__law_rule => exact (fun_mk (st := s__law_rule) l__law_rule c__law_rule k__law_rule).binds (ps := p__law_rule) (fun _ _ _ _ _ _ us hl => match us, hl with | [_], _ => rfl)
    case g__law_words => exact PySem.W.mg_of X G a__law_words
    case k__law_words => exact k__law_words
    case t__law_words => exact fun_mk (st := s__law_words) l__law_words c__law_words k__law_words
    case d__law_words => exact (fun_mk (st := s__law_words) l__law_words c__law_words k__law_words).binds (ps := p__law_words) (fun _ _ _ _ _ _ us hl => match us, hl with | [], _ => rfl)
    case g__law_event => exact PySem.W.mg_of X G a__law_event
    case k__law_event => exact k__law_event
    case t__law_event => exact fun_mk (st := s__law_event) l__law_event c__law_event k__law_event
    case d__law_event => exact (fun_mk (st := s__law_event) l__law_event c__law_event k__law_event).binds (ps := p__law_event) (fun _ _ _ _ _ _ us hl => match us, hl with | [_], _ => rfl)
    case g__law_row => exact PySem.W.mg_of X G a__law_row
    case k__law_row => exact k__law_row
    case t__law_row => exact fun_mk (st := s__law_row) l__law_row c__law_row k__law_row
    case d__law_row => exact (fun_mk (st := s__law_row) l__law_row c__law_row k__law_row).binds (ps := p__law_row) (fun _ _ _ _ _ _ us hl => match us, hl with | [_, _], _ => rfl)
    case g__law_rule_lines => exact PySem.W.mg_of X G a__law_rule_lines
    case k__law_rule_lines => exact k__law_rule_lines
    case t__law_rule_lines => exact fun_mk (st := s__law_rule_lines) l__law_rule_lines c__law_rule_lines k__law_rule_lines
    case d__law_rule_lines => exact (fun_mk (st := s__law_rule_lines) l__law_rule_lines c__law_rule_lines k__law_rule_lines).binds (ps := p__law_rule_lines) (fun _ _ _ _ _ _ us hl => match us, hl with | [_], _ => rfl)
    case g__law_event_lines => exact PySem.W.mg_of X G a__law_event_lines
    case k__law_event_lines => exact k__law_event_lines
    case t__law_event_lines => exact fun_mk (st := s__law_event_lines) l__law_event_lines c__law_event_lines k__law_event_lines
    case d__law_event_lines => exact (fun_mk (st := s__law_event_lines) l__law_event_lines c__law_event_lines k__law_event_lines).binds (ps := p__law_event_lines) (fun _ _ _ _ _ _ us hl => match us, hl with | [_], _ => rfl)
    case g_law => exact PySem.W.mg_of X G a_law
    case k_law => exact k_law
    case t_law => exact fun_mk (st := s_law) l_law c_law k_law
    case d_law => exact (fun_mk (st := s_law) l_law c_law k_law).binds (ps := p_law) (fun _ _ _ _ _ _ us hl => match us, hl with | [_], _ => rfl)
    case g_FetchError => exact PySem.W.mg_of X G a_FetchError
    case k_FetchError => exact k_FetchError
    case u_FetchError => exact u_FetchError
    case y_FetchError => exact y_FetchError
    case x_FetchError => exact q_FetchError
    case g_InvalidRule => exact PySem.W.mg_of X G a_InvalidRule
    case k_InvalidRule => exact k_InvalidRule
    case u_InvalidRule => exact u_InvalidRule
    case y_InvalidRule => exact y_InvalidRule
    case x_InvalidRule => exact q_InvalidRule
    case g_InvalidRow => exact PySem.W.mg_of X G a_InvalidRow
    case k_InvalidRow => exact k_InvalidRow
    case u_InvalidRow => exact u_InvalidRow
    case y_InvalidRow => exact y_InvalidRow
    case x_InvalidRow => exact q_InvalidRow
    case e_EVENTS => exact fun hK hM hg => g_const (v := (.ref y_EVENTS)) (PySem.W.mg_of X G a_EVENTS) (rv_ref y_EVENTS) (fun C hC => (rep_tup hC l_EVENTS (Nat.le_of_ble_eq_true (by rfl)) (.cons (rv_ref y_EVENTS_0) (.cons (rv_ref y_EVENTS_1) (.cons (rv_ref y_EVENTS_2) (.cons (rv_ref y_EVENTS_3) (.cons (rv_ref y_EVENTS_4) (.cons (rv_ref y_EVENTS_5) (.cons (rv_ref y_EVENTS_6) (.cons (rv_ref y_EVENTS_7) (.cons (rv_ref y_EVENTS_8) (.cons (rv_ref y_EVENTS_9) (.cons (rv_ref y_EVENTS_10) (.cons (rv_ref y_EVENTS_11) (.cons (rv_ref y_EVENTS_12) (.cons (rv_ref y_EVENTS_13) (.cons (rv_ref y_EVENTS_14) (.cons (rv_ref y_EVENTS_15) (.cons (rv_ref y_EVENTS_16) (.cons (rv_ref y_EVENTS_17) .nil)))))))))))))))))) (.cons (rep_tup hC l_EVENTS_0 (Nat.le_of_ble_eq_true (by rfl)) (.cons (rv_str t_clear (by kernel_rfl)) (.cons (rv_int 0) .nil)) (.cons (rep_str (s := t_clear) (by decide +kernel)) (.cons (.int _) .nil))) (.cons (rep_tup hC l_EVENTS_1 (Nat.le_of_ble_eq_true (by rfl)) (.cons (rv_str t_clear (by kernel_rfl)) (.cons (rv_int 1) .nil)) (.cons (rep_str (s := t_clear) (by decide +kernel)) (.cons (.int _) .nil))) (.cons (rep_tup hC l_EVENTS_2 (Nat.le_of_ble_eq_true (by rfl)) (.cons (rv_str t_come (by kernel_rfl)) (.cons (rv_int 0) .nil)) (.cons (rep_str (s := t_come) (by decide +kernel)) (.cons (.int _) .nil))) (.cons (rep_tup hC l_EVENTS_3 (Nat.le_of_ble_eq_true (by rfl)) (.cons (rv_str t_come (by kernel_rfl)) (.cons (rv_int 1) .nil)) (.cons (rep_str (s := t_come) (by decide +kernel)) (.cons (.int _) .nil))) (.cons (rep_tup hC l_EVENTS_4 (Nat.le_of_ble_eq_true (by rfl)) (.cons (rv_str t_come (by kernel_rfl)) (.cons (rv_int 2) .nil)) (.cons (rep_str (s := t_come) (by decide +kernel)) (.cons (.int _) .nil))) (.cons (rep_tup hC l_EVENTS_5 (Nat.le_of_ble_eq_true (by rfl)) (.cons (rv_str t_court (by kernel_rfl)) (.cons (rv_int 0) .nil)) (.cons (rep_str (s := t_court) (by decide +kernel)) (.cons (.int _) .nil))) (.cons (rep_tup hC l_EVENTS_6 (Nat.le_of_ble_eq_true (by rfl)) (.cons (rv_str t_court (by kernel_rfl)) (.cons (rv_int 1) .nil)) (.cons (rep_str (s := t_court) (by decide +kernel)) (.cons (.int _) .nil))) (.cons (rep_tup hC l_EVENTS_7 (Nat.le_of_ble_eq_true (by rfl)) (.cons (rv_str t_morning (by kernel_rfl)) .nil) (.cons (rep_str (s := t_morning) (by decide +kernel)) .nil)) (.cons (rep_tup hC l_EVENTS_8 (Nat.le_of_ble_eq_true (by rfl)) (.cons (rv_str t_paper (by kernel_rfl)) (.cons (rv_int 0) .nil)) (.cons (rep_str (s := t_paper) (by decide +kernel)) (.cons (.int _) .nil))) (.cons (rep_tup hC l_EVENTS_9 (Nat.le_of_ble_eq_true (by rfl)) (.cons (rv_str t_paper (by kernel_rfl)) (.cons (rv_int 1) .nil)) (.cons (rep_str (s := t_paper) (by decide +kernel)) (.cons (.int _) .nil))) (.cons (rep_tup hC l_EVENTS_10 (Nat.le_of_ble_eq_true (by rfl)) (.cons (rv_str t_say (by kernel_rfl)) (.cons (rv_int 0) (.cons (rv_str t_always (by kernel_rfl)) .nil))) (.cons (rep_str (s := t_say) (by decide +kernel)) (.cons (.int _) (.cons (rep_str (s := t_always) (by decide +kernel)) .nil)))) (.cons (rep_tup hC l_EVENTS_11 (Nat.le_of_ble_eq_true (by rfl)) (.cons (rv_str t_say (by kernel_rfl)) (.cons (rv_int 0) (.cons (rv_str t_bar (by kernel_rfl)) .nil))) (.cons (rep_str (s := t_say) (by decide +kernel)) (.cons (.int _) (.cons (rep_str (s := t_bar) (by decide +kernel)) .nil)))) (.cons (rep_tup hC l_EVENTS_12 (Nat.le_of_ble_eq_true (by rfl)) (.cons (rv_str t_say (by kernel_rfl)) (.cons (rv_int 0) (.cons (rv_str t_no (by kernel_rfl)) .nil))) (.cons (rep_str (s := t_say) (by decide +kernel)) (.cons (.int _) (.cons (rep_str (s := t_no) (by decide +kernel)) .nil)))) (.cons (rep_tup hC l_EVENTS_13 (Nat.le_of_ble_eq_true (by rfl)) (.cons (rv_str t_say (by kernel_rfl)) (.cons (rv_int 0) (.cons (rv_str t_once (by kernel_rfl)) .nil))) (.cons (rep_str (s := t_say) (by decide +kernel)) (.cons (.int _) (.cons (rep_str (s := t_once) (by decide +kernel)) .nil)))) (.cons (rep_tup hC l_EVENTS_14 (Nat.le_of_ble_eq_true (by rfl)) (.cons (rv_str t_say (by kernel_rfl)) (.cons (rv_int 1) (.cons (rv_str t_always (by kernel_rfl)) .nil))) (.cons (rep_str (s := t_say) (by decide +kernel)) (.cons (.int _) (.cons (rep_str (s := t_always) (by decide +kernel)) .nil)))) (.cons (rep_tup hC l_EVENTS_15 (Nat.le_of_ble_eq_true (by rfl)) (.cons (rv_str t_say (by kernel_rfl)) (.cons (rv_int 1) (.cons (rv_str t_bar (by kernel_rfl)) .nil))) (.cons (rep_str (s := t_say) (by decide +kernel)) (.cons (.int _) (.cons (rep_str (s := t_bar) (by decide +kernel)) .nil)))) (.cons (rep_tup hC l_EVENTS_16 (Nat.le_of_ble_eq_true (by rfl)) (.cons (rv_str t_say (by kernel_rfl)) (.cons (rv_int 1) (.cons (rv_str t_no (by kernel_rfl)) .nil))) (.cons (rep_str (s := t_say) (by decide +kernel)) (.cons (.int _) (.cons (rep_str (s := t_no) (by decide +kernel)) .nil)))) (.cons (rep_tup hC l_EVENTS_17 (Nat.le_of_ble_eq_true (by rfl)) (.cons (rv_str t_say (by kernel_rfl)) (.cons (rv_int 1) (.cons (rv_str t_once (by kernel_rfl)) .nil))) (.cons (rep_str (s := t_say) (by decide +kernel)) (.cons (.int _) (.cons (rep_str (s := t_once) (by decide +kernel)) .nil)))) .nil)))))))))))))))))))) nm_EVENTS hK hM hg
    case e_MOST_EVENTS => exact fun hK hM hg => g_const (v := (.int 60)) (PySem.W.mg_of X G a_MOST_EVENTS) (rv_int 60) (fun C hC => (.int _)) nm_MOST_EVENTS hK hM hg
    case e_PART_NAMES => exact fun hK hM hg => g_const (v := (.ref y_PART_NAMES)) (PySem.W.mg_of X G a_PART_NAMES) (rv_ref y_PART_NAMES) (fun C hC => (rep_tup hC l_PART_NAMES (Nat.le_of_ble_eq_true (by rfl)) (.cons (rv_str t_words (by kernel_rfl)) (.cons (rv_str t_bars (by kernel_rfl)) (.cons (rv_str t_lag (by kernel_rfl)) (.cons (rv_str t_court (by kernel_rfl)) (.cons (rv_str t_once (by kernel_rfl)) (.cons (rv_str t_void (by kernel_rfl)) (.cons (rv_str t_paper (by kernel_rfl)) .nil))))))) (.cons (rep_str (s := t_words) (by decide +kernel)) (.cons (rep_str (s := t_bars) (by decide +kernel)) (.cons (rep_str (s := t_lag) (by decide +kernel)) (.cons (rep_str (s := t_court) (by decide +kernel)) (.cons (rep_str (s := t_once) (by decide +kernel)) (.cons (rep_str (s := t_void) (by decide +kernel)) (.cons (rep_str (s := t_paper) (by decide +kernel)) .nil))))))))) nm_PART_NAMES hK hM hg
    case e_VALUES => exact fun hK hM hg => g_const (v := (.ref y_VALUES)) (PySem.W.mg_of X G a_VALUES) (rv_ref y_VALUES) (fun C hC => (rep_tup hC l_VALUES (Nat.le_of_ble_eq_true (by rfl)) (.cons (rv_ref y_VALUES_0) (.cons (rv_ref y_VALUES_1) (.cons (rv_ref y_VALUES_2) (.cons (rv_ref y_VALUES_3) (.cons (rv_ref y_VALUES_4) (.cons (rv_ref y_VALUES_5) (.cons (rv_ref y_VALUES_6) .nil))))))) (.cons (rep_tup hC l_VALUES_0 (Nat.le_of_ble_eq_true (by rfl)) (.cons (rv_str t_both (by kernel_rfl)) (.cons (rv_str t_either (by kernel_rfl)) (.cons (rv_str t_last (by kernel_rfl)) .nil))) (.cons (rep_str (s := t_both) (by decide +kernel)) (.cons (rep_str (s := t_either) (by decide +kernel)) (.cons (rep_str (s := t_last) (by decide +kernel)) .nil)))) (.cons (rep_tup hC l_VALUES_1 (Nat.le_of_ble_eq_true (by rfl)) (.cons (rv_str t_own (by kernel_rfl)) (.cons (rv_str t_win (by kernel_rfl)) .nil)) (.cons (rep_str (s := t_own) (by decide +kernel)) (.cons (rep_str (s := t_win) (by decide +kernel)) .nil))) (.cons (rep_tup hC l_VALUES_2 (Nat.le_of_ble_eq_true (by rfl)) (.cons (rv_str t_morning (by kernel_rfl)) (.cons (rv_str t_now (by kernel_rfl)) .nil)) (.cons (rep_str (s := t_morning) (by decide +kernel)) (.cons (rep_str (s := t_now) (by decide +kernel)) .nil))) (.cons (rep_tup hC l_VALUES_3 (Nat.le_of_ble_eq_true (by rfl)) (.cons (rv_str t_morning (by kernel_rfl)) (.cons (rv_str t_now (by kernel_rfl)) .nil)) (.cons (rep_str (s := t_morning) (by decide +kernel)) (.cons (rep_str (s := t_now) (by decide +kernel)) .nil))) (.cons (rep_tup hC l_VALUES_4 (Nat.le_of_ble_eq_true (by rfl)) (.cons (rv_str t_day (by kernel_rfl)) (.cons (rv_str t_use (by kernel_rfl)) .nil)) (.cons (rep_str (s := t_day) (by decide +kernel)) (.cons (rep_str (s := t_use) (by decide +kernel)) .nil))) (.cons (rep_tup hC l_VALUES_5 (Nat.le_of_ble_eq_true (by rfl)) (.cons (rv_bl false) (.cons (rv_bl true) .nil)) (.cons (.bl _) (.cons (.bl _) .nil))) (.cons (rep_tup hC l_VALUES_6 (Nat.le_of_ble_eq_true (by rfl)) (.cons (rv_bl false) (.cons (rv_bl true) .nil)) (.cons (.bl _) (.cons (.bl _) .nil))) .nil))))))))) nm_VALUES hK hM hg
    case e_WORDS => exact fun hK hM hg => g_const (v := (.ref y_WORDS)) (PySem.W.mg_of X G a_WORDS) (rv_ref y_WORDS) (fun C hC => (rep_tup hC l_WORDS (Nat.le_of_ble_eq_true (by rfl)) (.cons (rv_str t_always (by kernel_rfl)) (.cons (rv_str t_bar (by kernel_rfl)) (.cons (rv_str t_no (by kernel_rfl)) (.cons (rv_str t_once (by kernel_rfl)) .nil)))) (.cons (rep_str (s := t_always) (by decide +kernel)) (.cons (rep_str (s := t_bar) (by decide +kernel)) (.cons (rep_str (s := t_no) (by decide +kernel)) (.cons (rep_str (s := t_once) (by decide +kernel)) .nil)))))) nm_WORDS hK hM hg
    case b_all => exact PySem.W.mg_none_of X G b_all
    case b_any => exact PySem.W.mg_none_of X G b_any
    case b_bool => exact PySem.W.mg_none_of X G b_bool
    case b_enumerate => exact PySem.W.mg_none_of X G b_enumerate
    case b_int => exact PySem.W.mg_none_of X G b_int
    case b_isinstance => exact PySem.W.mg_none_of X G b_isinstance
    case b_len => exact PySem.W.mg_none_of X G b_len
    case b_range => exact PySem.W.mg_none_of X G b_range
    case b_str => exact PySem.W.mg_none_of X G b_str
    case b_tuple => exact PySem.W.mg_none_of X G b_tuple
    case b_zip => exact PySem.W.mg_none_of X G b_zip
  exact ⟨_, fun s v => .of_eq rfl, fun base _ _ => law_imp hk (ok_law T)⟩
end K10
end WF

set_option Elab.async false
set_option linter.all false
open PySem PySem.W PyProof.Rows
set_option maxRecDepth 100000 in
set_option maxHeartbeats 0 in
theorem PySem.Challenge.cw_whofetches_k10_texts_there_and_back_holds : PySem.Challenge.rw_whofetches_k10_texts_there_and_back.Holds := by
  w_on; o_law; k_head; (case hw => w_witness2)
  k_fill
  refine L2.walk_of (l := PySem.Challenge.rw_whofetches_k10_texts_there_and_back) (n := 63) (k := 6) (x := "script") (CX := fun w => L2.CX PySem.Challenge.rw_whofetches_k10_texts_there_and_back.prog w) (sp := fun w => WF.spLaw _) rfl (by decide) rfl ⟨rfl, by decide, by decide⟩ (fun w h Y => PySem.W.kIn_of Y) ?F (fun _ _ a ns hl _ hS => ⟨a, ns, rfl, hS, hl, fun _ => rfl⟩) fun _ _ _ _ _ ⟨_, _, _, _, _, _, _, _, _, _, _, _, z⟩ => z
  case F =>
    intro w mg fa h KX G hmg
    refine' WF.K10.all_mk WF.K10.keeps KX G hmg ?a_is_same ?l_is_same ?c_is_same ?k_is_same ?a_is_rule ?l_is_rule ?c_is_rule ?k_is_rule ?a_is_number ?l_is_number ?c_is_number ?k_is_number ?a_is_word ?l_is_word ?c_is_word ?k_is_word ?a_is_event ?l_is_event ?c_is_event ?k_is_event ?a_are_events ?l_are_events ?c_are_events ?k_are_events ?a_need_rule ?l_need_rule ?c_need_rule ?k_need_rule ?a_need_row ?l_need_row ?c_need_row ?k_need_row ?a_line_of ?l_line_of ?c_line_of ?k_line_of ?a_rule_lines ?l_rule_lines ?c_rule_lines ?k_rule_lines ?a_rule_text ?l_rule_text ?c_rule_text ?k_rule_text ?a_value_in ?l_value_in ?c_value_in ?k_value_in ?a_read_rule ?l_read_rule ?c_read_rule ?k_read_rule ?a_event_line ?l_event_line ?c_event_line ?k_event_line ?a_row_text ?l_row_text ?c_row_text ?k_row_text ?a_event_in ?l_event_in ?c_event_in ?k_event_in ?a_read_row ?l_read_row ?c_read_row ?k_read_row ?a__law_pot ?l__law_pot ?c__law_pot ?k__law_pot ?a__law_lot ?l__law_lot ?c__law_lot ?k__law_lot ?a__law_pick ?l__law_pick ?c__law_pick ?k__law_pick ?a__law_values ?l__law_values ?c__law_values ?k__law_values ?a__law_rule ?l__law_rule ?c__law_rule ?k__law_rule ?a__law_words ?l__law_words ?c__law_words ?k__law_words ?a__law_event ?l__law_event ?c__law_event ?k__law_event ?a__law_row ?l__law_row ?c__law_row ?k__law_row ?a__law_rule_lines ?l__law_rule_lines ?c__law_rule_lines ?k__law_rule_lines ?a__law_event_lines ?l__law_event_lines ?c__law_event_lines ?k__law_event_lines ?a_law ?l_law ?c_law ?k_law ?a_FetchError ?k_FetchError ?u_FetchError ?y_FetchError ?q_FetchError ?a_InvalidRule ?k_InvalidRule ?u_InvalidRule ?y_InvalidRule ?q_InvalidRule ?a_InvalidRow ?k_InvalidRow ?u_InvalidRow ?y_InvalidRow ?q_InvalidRow ?a_EVENTS ?l_EVENTS ?l_EVENTS_0 ?l_EVENTS_1 ?l_EVENTS_2 ?l_EVENTS_3 ?l_EVENTS_4 ?l_EVENTS_5 ?l_EVENTS_6 ?l_EVENTS_7 ?l_EVENTS_8 ?l_EVENTS_9 ?l_EVENTS_10 ?l_EVENTS_11 ?l_EVENTS_12 ?l_EVENTS_13 ?l_EVENTS_14 ?l_EVENTS_15 ?l_EVENTS_16 ?l_EVENTS_17 ?a_MOST_EVENTS ?a_PART_NAMES ?l_PART_NAMES ?a_VALUES ?l_VALUES ?l_VALUES_0 ?l_VALUES_1 ?l_VALUES_2 ?l_VALUES_3 ?l_VALUES_4 ?l_VALUES_5 ?l_VALUES_6 ?a_WORDS ?l_WORDS ?b_all ?b_any ?b_bool ?b_enumerate ?b_int ?b_isinstance ?b_len ?b_range ?b_str ?b_tuple ?b_zip
    (case a_is_same => k_is)
    (case l_is_same => k_is)
    (case c_is_same => k_is)
    (case k_is_same => k_is)
    (case a_is_rule => k_is)
    (case l_is_rule => k_is)
    (case c_is_rule => k_is)
    (case k_is_rule => k_is)
    (case a_is_number => k_is)
    (case l_is_number => k_is)
    (case c_is_number => k_is)
    (case k_is_number => k_is)
    (case a_is_word => k_is)
    (case l_is_word => k_is)
    (case c_is_word => k_is)
    (case k_is_word => k_is)
    (case a_is_event => k_is)
    (case l_is_event => k_is)
    (case c_is_event => k_is)
    (case k_is_event => k_is)
    (case a_are_events => k_is)
    (case l_are_events => k_is)
    (case c_are_events => k_is)
    (case k_are_events => k_is)
    (case a_need_rule => k_is)
    (case l_need_rule => k_is)
    (case c_need_rule => k_is)
    (case k_need_rule => k_is)
    (case a_need_row => k_is)
    (case l_need_row => k_is)
    (case c_need_row => k_is)
    (case k_need_row => k_is)
    (case a_line_of => k_is)
    (case l_line_of => k_is)
    (case c_line_of => k_is)
    (case k_line_of => k_is)
    (case a_rule_lines => k_is)
    (case l_rule_lines => k_is)
    (case c_rule_lines => k_is)
    (case k_rule_lines => k_is)
    (case a_rule_text => k_is)
    (case l_rule_text => k_is)
    (case c_rule_text => k_is)
    (case k_rule_text => k_is)
    (case a_value_in => k_is)
    (case l_value_in => k_is)
    (case c_value_in => k_is)
    (case k_value_in => k_is)
    (case a_read_rule => k_is)
    (case l_read_rule => k_is)
    (case c_read_rule => k_is)
    (case k_read_rule => k_is)
    (case a_event_line => k_is)
    (case l_event_line => k_is)
    (case c_event_line => k_is)
    (case k_event_line => k_is)
    (case a_row_text => k_is)
    (case l_row_text => k_is)
    (case c_row_text => k_is)
    (case k_row_text => k_is)
    (case a_event_in => k_is)
    (case l_event_in => k_is)
    (case c_event_in => k_is)
    (case k_event_in => k_is)
    (case a_read_row => k_is)
    (case l_read_row => k_is)
    (case c_read_row => k_is)
    (case k_read_row => k_is)
    (case a__law_pot => k_is)
    (case l__law_pot => k_is)
    (case c__law_pot => k_is)
    (case k__law_pot => k_is)
    (case a__law_lot => k_is)
    (case l__law_lot => k_is)
    (case c__law_lot => k_is)
    (case k__law_lot => k_is)
    (case a__law_pick => k_is)
    (case l__law_pick => k_is)
    (case c__law_pick => k_is)
    (case k__law_pick => k_is)
    (case a__law_values => k_is)
    (case l__law_values => k_is)
    (case c__law_values => k_is)
    (case k__law_values => k_is)
    (case a__law_rule => k_is)
    (case l__law_rule => k_is)
    (case c__law_rule => k_is)
    (case k__law_rule => k_is)
    (case a__law_words => k_is)
    (case l__law_words => k_is)
    (case c__law_words => k_is)
    (case k__law_words => k_is)
    (case a__law_event => k_is)
    (case l__law_event => k_is)
    (case c__law_event => k_is)
    (case k__law_event => k_is)
    (case a__law_row => k_is)
    (case l__law_row => k_is)
    (case c__law_row => k_is)
    (case k__law_row => k_is)
    (case a__law_rule_lines => k_is)
    (case l__law_rule_lines => k_is)
    (case c__law_rule_lines => k_is)
    (case k__law_rule_lines => k_is)
    (case a__law_event_lines => k_is)
    (case l__law_event_lines => k_is)
    (case c__law_event_lines => k_is)
    (case k__law_event_lines => k_is)
    (case a_law => k_is)
    (case l_law => k_is)
    (case c_law => k_is)
    (case k_law => k_is)
    (case a_FetchError => k_is)
    (case k_FetchError => k_is)
    (case u_FetchError => k_is)
    (case y_FetchError => k_is)
    (case q_FetchError => kernel_rfl)
    (case a_InvalidRule => k_is)
    (case k_InvalidRule => k_is)
    (case u_InvalidRule => k_is)
    (case y_InvalidRule => k_is)
    (case q_InvalidRule => kernel_rfl)
    (case a_InvalidRow => k_is)
    (case k_InvalidRow => k_is)
    (case u_InvalidRow => k_is)
    (case y_InvalidRow => k_is)
    (case q_InvalidRow => kernel_rfl)
    (case a_EVENTS => k_is)
    (case l_EVENTS => k_is)
    (case l_EVENTS_0 => k_is)
    (case l_EVENTS_1 => k_is)
    (case l_EVENTS_2 => k_is)
    (case l_EVENTS_3 => k_is)
    (case l_EVENTS_4 => k_is)
    (case l_EVENTS_5 => k_is)
    (case l_EVENTS_6 => k_is)
    (case l_EVENTS_7 => k_is)
    (case l_EVENTS_8 => k_is)
    (case l_EVENTS_9 => k_is)
    (case l_EVENTS_10 => k_is)
    (case l_EVENTS_11 => k_is)
    (case l_EVENTS_12 => k_is)
    (case l_EVENTS_13 => k_is)
    (case l_EVENTS_14 => k_is)
    (case l_EVENTS_15 => k_is)
    (case l_EVENTS_16 => k_is)
    (case l_EVENTS_17 => k_is)
    (case a_MOST_EVENTS => k_is)
    (case a_PART_NAMES => k_is)
    (case l_PART_NAMES => k_is)
    (case a_VALUES => k_is)
    (case l_VALUES => k_is)
    (case l_VALUES_0 => k_is)
    (case l_VALUES_1 => k_is)
    (case l_VALUES_2 => k_is)
    (case l_VALUES_3 => k_is)
    (case l_VALUES_4 => k_is)
    (case l_VALUES_5 => k_is)
    (case l_VALUES_6 => k_is)
    (case a_WORDS => k_is)
    (case l_WORDS => k_is)
    (case b_all => k_is)
    (case b_any => k_is)
    (case b_bool => k_is)
    (case b_enumerate => k_is)
    (case b_int => k_is)
    (case b_isinstance => k_is)
    (case b_len => k_is)
    (case b_range => k_is)
    (case b_str => k_is)
    (case b_tuple => k_is)
    (case b_zip => k_is)
