import PyProof.Rows.All
import Wide.All
import OpenK.AllK
import Wide.FinOn
import HandS.ForMost
import HandS.ForExc
import HandS.TryMany
import HandS.Deep
import HandS.Conv
import HandS.Flow
import HandS.ExcInit
import KE.KDictKeyed
import KE.KeyNested
import HandS.TupAny
import HandS.TupMul
import HandS.Style
import HandS.IsInst
import HandS.Strs
import HandS.Zip
import KE.GoesEnum
import HandS.Codes
import HandS.SortRule
import KE.SortData
import HandS.ForSpec
import PySem.Challenge.RW_whofetches_k01_rules_and_rows_known
set_option linter.all false
/-! WFA: pure data, owned objects, the monad of the mirror functions, one combinator for each construct. Core Lean alone. -/
namespace WF
abbrev Txt := List Nat

/-- pure data; dic true: the keys are tuples, dic false: texts -/
inductive D where
  | non | bl (b : Bool) | int (i : Int) | str (s : Txt) | tup (xs : List D) | lst (xs : List D) | dic (t : Bool) (kvs : List (D × D))
deriving Inhabited

/-- the longest list, tuple, text -/
abbrev LIM : Nat := 16777216

mutual
/-- Python's == -/
def D.eqv : D → D → Bool
  | .non, .non => true
  | .bl a, .bl b => a == b
  | .bl a, .int j => (if a then 1 else 0) == j
  | .int i, .bl b => i == (if b then 1 else 0)
  | .int i, .int j => i == j
  | .str x, .str y => x == y
  | .tup xs, .tup ys => D.eqvs xs ys
  | .lst xs, .lst ys => D.eqvs xs ys
  | _, _ => false
def D.eqvs : List D → List D → Bool
  | [], [] => true
  | x :: xs, y :: ys => D.eqv x y && D.eqvs xs ys
  | _, _ => false
end
mutual
/-- how deep it is nested; a dict is too deep for == -/
def D.dep : D → Nat
  | .tup xs => D.deps xs + 1
  | .lst xs => D.deps xs + 1
  | .dic _ _ => 1000
  | _ => 0
def D.deps : List D → Nat
  | [] => 0
  | x :: xs => max (D.dep x) (D.deps xs)
end
def D.flat : D → Bool
  | .non => true | .bl _ => true | .int _ => true | .str _ => true | _ => false

/-- what only one name holds -/
inductive O where
  | lst (xs : List D) | dic (t : Bool) (kvs : List (D × D)) | ins (c : Nat) (fs : List (Txt × D))
deriving Inhabited
def O.toD : O → Option D
  | .lst xs => some (.lst xs)
  | .dic t kvs => some (.dic t kvs)
  | .ins _ _ => none
/-- a name's binding: shared data; its own object; a caller's object, lent -/
inductive SB where
  | sh (d : D) | ow (o : O) | io (o : O)
deriving Inhabited
def SB.toD : SB → Option D
  | .sh d => some d
  | .ow o => o.toD
  | .io o => o.toD
def SB.obj : SB → Option O
  | .sh _ => none
  | .ow o => some o
  | .io o => some o
def SB.put : SB → O → SB
  | .sh d, _ => .sh d
  | .ow _, o => .ow o
  | .io _, o => .io o
/-- what an expression gives: data; a new object; the object of the name at a place; a new tuple with objects in it -/
inductive B where
  | sh (d : D) | ow (o : O) | pl (i : Nat) | tp (bs : List SB)
deriving Inhabited

abbrev Env := List (Option SB)
def Env.at (ρ : Env) (i : Nat) : Option SB := ρ.getD i none

/-- an error: its class, its attribute -/
inductive Res (α : Type) where
  | ok (a : α) | exc (c : Nat) (p : Option (Txt × D))
abbrev M (α : Type) := Env → Option (Res α × Env)
def ret {α : Type} (a : α) : M α := fun ρ => some (.ok a, ρ)
def stuck {α : Type} : M α := fun _ => none
def bind {α β : Type} (m : M α) (k : α → M β) : M β := fun ρ =>
  match m ρ with
  | none => none
  | some (.exc c p, ρ1) => some (.exc c p, ρ1)
  | some (.ok a, ρ1) => k a ρ1
def lift {α : Type} (o : Option α) : M α := fun ρ => match o with | none => none | some a => some (.ok a, ρ)
instance : Monad M where
  pure := ret
  bind := bind

def sbsD : List SB → Option (List D)
  | [] => some []
  | b :: r => match b.toD, sbsD r with | some d, some ds => some (d :: ds) | _, _ => none
/-- the data that it is, as things stand -/
def B.dat (ρ : Env) : B → Option D
  | .sh d => some d
  | .ow o => o.toD
  | .pl i => match ρ.at i with | some b => b.toD | none => none
  | .tp bs => match sbsD bs with | some ds => some (.tup ds) | none => none
def dat (b : B) : M D := fun ρ => match b.dat ρ with | none => none | some d => some (.ok d, ρ)

/-! ### names, constants -/
def mK (d : D) : M B := ret (.sh d)
/-- a name, as a value: its object is shared from now on -/
def mV (i : Nat) : M B := fun ρ => match ρ.at i with
  | some (.sh d) => some (.ok (.sh d), ρ)
  | some (.ow o) => match o.toD with | some d => some (.ok (.sh d), ρ.set i (some (.sh d))) | none => none
  | _ => none
/-- a name, looked at -/
def mP (i : Nat) : M B := fun ρ => match ρ.at i with
  | some (.sh d) => some (.ok (.sh d), ρ)
  | some (.ow _) => some (.ok (.pl i), ρ)
  | some (.io _) => some (.ok (.pl i), ρ)
  | none => none

/-! ### operators by values -/
def iAdd (x y : D) : Option B := match x, y with
  | .int a, .int b => some (.sh (.int (a + b)))
  | .str a, .str b => if a.length + b.length ≤ LIM then some (.sh (.str (a ++ b))) else none
  | .tup a, .tup b => if a.length + b.length ≤ LIM then some (.sh (.tup (a ++ b))) else none
  | .lst a, .lst b => if a.length + b.length ≤ LIM then some (.ow (.lst (a ++ b))) else none
  | _, _ => none
def iSub (x y : D) : Option B := match x, y with
  | .int a, .int b => some (.sh (.int (a - b)))
  | _, _ => none
def smallI (a : Int) : Bool := decide (-(2 ^ 64) < a) && decide (a < 2 ^ 64)
def repL {α : Type} (xs : List α) (n : Nat) : List α := (List.replicate n xs).flatten
def iMul (x y : D) : Option B := match x, y with
  | .int a, .int b => if smallI a || smallI b then some (.sh (.int (a * b))) else none
  | .lst a, .int n => if decide (0 ≤ n) && decide (n ≤ 1000) && decide (a.length ≤ 1000) then some (.ow (.lst (repL a n.toNat))) else none
  | .tup a, .int n => if decide (2 ≤ n) && decide (n ≤ 1000) && decide (a.length ≤ 1000) && !a.isEmpty then some (.sh (.tup (repL a n.toNat))) else none
  | _, _ => none
def iFdiv (x y : D) : Option B := match x, y with
  | .int a, .int b => if decide (0 < b) && decide (b < 1073741824) then some (.sh (.int (a / b))) else none
  | _, _ => none
def iMod (x y : D) : Option B := match x, y with
  | .int a, .int b => if decide (0 < b) then some (.sh (.int (a % b))) else none
  | _, _ => none
def iPow (x y : D) : Option B := match x, y with
  | .int a, .int b => if decide (0 ≤ b) && decide (b ≤ 100) && smallI a then some (.sh (.int (a ^ b.toNat))) else none
  | _, _ => none
def mOp (f : D → D → Option B) (a b : M B) : M B := bind a fun x => bind b fun y => bind (dat x) fun d => bind (dat y) fun e => lift (f d e)
def mAdd := mOp iAdd
def mSub := mOp iSub
def mMul := mOp iMul
def mFdiv := mOp iFdiv
def mMod := mOp iMod
def mPow := mOp iPow
def iNeg (x : D) : Option B := match x with | .int a => some (.sh (.int (-a))) | _ => none
def mNeg (a : M B) : M B := bind a fun x => bind (dat x) fun d => lift (iNeg d)

/-! ### comparisons -/
def boo (b : Bool) : B := .sh (.bl b)
def iEq (x y : D) : Option B := if x.dep ≤ 60 && y.dep ≤ 60 then some (boo (D.eqv x y)) else none
def iNe (x y : D) : Option B := if x.dep ≤ 60 && y.dep ≤ 60 then some (boo (!D.eqv x y)) else none
def iLt (x y : D) : Option B := match x, y with | .int a, .int b => some (boo (decide (a < b))) | _, _ => none
def iLe (x y : D) : Option B := match x, y with | .int a, .int b => some (boo (decide (a ≤ b))) | _, _ => none
def iGt (x y : D) : Option B := match x, y with | .int a, .int b => some (boo (decide (b < a))) | _, _ => none
def iGe (x y : D) : Option B := match x, y with | .int a, .int b => some (boo (decide (b ≤ a))) | _, _ => none
def memD (x : D) (ys : List D) : Bool := ys.any fun y => D.eqv y x
def lookD (kvs : List (D × D)) (k : D) : Option D := (kvs.find? fun p => D.eqv p.1 k).map (·.2)
mutual
/-- keys: texts; nested tuples of texts, bools, ints, None -/
def D.key : D → Bool
  | .non => true | .bl _ => true | .int _ => true | .str _ => true
  | .tup xs => D.keys xs
  | _ => false
def D.keys : List D → Bool
  | [] => true
  | x :: xs => D.key x && D.keys xs
end
def keyT (x : D) : Bool := match x with | .tup xs => D.keys xs && decide (D.dep x ≤ 8) | _ => false
def keyS (x : D) : Bool := match x with | .str _ => true | _ => false
def keyOf (t : Bool) (x : D) : Bool := if t then keyT x else keyS x
def isIn (x y : D) : Option Bool := match y with
  | .tup ys => if x.dep ≤ 60 && D.deps ys ≤ 60 then some (memD x ys) else none
  | .lst ys => if x.dep ≤ 60 && D.deps ys ≤ 60 then some (memD x ys) else none
  | .dic t kvs => if keyOf t x then some (lookD kvs x).isSome else none
  | _ => none
def iIn (x y : D) : Option B := (isIn x y).map fun b => boo b
def iNin (x y : D) : Option B := (isIn x y).map fun b => boo (!b)
def mEq := mOp iEq
def mNe := mOp iNe
def mLt := mOp iLt
def mLe := mOp iLe
def mGt := mOp iGt
def mGe := mOp iGe
def mIn := mOp iIn
def mNin := mOp iNin
def D.isNon : D → Bool | .non => true | _ => false
/-- is None -/
def mIsN (a : M B) : M B := bind a fun x => bind (dat x) fun d => ret (boo d.isNon)
def mNotN (a : M B) : M B := bind a fun x => bind (dat x) fun d => ret (boo (!d.isNon))
/-- a <= b <= c, of ints -/
def mLeLe (a b c : M B) : M B := bind a fun x => bind b fun y => bind (dat x) fun d => bind (dat y) fun e => bind (lift (iLe d e)) fun r =>
  match r with
  | .sh (.bl true) => bind c fun z => bind (dat z) fun g => lift (iLe e g)
  | .sh (.bl false) => ret (boo false)
  | _ => stuck

/-! ### truth, tests -/
def D.tru : D → Option Bool
  | .non => some false
  | .bl b => some b
  | .int i => some (i != 0)
  | .str s => some (!s.isEmpty)
  | .tup xs => some (!xs.isEmpty)
  | .lst xs => some (!xs.isEmpty)
  | .dic _ _ => none
/-- a test: an expression's truth -/
def tV (a : M B) : M Bool := bind a fun x => bind (dat x) fun d => lift d.tru
def tAnd (a b : M Bool) : M Bool := bind a fun c => if c then b else ret false
def tOr (a b : M Bool) : M Bool := bind a fun c => if c then ret true else b
def tNot (a : M Bool) : M Bool := bind a fun c => ret (!c)
def D.boolV : D → Option Bool | .bl b => some b | _ => none
/-- as values, of bools -/
def mAnd (a b : M B) : M B := bind a fun x => bind (dat x) fun d => bind (lift d.boolV) fun c => if c then b else ret (boo false)
def mOr (a b : M B) : M B := bind a fun x => bind (dat x) fun d => bind (lift d.boolV) fun c => if c then ret (boo true) else b
def mNot (a : M B) : M B := bind a fun x => bind (dat x) fun d => bind (lift d.boolV) fun c => ret (boo (!c))
def mIf (t : M Bool) (a b : M B) : M B := bind t fun c => if c then a else b

/-! ### displays -/
def mNil : M (List B) := ret []
def mCons (a : M B) (r : M (List B)) : M (List B) := bind a fun x => bind r fun xs => ret (x :: xs)
def datsL (ρ : Env) : List B → Option (List D)
  | [] => some []
  | b :: r => match b.dat ρ, datsL ρ r with | some d, some ds => some (d :: ds) | _, _ => none
def dats (bs : List B) : M (List D) := fun ρ => match datsL ρ bs with | none => none | some ds => some (.ok ds, ρ)
def noPl : B → Bool | .pl _ => false | _ => true
/-- what is kept: no name's own object -/
def kept (bs : List B) : M (List D) := if bs.all noPl then dats bs else stuck
def few (bs : List B) : Bool := decide (bs.length ≤ 1000)
def mTup (es : M (List B)) : M B := bind es fun bs => if few bs then bind (kept bs) fun ds => ret (.sh (.tup ds)) else stuck
def mLst (es : M (List B)) : M B := bind es fun bs => if few bs then bind (kept bs) fun ds => ret (.ow (.lst ds)) else stuck
/-- {} and {k: v} -/
def mDic0 : M B := ret (.ow (.dic false []))
def mDic1 (k v : M B) : M B := bind k fun x => bind v fun y => bind (kept [x, y]) fun ds => match ds with
  | [d, e] => if keyT d then ret (.ow (.dic true [(d, e)])) else stuck
  | _ => stuck

/-! ### subscripts -/
def atI {α : Type} (xs : List α) (i : Int) : Option α :=
  if 0 ≤ i then xs[i.toNat]? else if 0 ≤ (xs.length : Int) + i then xs[((xs.length : Int) + i).toNat]? else none
def iIx (x y : D) : Option B := match x, y with
  | .tup xs, .int i => (atI xs i).map B.sh
  | .lst xs, .int i => (atI xs i).map B.sh
  | .str s, .int i => (atI s i).map fun c => B.sh (.str [c])
  | .dic t kvs, k => if keyOf t k then (lookD kvs k).map B.sh else none
  | _, _ => none
def ixB (b : B) (i : B) : M B := match b with
  | .tp bs => bind (dat i) fun e => match e with
    | .int j => (match atI bs j with | some (.sh d) => ret (.sh d) | some (.ow o) => ret (.ow o) | _ => stuck)
    | _ => stuck
  | _ => bind (dat b) fun d => bind (dat i) fun e => lift (iIx d e)
def mIx (a i : M B) : M B := bind a fun x => bind i fun y => ixB x y
/-- the places of a slice's ends -/
def clip (n : Nat) (i : Int) : Nat := if i < 0 then (i + (n : Int)).toNat else min i.toNat n
/-- the place of a slice's end that may be left out -/
def endI (n d : Nat) : Option Int → Nat
  | none => d
  | some i => clip n i
def cutL {α : Type} (xs : List α) (a b : Nat) : List α := (xs.drop a).take (b - a)
def iSl (x : D) (lo hi : Option Int) : Option B := match x with
  | .tup xs => some (.sh (.tup (cutL xs (endI xs.length 0 lo) (endI xs.length xs.length hi))))
  | .lst xs => some (.ow (.lst (cutL xs (endI xs.length 0 lo) (endI xs.length xs.length hi))))
  | .str xs => some (.sh (.str (cutL xs (endI xs.length 0 lo) (endI xs.length xs.length hi))))
  | _ => none
/-- an end that is left out, or an int -/
def mEnd : Option (M B) → M (Option Int)
  | none => ret none
  | some e => bind e fun x => bind (dat x) fun d => match d with | .int i => ret (some i) | _ => stuck
/-- x[lo:hi] -/
def mSl (a : M B) (lo hi : Option (M B)) : M B := bind a fun x => bind (mEnd lo) fun l => bind (mEnd hi) fun h => bind (dat x) fun d => lift (iSl d l h)
/-- x[::-1] -/
def iRev (x : D) : Option B := match x with
  | .tup xs => some (.sh (.tup xs.reverse))
  | .lst xs => some (.ow (.lst xs.reverse))
  | _ => none
def mRev (a : M B) : M B := bind a fun x => bind (dat x) fun d => lift (iRev d)

/-! ### built-in functions and methods, by values -/
def dLen (x : D) : Option Nat := match x with
  | .tup xs => some xs.length
  | .lst xs => some xs.length
  | .str s => some s.length
  | .dic _ kvs => some kvs.length
  | _ => none
def iLen (x : D) : Option B := (dLen x).map fun n => B.sh (.int n)
def iInt (x : D) : Option B := match x with
  | .int i => some (.sh (.int i))
  | .bl b => some (.sh (.int (if b then 1 else 0)))
  | _ => none
/-- the digits of a small number -/
def digs : Nat → Nat → Txt
  | 0, _ => []
  | f + 1, n => if n < 10 then [48 + n] else digs f (n / 10) ++ [48 + n % 10]
def iStr (x : D) : Option B := match x with
  | .int i => if decide (0 ≤ i) && decide (i < 1000) then some (.sh (.str (digs 4 i.toNat))) else none
  | .str s => some (.sh (.str s))
  | _ => none
def iList (x : D) : Option B := match x with
  | .tup xs => some (.ow (.lst xs))
  | .lst xs => some (.ow (.lst xs))
  | _ => none
def iTuple (x : D) : Option B := match x with
  | .tup xs => some (.sh (.tup xs))
  | .lst xs => some (.sh (.tup xs))
  | _ => none
def bools : List D → Option (List Bool)
  | [] => some []
  | .bl b :: r => (bools r).map fun bs => b :: bs
  | _ :: _ => none
def iAll (x : D) : Option B := match x with | .lst xs => (bools xs).map fun bs => boo (bs.all id) | _ => none
def iAny (x : D) : Option B := match x with | .lst xs => (bools xs).map fun bs => boo (bs.any id) | _ => none
def iMin (x y : D) : Option B := match x, y with | .int a, .int b => some (.sh (.int (if b < a then b else a))) | _, _ => none
/-- the built-in classes of isinstance -/
inductive Ty where | bool | int | str | tuple | list
deriving DecidableEq
def isA (x : D) (t : Ty) : Bool := match x, t with
  | .bl _, .bool => true
  | .bl _, .int => true
  | .int _, .int => true
  | .str _, .str => true
  | .tup _, .tuple => true
  | .lst _, .list => true
  | _, _ => false
def mUn (f : D → Option B) (a : M B) : M B := bind a fun x => bind (dat x) fun d => lift (f d)
def mLen := mUn iLen
def mInt := mUn iInt
def mStr := mUn iStr
def mTuple := mUn iTuple
def mAll := mUn iAll
def mAny := mUn iAny
def mMin := mOp iMin
def iIsA (t : Ty) (d : D) : Option B := match d with | .dic _ _ => none | _ => some (boo (isA d t))
def mIsA (t : Ty) := mUn (iIsA t)
def mList := mUn iList
mutual
/-- a datum as a row of signs, by which sorted compares -/
def D.toks : D → List (Int ⊕ Txt)
  | .non => []
  | .bl b => [.inl (if b = true then 1 else 0)]
  | .int i => [.inl i]
  | .str s => [.inr s]
  | .tup xs => D.toksL xs
  | .lst xs => D.toksL xs
  | .dic _ _ => []
def D.toksL : List D → List (Int ⊕ Txt)
  | [] => [.inl 0]
  | x :: xs => .inl 1 :: (D.toks x ++ D.toksL xs)
end
mutual
/-- of one kind, place by place -/
def D.like : D → D → Bool
  | .non, .non => true
  | .bl _, .bl _ => true
  | .int _, .int _ => true
  | .str _, .str _ => true
  | .tup xs, .tup ys => D.likeL xs ys
  | .lst xs, .lst ys => D.likeL xs ys
  | _, _ => false
def D.likeL : List D → List D → Bool
  | x :: xs, y :: ys => D.like x y && D.likeL xs ys
  | [], _ => true
  | _ :: _, [] => true
end
def tokLt : Int ⊕ Txt → Int ⊕ Txt → Bool
  | .inl a, .inl b => decide (a < b)
  | .inl _, .inr _ => true
  | .inr _, .inl _ => false
  | .inr a, .inr b => decide (a < b)
def lexD : List (Int ⊕ Txt) → List (Int ⊕ Txt) → Bool
  | [], [] => false
  | [], _ :: _ => true
  | _ :: _, [] => false
  | x :: r, y :: t => tokLt x y || (!tokLt y x && lexD r t)
def leD (x y : D) : Bool := !lexD y.toks x.toks
def isTupC : D → Bool | .tup (_ :: _) => true | _ => false
def isOther : D → Bool | .non => false | .tup _ => false | _ => true
def canSort (xs : List D) : Bool := (xs.all fun x => xs.all fun y => D.like x y) && (xs.all isTupC || xs.all isOther) && decide (D.deps xs ≤ 60)
def iSorted (x : D) : Option B := match x with
  | .lst xs => if canSort xs then some (.ow (.lst (xs.mergeSort leD))) else none
  | _ => none
def mSorted := mUn iSorted
def zipD : List D → List D → List D
  | x :: xs, y :: ys => .tup [x, y] :: zipD xs ys
  | _, _ => []
def dItems (x : D) : Option (List D) := match x with
  | .tup xs => some xs
  | .lst xs => some xs
  | _ => none
def putD (kvs : List (D × D)) (k v : D) : List (D × D) :=
  if (lookD kvs k).isSome then kvs.map fun p => if D.eqv p.1 k then (p.1, v) else p else kvs ++ [(k, v)]
def pairsD : List D → Option (List (D × D))
  | [] => some []
  | .tup [k, v] :: r => (pairsD r).map fun ps => (k, v) :: ps
  | _ :: _ => none
/-- dict(list of pairs), the keys texts -/
def iDict (x : D) : Option B := match x with
  | .lst xs => (match pairsD xs with
    | some ps => if ps.all fun p => keyS p.1 then some (.ow (.dic false (ps.foldl (fun a p => putD a p.1 p.2) []))) else none
    | none => none)
  | _ => none
def mDict := mUn iDict
/-- d.get(k, x) -/
def iGet (x k e : D) : Option B := match x with
  | .dic t kvs => if keyOf t k then some (.sh ((lookD kvs k).getD e)) else none
  | _ => none
def mGet (a b c : M B) : M B := bind a fun x => bind b fun y => bind c fun z => bind (dat x) fun d => bind (dat y) fun e => bind (dat z) fun g => lift (iGet d e g)
def strL : List D → Option (List Txt)
  | [] => some []
  | .str s :: r => (strL r).map fun ss => s :: ss
  | _ :: _ => none
def joinT (sep : Txt) : List Txt → Txt
  | [] => []
  | [x] => x
  | x :: r => x ++ sep ++ joinT sep r
def iJoin (x y : D) : Option B := match x, y with
  | .str sep, .lst xs => (match strL xs with | some ss => if (joinT sep ss).length ≤ LIM then some (.sh (.str (joinT sep ss))) else none | none => none)
  | _, _ => none
def mJoin := mOp iJoin
/-- cut at each sign c -/
def splitT (c : Nat) : Txt → List Txt
  | [] => [[]]
  | a :: x => if a = c then [] :: splitT c x else match splitT c x with
    | [] => [[a]]
    | y :: r => (a :: y) :: r
def iSplit (x y : D) : Option B := match x, y with
  | .str s, .str [c] => if decide (s.length + 2 ≤ LIM) && decide (c < 256) then some (.ow (.lst ((splitT c s).map D.str))) else none
  | _, _ => none
def mSplit (a b : M B) : M B := bind a fun x => match x with
  | .sh (.str s) => bind b fun y => bind (dat y) fun e => lift (iSplit (.str s) e)
  | _ => stuck
def idxD (xs : List D) (x : D) : Option Nat := xs.findIdx? fun y => D.eqv y x
def iIndex (x y : D) : Option B := match x with
  | .tup xs => if D.deps xs ≤ 60 && y.dep ≤ 60 then (idxD xs y).map fun n => B.sh (.int n) else none
  | .lst xs => if D.deps xs ≤ 60 && y.dep ≤ 60 then (idxD xs y).map fun n => B.sh (.int n) else none
  | _ => none
def mIndex := mOp iIndex

/-! ### calls of defs -/
/-- a def: the bindings of its parameters in; what it gives, and the parameters' bindings behind it -/
abbrev Fn := List SB → Option (Res B × Env)
/-- how an argument is handed over -/
def handB (ρ : Env) : B → Option SB
  | .sh d => some (.sh d)
  | .ow (.ins c fs) => some (.io (.ins c fs))
  | .ow o => (o.toD).map SB.sh
  | .pl i => match ρ.at i with
    | some (.sh d) => some (.sh d)
    | some (.ow o) => some (.io o)
    | some (.io o) => some (.io o)
    | none => none
  | .tp bs => (sbsD bs).map fun ds => SB.sh (.tup ds)
def handL (ρ : Env) : List B → Option (List SB)
  | [] => some []
  | b :: r => match handB ρ b, handL ρ r with | some x, some xs => some (x :: xs) | _, _ => none
/-- the places that are lent -/
def lent : List B → List Nat
  | [] => []
  | .pl i :: r => i :: lent r
  | _ :: r => lent r
/-- what came back of a lent object -/
def backB (ρ : Env) (b : B) (out : Option SB) : Env := match b with
  | .pl i => (match ρ.at i, out with
    | some c, some (.io o) => ρ.set i (some (c.put o))
    | _, _ => ρ)
  | _ => ρ
def backL (ρ : Env) : List B → Env → Env
  | b :: r, o :: os => backL (backB ρ b o) r os
  | _, _ => ρ
def nodupN : List Nat → Bool
  | [] => true
  | a :: r => !(r.elem a) && nodupN r
def callF (f : Fn) (bs : List B) : M B := fun ρ =>
  if nodupN (lent bs) then
    match handL ρ bs with
    | none => none
    | some sbs => match f sbs with
      | none => none
      | some (r, outs) => some (r, backL ρ bs outs)
  else none
def mCall (f : Fn) (args : M (List B)) : M B := bind args fun bs => callF f bs

/-! ### comprehensions, loops: what is walked -/
def clr (ρ : Env) : List Nat → Env
  | [] => ρ
  | i :: is => (clr ρ is).set i none
/-- ρ1 with the bindings of ρ at some places -/
def back (ρ ρ1 : Env) : List Nat → Env
  | [] => ρ1
  | i :: is => (back ρ ρ1 is).set i (ρ.at i)
/-- a target's names -/
inductive Tg where | one (i : Nat) | tup (is : List Nat)
def Tg.slots : Tg → List Nat | .one i => [i] | .tup is => is
/-- a name may be bound anew: it is not lent -/
def putS (ρ : Env) (i : Nat) (b : SB) : Option Env :=
  if i < ρ.length then match ρ.at i with | some (.io _) => none | _ => some (ρ.set i (some b)) else none
def putSs (ρ : Env) : List Nat → List D → Option Env
  | [], [] => some ρ
  | i :: is, d :: ds => match putS ρ i (.sh d) with | some ρ1 => putSs ρ1 is ds | none => none
  | _, _ => none
def putTg (ρ : Env) (t : Tg) (d : D) : Option Env := match t with
  | .one i => putS ρ i (.sh d)
  | .tup is => (match d with | .tup ds => if is.length = ds.length then putSs ρ is ds else none | _ => none)
def items (e : M B) : M (List D) := bind e fun x => bind (kept [x]) fun ds => match ds with | [d] => lift (dItems d) | _ => stuck
def upto (n : Nat) : List D := (List.range n).map fun (i : Nat) => D.int i
def itRange (e : M B) : M (List D) := bind e fun x => bind (dat x) fun d => match d with
  | .int n => if decide (n < 2 ^ 62) && decide (-(2 ^ 62) ≤ n) then ret (upto n.toNat) else stuck
  | _ => stuck
def itRange2 (a b : M B) : M (List D) := bind a fun x => bind b fun y => bind (dat x) fun d => bind (dat y) fun e => match d, e with
  | .int l, .int n => if decide (n < 2 ^ 62) && decide (-(2 ^ 62) ≤ n) && decide (l < 2 ^ 62) && decide (-(2 ^ 62) ≤ l) then ret ((List.range (n - l).toNat).map fun (i : Nat) => D.int (l + i)) else stuck
  | _, _ => stuck
def iZip2 (d e : D) : Option (List D) := match d, e with
  | .tup xs, .tup ys => some (zipD xs ys)
  | .lst xs, .lst ys => some (zipD xs ys)
  | _, _ => none
def itZip (a b : M B) : M (List D) := bind a fun x => bind b fun y => bind (kept [x, y]) fun ds => match ds with
  | [d, e] => lift (iZip2 d e)
  | _ => stuck
def enumD (d : D) : Option (List D) := match dItems d with
  | some xs => some (zipD (upto xs.length) xs)
  | none => none
def itEnum (e : M B) : M (List D) := bind e fun x => bind (kept [x]) fun ds => match ds with | [d] => lift (enumD d) | _ => stuck
/-- one item of a comprehension -/
def compGo (t : Tg) (c : M Bool) (e : M B) : List D → List D → M (List D)
  | [], acc => ret acc
  | d :: ds, acc => fun ρ => match putTg (clr ρ t.slots) t d with
    | none => none
    | some ρ1 => bind c (fun k => if k then bind e fun x => bind (kept [x]) fun v => compGo t c e ds (acc ++ v) else compGo t c e ds acc) ρ1
def free (ρ : Env) (is : List Nat) : Bool := is.all fun i => match ρ.at i with | none => decide (i < ρ.length) | some (.sh _) => true | some _ => false
/-- an error that leaves a comprehension is not served -/
def noExc {α : Type} (m : M α) : M α := fun ρ => match m ρ with | some (.ok a, ρ1) => some (.ok a, ρ1) | _ => none
def mComp (t : Tg) (it : M (List D)) (c : M Bool) (e : M B) : M B := bind it fun ds => fun ρ =>
  if free ρ t.slots then
    match noExc (compGo t c e ds []) ρ with
    | some (.ok vs, ρ1) => if vs.length ≤ LIM then some (.ok (.ow (.lst vs)), back ρ ρ1 t.slots) else none
    | _ => none
  else none
def yes : M Bool := ret true

/-! ### statements -/
inductive Fl where | nx | rt (b : B) | bk | ct
abbrev S := M Fl
def sPass : S := ret .nx
def sBreak : S := ret .bk
def sCont : S := ret .ct
def sSeq (a b : S) : S := bind a fun f => match f with | .nx => b | _ => ret f
def sDrop (e : M B) : S := bind e fun _ => ret .nx
def bindS (i : Nat) (b : SB) : S := fun ρ => match putS ρ i b with | some ρ1 => some (.ok .nx, ρ1) | none => none
/-- what a name is bound to -/
def ownB (b : B) : M SB := match b with
  | .sh d => ret (.sh d)
  | .ow o => ret (.ow o)
  | .pl _ => stuck
  | .tp bs => lift ((sbsD bs).map fun ds => SB.sh (.tup ds))
def sSet (i : Nat) (e : M B) : S := bind e fun x => bind (ownB x) fun b => bindS i b
def ownBs : List B → M (List SB)
  | [] => ret []
  | b :: r => bind (ownB b) fun x => bind (ownBs r) fun xs => ret (x :: xs)
def bindSs : List Nat → List SB → S
  | [], [] => ret .nx
  | i :: is, b :: bs => sSeq (bindS i b) (bindSs is bs)
  | _, _ => stuck
/-- a, b = e1, e2 -/
def sPar (is : List Nat) (es : M (List B)) : S := bind es fun xs => bind (ownBs xs) fun bs => bindSs is bs
/-- a, b = e -/
def sUnp (is : List Nat) (e : M B) : S := bind e fun x => match x with
  | .tp bs => bindSs is bs
  | _ => bind (kept [x]) fun ds => match ds with
    | [.tup vs] => bindSs is (vs.map SB.sh)
    | _ => stuck
def setAt (o : O) (k v : D) : Option O := match o with
  | .lst xs => (match k with
    | .int j => if decide (0 ≤ j) && decide (j.toNat < xs.length) then some (.lst (xs.set j.toNat v)) else none
    | _ => none)
  | .dic false kvs => if kvs.length < LIM then
      (if keyOf false k then some (.dic false (putD kvs k v)) else none) else none
  | .dic true _ => none
  | .ins _ _ => none
def putO (i : Nat) (f : O → Option O) : M Unit := fun ρ => match ρ.at i with
  | some c => (match c.obj with
    | some o => (match f o with | some o1 => some (.ok (), ρ.set i (some (c.put o1))) | none => none)
    | none => none)
  | none => none
/-- the object of a name -/
def mHas (i : Nat) : M O := fun ρ => match ρ.at i with
  | some c => (match c.obj with | some o => some (.ok o, ρ) | none => none)
  | none => none
/-- x[k] = e -/
def sIxSet (i : Nat) (k e : M B) : S := bind e fun v => bind (mHas i) fun _ => bind k fun x => bind (kept [v, x]) fun ds => match ds with
  | [d, q] => bind (putO i fun o => setAt o q d) fun _ => ret .nx
  | _ => stuck
def addAt (d : D) (o : O) : Option O := match o with
  | .lst xs => if xs.length < LIM then some (.lst (xs ++ [d])) else none
  | _ => none
def isLstO : O → Bool | .lst _ => true | _ => false
/-- x.append(e), x a name -/
def mApp (i : Nat) (e : M B) : M B := bind (mHas i) fun o => if isLstO o then bind e fun v => bind (kept [v]) fun vs => match vs with
  | [d] => bind (putO i (addAt d)) fun _ => ret (.sh .non)
  | _ => stuck else stuck
def sIf (t : M Bool) (a b : S) : S := bind t fun c => if c then a else b
def forGo (t : Tg) (body : S) : List D → S
  | [] => ret .nx
  | d :: ds => fun ρ => match putTg ρ t d with
    | none => none
    | some ρ1 => bind body (fun f => match f with
      | .nx => forGo t body ds
      | .ct => forGo t body ds
      | .bk => ret .nx
      | .rt b => ret (.rt b)) ρ1
def sFor (t : Tg) (it : M (List D)) (body : S) : S := bind it fun ds => forGo t body ds
def whGo (t : M Bool) (body : S) : Nat → S
  | 0 => stuck
  | n + 1 => bind t fun c => if c then bind body (fun f => match f with
      | .nx => whGo t body n
      | .ct => whGo t body n
      | .bk => ret .nx
      | .rt b => ret (.rt b)) else ret .nx
/-- more turns than any loop takes -/
def TURNS : Nat := 1000000000
def sWhile (t : M Bool) (body : S) : S := whGo t body TURNS
def sRet (e : M B) : S := bind e fun x => match x with
  | .pl _ => stuck
  | _ => ret (.rt x)
/-- return x: the name is given away -/
def mMv (i : Nat) : M B := fun ρ => match ρ.at i with
  | some (.sh d) => some (.ok (.sh d), ρ)
  | some (.ow o) => some (.ok (.ow o), ρ.set i none)
  | _ => none
/-- return (x, y): names of their own are given away -/
def sbB : B → Option SB
  | .sh d => some (.sh d)
  | .ow o => some (.ow o)
  | _ => none
def sbBs : List B → Option (List SB)
  | [] => some []
  | b :: r => match sbB b, sbBs r with | some x, some xs => some (x :: xs) | _, _ => none
def mTp (es : M (List B)) : M B := bind es fun bs => if few bs then bind (lift (sbBs bs)) fun sbs => ret (.tp sbs) else stuck
def sRaise (c : Nat) : S := fun ρ => some (.exc c none, ρ)
/-- a clause is taken by the error's class; a suite lets no error out -/
def tryGo (c : Nat) (p : Option (Txt × D)) : List ((Nat → Bool) × S) → S
  | [] => fun ρ => some (.exc c p, ρ)
  | (t, s) :: r => if t c then noExc s else tryGo c p r
def sTry (n : Nat) (body : S) (hs : List ((Nat → Bool) × S)) : S := fun ρ => match body ρ with
  | some (.exc c p, ρ1) => if c < n then tryGo c p hs ρ1 else none
  | some (.ok f, ρ1) => some (.ok f, ρ1)
  | none => none
/-- an error with an attribute -/
def sRaiseP (c : Nat) (f : Txt) (e : M B) : S := bind e fun x => bind (dat x) fun d => match d with
  | .int i => fun ρ => some (.exc c (some (f, .int i)), ρ)
  | _ => stuck
/-- what a caller sees of the parameters: lent objects -/
def outs (np : Nat) (ρ : Env) : Env := (List.range np).map fun i => match ρ.at i with | some (.io o) => some (.io o) | _ => none
/-- a def -/
def mkFn (np n : Nat) (body : S) : Fn := fun args =>
  if args.length = np then
    match body (args.map some ++ List.replicate (n - np) none) with
    | none => none
    | some (.ok (.rt b), ρ) => some (.ok b, outs np ρ)
    | some (.ok .nx, ρ) => some (.ok (.sh .non), outs np ρ)
    | some (.ok _, _) => none
    | some (.exc c p, ρ) => some (.exc c p, outs np ρ)
  else none
end WF

set_option linter.all false
/-! WFA2: more combinators (core Lean and WFA alone). -/
namespace WF
/-- e, its new object shared at once (the name is a comprehension's target later) -/
def mFz (m : M B) : M B := bind m fun x => bind (kept [x]) fun ds => match ds with
  | [d] => ret (.sh d)
  | _ => stuck
/-- list(zip(a, b)), of two tuples with two items each -/
def lzip2 (ds : List D) : Option B := match ds with
  | [.tup [a, b], .tup [c, d]] => some (.ow (.lst [.tup [a, c], .tup [b, d]]))
  | _ => none
def mLZip (a b : M B) : M B := bind a fun x => bind b fun y => bind (kept [x, y]) fun ds => lift (lzip2 ds)
end WF

set_option Elab.async false
set_option linter.all false
set_option maxRecDepth 100000
set_option maxHeartbeats 4000000
/-! WFB: how pure data stands for the abstract heap of the layer; states; readings. -/
namespace WF
open PySem PySem.Spec L2
/-- the slots' values -/
abbrev St := L2.St

/-- what stands fixed: program, world, the written part, the addresses of the text's classes -/
structure Cs where
  P : Program
  w : World
  K : PySem.W.Frag
  cl : Nat → Addr
abbrev cs (cl : Nat → Addr) (X : Cx) : Cs := ⟨X.prog, X.w, X.K, cl⟩

def mkS (t : Txt) : Str := ⟨t.toArray⟩
def okT (s : Txt) : Prop := (∀ c ∈ s, c < 0x110000) ∧ s.length ≤ LIM
theorem mkS_inj {a b : Txt} (h : mkS a = mkS b) : a = b := by
  have := congrArg (fun s : Str => s.cps.toList) h
  simpa [mkS] using this
theorem mkS_len (a : Txt) : (mkS a).length = a.length := by simp [mkS, Str.length]
theorem lim_eq : LIM = sizeLine := by rw [sizeLine_eq]

mutual
def nk : D → NestedKey
  | .bl b => .num (if b then 1 else 0)
  | .int i => .num i
  | .str s => .text (mkS s)
  | .tup xs => .tup (nks xs)
  | .non => .none
  | .lst _ => .none
  | .dic _ _ => .none
def nks : List D → List NestedKey
  | [] => []
  | x :: xs => nk x :: nks xs
end

/-- a dict with keys that are tuples, by its own object alone -/
def dkT (C : Cs) (a : Addr) (xs : List (NestedKey × Addr × V)) : HO := .ext fun h =>
  ∃ ys : List (NestedKey × Addr × Value), Paired (fun (p : NestedKey × Addr × V) (q : NestedKey × Addr × Value) => p.1 = q.1 ∧ p.2.1 = q.2.1 ∧ RelV p.2.2 q.2.2) xs ys ∧
    ∃ o es ep, h.get? a = some o ∧ o.ExactDict ∧ o.data = .dict es ep ∧ es.toList = ys.map (entryOfKey (nestedKind C.P C.w)) ∧ xs.length ≤ sizeLine ∧ (a == sysModules) = false ∧ (xs.map (·.1)).Nodup

mutual
/-- the value v is the data d, of frozen objects -/
inductive Rep (C : Cs) (F : Hp) : V → D → Prop
  | non : Rep C F .non .non
  | bl (b : Bool) : Rep C F (.bl b) (.bl b)
  | int (i : Int) : Rep C F (.int i) (.int i)
  | str (s : Txt) : okT s → Rep C F (.str (mkS s)) (.str s)
  | tup {a : Addr} {xs : List V} {ds : List D} : SqT C.K F a xs → Reps C F xs ds → Rep C F (.ref a) (.tup ds)
  | lst {a : Addr} {xs : List V} {ds : List D} : SqL C.K F a xs → Reps C F xs ds → Rep C F (.ref a) (.lst ds)
  | dicS {a : Addr} {xs : List (Key × V)} {kvs : List (D × D)} : F a = some (.dK xs) → RepS C F xs kvs → Rep C F (.ref a) (.dic false kvs)
  | dicT {a : Addr} {xs : List (NestedKey × Addr × V)} {kvs : List (D × D)} : F a = some (dkT C a xs) → RepT C F xs kvs → Rep C F (.ref a) (.dic true kvs)
inductive Reps (C : Cs) (F : Hp) : List V → List D → Prop
  | nil : Reps C F [] []
  | cons {v : V} {vs : List V} {d : D} {ds : List D} : Rep C F v d → Reps C F vs ds → Reps C F (v :: vs) (d :: ds)
inductive RepS (C : Cs) (F : Hp) : List (Key × V) → List (D × D) → Prop
  | nil : RepS C F [] []
  | cons {s : Txt} {v : V} {d : D} {xs : List (Key × V)} {kvs : List (D × D)} : okT s → Rep C F v d → RepS C F xs kvs → RepS C F ((Sum.inr (mkS s), v) :: xs) ((.str s, d) :: kvs)
inductive RepT (C : Cs) (F : Hp) : List (NestedKey × Addr × V) → List (D × D) → Prop
  | nil : RepT C F [] []
  | cons {ka : Addr} {k : D} {v : V} {d : D} {xs : List (NestedKey × Addr × V)} {kvs : List (D × D)} : keyT k = true → Rep C F (.ref ka) k → Rep C F v d → RepT C F xs kvs → RepT C F ((nk k, ka, v) :: xs) ((k, d) :: kvs)
end

/-- all of F stands in F' -/
def Sub (F F' : Hp) : Prop := ∀ a o, F a = some o → F' a = some o
theorem Sub.refl (F : Hp) : Sub F F := fun _ _ h => h
theorem Sub.trans {F F1 F2 : Hp} (a : Sub F F1) (b : Sub F1 F2) : Sub F F2 := fun x o h => b x o (a x o h)
theorem Sub.rd {F F' : Hp} (s : Sub F F') {a : Addr} {u : HO} (h : Rd F a u) : Rd F' a u := by
  rcases h with h | ⟨o, h⟩
  · exact .inl (s _ _ h)
  · exact .inr ⟨o, s _ _ h⟩
theorem Sub.sqL {K : PySem.W.Frag} {F F' : Hp} (s : Sub F F') {a : Addr} {xs : List V} (h : SqL K F a xs) : SqL K F' a xs := by
  rcases h with h | h
  · exact .inl (s.rd h)
  · exact .inr h
theorem Sub.sqT {K : PySem.W.Frag} {F F' : Hp} (s : Sub F F') {a : Addr} {xs : List V} (h : SqT K F a xs) : SqT K F' a xs := by
  rcases h with h | h
  · exact .inl (s.rd h)
  · exact .inr h
mutual
theorem Rep.mono {C : Cs} {F F' : Hp} (s : Sub F F') : ∀ {v : V} {d : D}, Rep C F v d → Rep C F' v d
  | _, _, .non => .non
  | _, _, .bl b => .bl b
  | _, _, .int i => .int i
  | _, _, .str t h => .str t h
  | _, _, .tup h r => .tup (s.sqT h) (Reps.mono s r)
  | _, _, .lst h r => .lst (s.sqL h) (Reps.mono s r)
  | _, _, .dicS h r => .dicS (s _ _ h) (RepS.mono s r)
  | _, _, .dicT h r => .dicT (s _ _ h) (RepT.mono s r)
theorem Reps.mono {C : Cs} {F F' : Hp} (s : Sub F F') : ∀ {v : List V} {d : List D}, Reps C F v d → Reps C F' v d
  | _, _, .nil => .nil
  | _, _, .cons h r => .cons (Rep.mono s h) (Reps.mono s r)
theorem RepS.mono {C : Cs} {F F' : Hp} (s : Sub F F') : ∀ {v : List (Key × V)} {d : List (D × D)}, RepS C F v d → RepS C F' v d
  | _, _, .nil => .nil
  | _, _, .cons t h r => .cons t (Rep.mono s h) (RepS.mono s r)
theorem RepT.mono {C : Cs} {F F' : Hp} (s : Sub F F') : ∀ {v : List (NestedKey × Addr × V)} {d : List (D × D)}, RepT C F v d → RepT C F' v d
  | _, _, .nil => .nil
  | _, _, .cons t k h r => .cons t (Rep.mono s k) (Rep.mono s h) (RepT.mono s r)
end
theorem Reps.length {C : Cs} {F : Hp} : ∀ {v : List V} {d : List D}, Reps C F v d → v.length = d.length
  | _, _, .nil => rfl
  | _, _, .cons _ r => by simp [Reps.length r]


/-- the attributes of an instance -/
abbrev RepF (C : Cs) (F : Hp) : List (Str × V) → List (Txt × D) → Prop := Paired fun (p : Str × V) (q : Txt × D) => p.1 = mkS q.1 ∧ Rep C F p.2 q.2
theorem RepF.mono {C : Cs} {F F' : Hp} (s : Sub F F') {xs : List (Str × V)} {fs : List (Txt × D)} (h : RepF C F xs fs) : RepF C F' xs fs := Paired.mapP h fun _ _ z => ⟨z.1, z.2.mono s⟩

/-- the object o at a, its parts frozen -/
inductive ROb (C : Cs) (F H : Hp) (a : Addr) : O → Prop
  | lst {xs : List V} {ds : List D} : H a = some (.lst xs) → Reps C F xs ds → ROb C F H a (.lst ds)
  | dicS {xs : List (Key × V)} {kvs : List (D × D)} : H a = some (.dK xs) → RepS C F xs kvs → ROb C F H a (.dic false kvs)
  | dicT {xs : List (NestedKey × Addr × V)} {kvs : List (D × D)} : H a = some (dkT C a xs) → RepT C F xs kvs → ROb C F H a (.dic true kvs)
  | ins {c : Nat} {dx : Addr} {xs : List (Str × V)} {fs : List (Txt × D)} : H a = some (.ins (C.cl c) dx xs) → RepF C F xs fs → ROb C F H a (.ins c fs)
theorem ROb.mono {C : Cs} {F F' H H' : Hp} {a : Addr} {o : O} (h : ROb C F H a o) (s : Sub F F') (k : ∀ o, H a = some o → H' a = some o) : ROb C F' H' a o := by
  cases h with
  | lst h r => exact .lst (k _ h) (r.mono s)
  | dicS h r => exact .dicS (k _ h) (r.mono s)
  | dicT h r => exact .dicT (k _ h) (r.mono s)
  | ins h r => exact .ins (k _ h) (RepF.mono s r)
theorem ROb.some {C : Cs} {F H : Hp} {a : Addr} {o : O} (h : ROb C F H a o) : ∃ u, H a = Option.some u := by
  cases h <;> exact ⟨_, by assumption⟩
/-- its data, seen in any heap in which it stands -/
theorem ROb.toD {C : Cs} {F H G : Hp} {a : Addr} {o : O} {d : D} (h : ROb C F H a o) (e : o.toD = Option.some d) (s : Sub F G) (k : ∀ o, H a = Option.some o → G a = Option.some o) : Rep C G (.ref a) d := by
  cases h with
  | lst h r => cases e; exact .lst (.inl (.inl (k _ h))) (r.mono s)
  | dicS h r => cases e; exact .dicS (k _ h) (r.mono s)
  | dicT h r => cases e; exact .dicT (k _ h) (r.mono s)
  | ins h r => cases e

/-- a binding's value -/
inductive RSB (C : Cs) (F H : Hp) : V → SB → Prop
  | sh {v : V} {d : D} : Rep C F v d → RSB C F H v (.sh d)
  | ow {a : Addr} {o : O} : ROb C F H a o → F a = none → RSB C F H (.ref a) (.ow o)
  | io {a : Addr} {o : O} : ROb C F H a o → F a = none → RSB C F H (.ref a) (.io o)

/-- a name's own object stands at a -/
def Owns (σ : St) (ρ : Env) (a : Addr) : Prop := ∃ i b, ρ.at i = some b ∧ b.obj.isSome = true ∧ σ[i]? = some (some (.ref a))

structure Stt (C : Cs) (F H : Hp) (σ : St) (ρ : Env) : Prop where
  sub : Sub F H
  len : ρ.length = σ.length
  sl : ∀ i b, ρ.at i = some b → ∃ v, σ[i]? = some (some v) ∧ RSB C F H v b
  dis : ∀ i j b c a, ρ.at i = some b → b.obj.isSome = true → ρ.at j = some c → c.obj.isSome = true → σ[i]? = some (some (.ref a)) → σ[j]? = some (some (.ref a)) → i = j

/-- from one state to a later one; A: the new objects in hand, that may be used up -/
structure Tr (A : List Addr) (σ : St) (F H : Hp) (ρ : Env) (σ' : St) (F' H' : Hp) (ρ' : Env) : Prop where
  sub : Sub F F'
  keep : ∀ a o, H a = some o → ¬ Owns σ ρ a → a ∉ A → H' a = some o
  nofz : ∀ a, H a ≠ none → ¬ Owns σ ρ a → a ∉ A → F a = none → F' a = none
  there : ∀ a, H a ≠ none → H' a ≠ none
  own : ∀ a, Owns σ' ρ' a → Owns σ ρ a ∨ a ∈ A ∨ H a = none
  io : ∀ i o, ρ.at i = some (.io o) → (∃ o', ρ'.at i = some (.io o')) ∧ σ'[i]? = σ[i]?
  oi : ∀ i o, ρ'.at i = some (.io o) → ∃ o', ρ.at i = some (.io o')
/-- not seen before -/
def New (A : List Addr) (σ : St) (H : Hp) (ρ : Env) (A' : List Addr) : Prop := ∀ a ∈ A', Owns σ ρ a ∨ a ∈ A ∨ H a = none

section
variable {C : Cs} {σ σ1 σ2 : St} {F H F1 H1 F2 H2 : Hp} {ρ ρ1 ρ2 : Env} {a : Addr} {o : O} {b : SB} {v : V} {A A0 A1 A' : List Addr}
theorem there_none (t : ∀ a, H a ≠ none → H1 a ≠ none) (q : H1 a = none) : H a = none := by
  cases e : H a with
  | none => rfl
  | some u => exact absurd q (t a (by rw [e]; simp))
theorem Tr.refl : Tr A σ F H ρ σ F H ρ := ⟨Sub.refl _, fun _ _ h _ _ => h, fun _ _ _ _ h => h, fun _ h => h, fun _ h => .inl h, fun _ o h => ⟨⟨o, h⟩, rfl⟩, fun _ o h => ⟨o, h⟩⟩
theorem Tr.hand (x : Tr A σ F H ρ σ1 F1 H1 ρ1) (h : ∀ a ∈ A, a ∈ A') : Tr A' σ F H ρ σ1 F1 H1 ρ1 :=
  ⟨x.sub, fun a o q n m => x.keep a o q n fun z => m (h a z), fun a q n m => x.nofz a q n fun z => m (h a z), x.there, fun a q => (x.own a q).imp id fun z => z.imp (h a) id, x.io, x.oi⟩
/-- what the first part brought (A1) may be used up by the second -/
theorem Tr.trans (x : Tr A0 σ F H ρ σ1 F1 H1 ρ1) (n : New A0 σ H ρ A1) (y : Tr (A0 ++ A1) σ1 F1 H1 ρ1 σ2 F2 H2 ρ2) : Tr A0 σ F H ρ σ2 F2 H2 ρ2 := by
  have no : ∀ a, H a ≠ none → ¬ Owns σ ρ a → a ∉ A0 → ¬ Owns σ1 ρ1 a ∧ a ∉ A0 ++ A1 := fun a h n1 m => by
    refine ⟨fun q => ?_, fun q => ?_⟩
    · rcases x.own a q with z | z | z
      · exact n1 z
      · exact m z
      · exact h z
    · rcases List.mem_append.mp q with z | z
      · exact m z
      · rcases n a z with z | z | z
        · exact n1 z
        · exact m z
        · exact h z
  refine ⟨x.sub.trans y.sub, fun a o h n1 m => ?_, fun a h n1 m f => ?_, fun a h => y.there a (x.there a h), fun a h => ?_, fun i o h => ?_, fun i o h => let ⟨o1, h1⟩ := y.oi i o h; x.oi i o1 h1⟩
  · have q := no a (by rw [h]; simp) n1 m
    exact y.keep a o (x.keep a o h n1 m) q.1 q.2
  · have q := no a h n1 m
    exact y.nofz a (x.there a h) q.1 q.2 (x.nofz a h n1 m f)
  · rcases y.own a h with q | q | q
    · exact x.own a q
    · rcases List.mem_append.mp q with z | z
      · exact .inr (.inl z)
      · exact n a z
    · exact .inr (.inr (there_none x.there q))
  · obtain ⟨⟨o1, h1⟩, e1⟩ := x.io i o h
    obtain ⟨h2, e2⟩ := y.io i o1 h1
    exact ⟨h2, e2.trans e1⟩
theorem Tr.trans0 (x : Tr A0 σ F H ρ σ1 F1 H1 ρ1) (y : Tr [] σ1 F1 H1 ρ1 σ2 F2 H2 ρ2) : Tr A0 σ F H ρ σ2 F2 H2 ρ2 :=
  x.trans (A1 := []) (fun _ h => nomatch h) (y.hand fun _ h => nomatch h)

theorem RSB.rep {d : D} (h : RSB C F H v b) (s : Sub F H) (e : b.toD = some d) : Rep C H v d := by
  cases h with
  | sh r => cases e; exact r.mono s
  | ow r f => exact r.toD e s fun _ h => h
  | io r f => exact r.toD e s fun _ h => h
theorem Stt.notF (S : Stt C F H σ ρ) (h : Owns σ ρ a) : F a = none := by
  obtain ⟨i, b, h1, h2, h3⟩ := h
  obtain ⟨v, e, r⟩ := S.sl i b h1
  rw [h3] at e
  cases e
  cases r with
  | sh r => cases h2
  | ow r f => exact f
  | io r f => exact f
theorem Stt.own_some (S : Stt C F H σ ρ) (h : Owns σ ρ a) : H a ≠ none := by
  obtain ⟨i, b, h1, h2, h3⟩ := h
  obtain ⟨v, e, r⟩ := S.sl i b h1
  rw [h3] at e
  cases e
  cases r with
  | sh r => cases h2
  | ow r f => obtain ⟨u, q⟩ := r.some; rw [q]; simp
  | io r f => obtain ⟨u, q⟩ := r.some; rw [q]; simp
end

/-- the items of a tuple that holds new objects; their addresses -/
inductive RTp (C : Cs) (F H : Hp) : List V → List SB → List Addr → Prop
  | nil : RTp C F H [] [] []
  | sh {v : V} {d : D} {vs : List V} {bs : List SB} {A : List Addr} : Rep C F v d → RTp C F H vs bs A → RTp C F H (v :: vs) (.sh d :: bs) A
  | ow {a : Addr} {o : O} {vs : List V} {bs : List SB} {A : List Addr} : ROb C F H a o → RTp C F H vs bs A → RTp C F H (.ref a :: vs) (.ow o :: bs) (a :: A)
/-- what an expression gives; the addresses of its new objects -/
inductive RB (C : Cs) (σ : St) (F H : Hp) : V → B → List Addr → Prop
  | sh {v : V} {d : D} : Rep C F v d → RB C σ F H v (.sh d) []
  | ow {a : Addr} {o : O} : ROb C F H a o → RB C σ F H (.ref a) (.ow o) [a]
  | pl {i : Nat} {v : V} : σ[i]? = some (some v) → RB C σ F H v (.pl i) []
  | tp {a : Addr} {xs : List V} {bs : List SB} {A : List Addr} : SqT C.K F a xs → RTp C F H xs bs A → RB C σ F H (.ref a) (.tp bs) A
/-- several -/
inductive RBs (C : Cs) (σ : St) (F H : Hp) : List V → List B → List Addr → Prop
  | nil : RBs C σ F H [] [] []
  | cons {v : V} {b : B} {vs : List V} {bs : List B} {A A' : List Addr} : RB C σ F H v b A → RBs C σ F H vs bs A' → RBs C σ F H (v :: vs) (b :: bs) (A ++ A')
/-- new objects, in nobody's hand -/
structure Fp (σ : St) (F H : Hp) (ρ : Env) (A : List Addr) : Prop where
  nd : A.Nodup
  nf : ∀ a ∈ A, F a = none
  no : ∀ a ∈ A, ¬ Owns σ ρ a
  th : ∀ a ∈ A, H a ≠ none
theorem Fp.nil {σ : St} {F H : Hp} {ρ : Env} : Fp σ F H ρ [] := ⟨List.nodup_nil, fun _ h => (nomatch h), fun _ h => (nomatch h), fun _ h => (nomatch h)⟩
theorem New.nil {A : List Addr} {σ : St} {H : Hp} {ρ : Env} : New A σ H ρ [] := fun _ h => nomatch h
section
variable {C : Cs} {σ σ1 σ' : St} {F H F1 H1 F' H' : Hp} {ρ ρ1 ρ' : Env} {a : Addr} {A A' A0 A1 : List Addr}
theorem Fp.tr (f : Fp σ F H ρ A) (t : Tr [] σ F H ρ σ' F' H' ρ') : Fp σ' F' H' ρ' A :=
  ⟨f.nd, fun a h => t.nofz a (f.th a h) (f.no a h) (fun z => nomatch z) (f.nf a h), fun a h q => by
    rcases t.own a q with z | z | z
    · exact f.no a h z
    · exact nomatch z
    · exact f.th a h z, fun a h => t.there a (f.th a h)⟩
theorem Fp.keep (f : Fp σ F H ρ A) (t : Tr [] σ F H ρ σ' F' H' ρ') (h : a ∈ A) : ∀ o, H a = some o → H' a = some o := fun o e => t.keep a o e (f.no a h) fun z => nomatch z
theorem Fp.left (f : Fp σ F H ρ (A ++ A')) : Fp σ F H ρ A := ⟨(List.nodup_append.mp f.nd).1, fun a h => f.nf a (List.mem_append_left _ h), fun a h => f.no a (List.mem_append_left _ h), fun a h => f.th a (List.mem_append_left _ h)⟩
theorem Fp.right (f : Fp σ F H ρ (A ++ A')) : Fp σ F H ρ A' := ⟨(List.nodup_append.mp f.nd).2.1, fun a h => f.nf a (List.mem_append_right _ h), fun a h => f.no a (List.mem_append_right _ h), fun a h => f.th a (List.mem_append_right _ h)⟩
/-- two, the second one made behind the first -/
theorem Fp.append (f : Fp σ F H ρ A) (t : Tr [] σ F H ρ σ' F' H' ρ') (g : Fp σ' F' H' ρ' A') (n : New [] σ H ρ A') : Fp σ' F' H' ρ' (A ++ A') := by
  have f' := f.tr t
  refine ⟨List.nodup_append.mpr ⟨f.nd, g.nd, fun a h b h' e => ?_⟩, fun a h => ?_, fun a h => ?_, fun a h => ?_⟩
  · subst e
    rcases n a h' with z | z | z
    · exact f.no a h z
    · exact nomatch z
    · exact f.th a h z
  · exact (List.mem_append.mp h).elim (f'.nf a) (g.nf a)
  · exact (List.mem_append.mp h).elim (f'.no a) (g.no a)
  · exact (List.mem_append.mp h).elim (f'.th a) (g.th a)
/-- .. as seen from ahead of the first -/
theorem New.append (n : New [] σ H ρ A) (t : Tr [] σ F H ρ σ1 F1 H1 ρ1) (m : New [] σ1 H1 ρ1 A') : New [] σ H ρ (A ++ A') := fun a h => by
  rcases List.mem_append.mp h with q | q
  · exact n a q
  · rcases m a q with z | z | z
    · exact t.own a z
    · exact nomatch z
    · exact .inr (.inr (there_none t.there z))
/-- behind two steps, the first of which left A1 in hand -/
theorem New.trans (t : Tr A0 σ F H ρ σ1 F1 H1 ρ1) (n : New A0 σ H ρ A1) (m : New (A0 ++ A1) σ1 H1 ρ1 A') : New A0 σ H ρ A' := fun a h => by
  rcases m a h with z | z | z
  · exact t.own a z
  · rcases List.mem_append.mp z with z | z
    · exact .inr (.inl z)
    · exact n a z
  · exact .inr (.inr (there_none t.there z))
theorem RTp.mono {xs : List V} {bs : List SB} (h : RTp C F H xs bs A) (s : Sub F F') (k : ∀ a ∈ A, ∀ o, H a = some o → H' a = some o) : RTp C F' H' xs bs A := by
  induction h with
  | nil => exact .nil
  | sh r t ih => exact .sh (r.mono s) (ih k)
  | ow r t ih => exact .ow (r.mono s (k _ List.mem_cons_self)) (ih fun a h => k a (List.mem_cons_of_mem _ h))
theorem RB.mono {v : V} {b : B} (h : RB C σ F H v b A) (s : Sub F F') (k : ∀ a ∈ A, ∀ o, H a = some o → H' a = some o) : RB C σ F' H' v b A := by
  cases h with
  | sh r => exact .sh (r.mono s)
  | ow r => exact .ow (r.mono s (k _ (by simp)))
  | pl e => exact .pl e
  | tp h r => exact .tp (s.sqT h) (r.mono s k)
theorem RBs.mono {vs : List V} {bs : List B} (h : RBs C σ F H vs bs A) (s : Sub F F') (k : ∀ a ∈ A, ∀ o, H a = some o → H' a = some o) : RBs C σ F' H' vs bs A := by
  induction h with
  | nil => exact .nil
  | cons r t ih => exact .cons (r.mono s fun a h => k a (List.mem_append_left _ h)) (ih fun a h => k a (List.mem_append_right _ h))
theorem RBs.length {vs : List V} {bs : List B} (h : RBs C σ F H vs bs A) : vs.length = bs.length := by
  induction h with
  | nil => rfl
  | cons r t ih => simp [ih]
end

/-! ### readings -/
/-- how a result α stands as β: rel C σ F H β α addresses -/
structure Rl (β α : Type) where
  rel : Cs → St → Hp → Hp → β → α → List Addr → Prop
abbrev RlB : Rl V B := ⟨fun C σ F H v b A => RB C σ F H v b A⟩
abbrev RlL : Rl (List V) (List B) := ⟨fun C σ F H v b A => RBs C σ F H v b A⟩
abbrev RlT : Rl Bool Bool := ⟨fun _ _ _ _ v b A => v = b ∧ A = []⟩
/-- an error that leaves: its class, its attribute -/
def REx (C : Cs) (F : Hp) (c : Nat) (p : Option (Txt × D)) (cls : Value) (d : Option Addr) (H : Hp) : Prop :=
  cls = .ref (C.cl c) ∧ match p with
    | none => d = none
    | some (f, x) => ∃ dx i, d = some dx ∧ x = .int i ∧ H dx = some (.xd [(mkS f, .int i)])
/-- what is wanted behind m, from the state F ρ, with the new objects A0 in hand -/
def tR {β α : Type} (C : Cs) (R : Rl β α) (W : WX) (A0 : List Addr) (F : Hp) (ρ : Env) (m : M α) : St → Hp → (β → Hp → Prop) → Prop := fun σ H Q => ∃ r ρ', m ρ = some (r, ρ') ∧
  match r with
  | .ok a => ∀ v A F' H', Tr A0 σ F H ρ σ F' H' ρ' → Stt C F' H' σ ρ' → R.rel C σ F' H' v a A → Fp σ F' H' ρ' A → New A0 σ H ρ A → Q v H'
  | .exc c p => ∀ cls d F' H', Tr A0 σ F H ρ σ F' H' ρ' → Stt C F' H' σ ρ' → REx C F' c p cls d H' → W cls d σ H'
def tM {β α : Type} (C : Cs) (R : Rl β α) (W : WX) (m : M α) : St → Hp → (β → Hp → Prop) → Prop := fun σ H Q => ∃ F ρ, Stt C F H σ ρ ∧ tR C R W [] F ρ m σ H Q
section
variable {C : Cs} {W : WX} {σ : St} {F H : Hp} {ρ : Env} {α β α1 β1 : Type} {R : Rl β α} {R1 : Rl β1 α1} {Q : β → Hp → Prop} {A0 : List Addr}
theorem tR_bind {m : M α1} {k : α1 → M α} (h : tR C R W A0 F ρ (bind m k) σ H Q) : tR C R1 W [] F ρ m σ H (fun v H1 => ∃ a A F1 ρ1, Tr [] σ F H ρ σ F1 H1 ρ1 ∧ Stt C F1 H1 σ ρ1 ∧ R1.rel C σ F1 H1 v a A ∧ Fp σ F1 H1 ρ1 A ∧ New [] σ H ρ A ∧
    tR C R W (A0 ++ A) F1 ρ1 (k a) σ H1 Q) := by
  obtain ⟨r, ρ', e, h⟩ := h
  have up : ∀ {A : List Addr}, New [] σ H ρ A → New A0 σ H ρ A := fun n a z => (n a z).imp id fun q => q.elim (fun q => nomatch q) .inr
  unfold bind at e
  split at e
  · cases e
  · rename_i c p ρ1 em
    cases e
    exact ⟨_, _, em, fun cls d F' H' T S x => h cls d F' H' (T.hand fun _ z => nomatch z) S x⟩
  · rename_i a ρ1 em
    refine ⟨_, _, em, fun v A F1 H1 T S rl fp nw => ⟨a, A, F1, ρ1, T, S, rl, fp, nw, r, ρ', e, ?_⟩⟩
    have T0 : Tr A0 σ F H ρ σ F1 H1 ρ1 := T.hand fun _ z => nomatch z
    cases r with
    | ok b => exact fun v' A' F' H' T' S' rl' fp' nw' => h v' A' F' H' (T0.trans (up nw) T') S' rl' fp' (New.trans T0 (up nw) nw')
    | exc c p => exact fun cls d F' H' T' S' x => h cls d F' H' (T0.trans (up nw) T') S' x
/-- a step that neither fails nor turns anything -/
theorem tR_step {m : M α1} {k : α1 → M α} (h : tR C R W A0 F ρ (bind m k) σ H Q) (p : ∀ r ρ', m ρ = some (r, ρ') → ρ' = ρ ∧ ∃ a, r = .ok a) : ∃ a, m ρ = some (.ok a, ρ) ∧ tR C R W A0 F ρ (k a) σ H Q := by
  obtain ⟨r, ρ', e, h⟩ := h
  unfold bind at e
  split at e
  · cases e
  · rename_i c q ρ1 em
    obtain ⟨_, a, z⟩ := p _ _ em
    cases z
  · rename_i a ρ1 em
    obtain ⟨z, _⟩ := p _ _ em
    subst z
    exact ⟨a, em, r, ρ', e, h⟩
theorem dat_pure {b : B} {r : Res D} {ρ' : Env} (h : dat b ρ = some (r, ρ')) : ρ' = ρ ∧ ∃ a, r = .ok a := by
  unfold dat at h
  split at h
  · cases h
  · cases h
    exact ⟨rfl, _, rfl⟩
theorem dats_pure {b : List B} {r : Res (List D)} {ρ' : Env} (h : dats b ρ = some (r, ρ')) : ρ' = ρ ∧ ∃ a, r = .ok a := by
  unfold dats at h
  split at h
  · cases h
  · cases h
    exact ⟨rfl, _, rfl⟩
theorem lift_pure {γ : Type} {o : Option γ} {r : Res γ} {ρ' : Env} (h : lift o ρ = some (r, ρ')) : ρ' = ρ ∧ ∃ a, r = .ok a := by
  unfold lift at h
  split at h
  · cases h
  · cases h
    exact ⟨rfl, _, rfl⟩
theorem tR_dat {b : B} {k : D → M α} (h : tR C R W A0 F ρ (bind (dat b) k) σ H Q) : ∃ d, b.dat ρ = some d ∧ tR C R W A0 F ρ (k d) σ H Q := by
  obtain ⟨a, e, h⟩ := tR_step h fun _ _ => dat_pure
  refine ⟨a, ?_, h⟩
  unfold dat at e
  split at e
  · cases e
  · cases e; assumption
theorem tR_lift {γ : Type} {o : Option γ} {k : γ → M α} (h : tR C R W A0 F ρ (bind (lift o) k) σ H Q) : ∃ d, o = some d ∧ tR C R W A0 F ρ (k d) σ H Q := by
  obtain ⟨a, e, h⟩ := tR_step h fun _ _ => lift_pure
  refine ⟨a, ?_, h⟩
  unfold lift at e
  split at e
  · cases e
  · cases e; rfl
/-- what is wanted of a value a, from here -/
abbrev Fin (C : Cs) (R : Rl β α) (A0 : List Addr) (F : Hp) (ρ : Env) (σ : St) (H : Hp) (Q : β → Hp → Prop) (a : α) : Prop :=
  ∀ v A F' H', Tr A0 σ F H ρ σ F' H' ρ → Stt C F' H' σ ρ → R.rel C σ F' H' v a A → Fp σ F' H' ρ A → New A0 σ H ρ A → Q v H'
/-- what is left is a value -/
theorem tR_end {o : Option α} (h : tR C R W A0 F ρ (lift o) σ H Q) : ∃ a, o = some a ∧ Fin C R A0 F ρ σ H Q a := by
  obtain ⟨r, ρ', e, h⟩ := h
  unfold lift at e
  split at e
  · cases e
  · cases e
    exact ⟨_, rfl, h⟩
theorem tR_ret {a : α} (h : tR C R W A0 F ρ (ret a) σ H Q) : Fin C R A0 F ρ σ H Q a := by
  obtain ⟨r, ρ', e, h⟩ := h
  unfold ret at e
  cases e
  exact h
/-- the same from a later state, with A1 in hand -/
theorem tR_from {m : M α} {F1 H1 : Hp} {A1 : List Addr} (T : Tr A0 σ F H ρ σ F1 H1 ρ) (n : New A0 σ H ρ A1) (h : tR C R W A0 F ρ m σ H Q) : tR C R W A1 F1 ρ m σ H1 Q := by
  obtain ⟨r, ρ', e, h⟩ := h
  refine ⟨r, ρ', e, ?_⟩
  have up : ∀ {x : Addr}, x ∈ A1 → x ∈ A0 ++ A1 := fun z => List.mem_append_right _ z
  cases r with
  | ok a => exact fun v A F' H' T' S rl fp nw => h v A F' H' (T.trans n (T'.hand fun _ => up)) S rl fp (New.trans T n fun x z => (nw x z).imp id fun q => q.imp up id)
  | exc c p => exact fun cls d F' H' T' S x => h cls d F' H' (T.trans n (T'.hand fun _ => up)) S x
theorem Fin.from_ {a : α} {F1 H1 : Hp} {A1 : List Addr} (h : Fin C R A0 F ρ σ H Q a) (T : Tr A0 σ F H ρ σ F1 H1 ρ) (n : New A0 σ H ρ A1) : Fin C R A1 F1 ρ σ H1 Q a := by
  have up : ∀ {x : Addr}, x ∈ A1 → x ∈ A0 ++ A1 := fun z => List.mem_append_right _ z
  exact fun v A F' H' T' S rl fp nw => h v A F' H' (T.trans n (T'.hand fun _ => up)) S rl fp (New.trans T n fun x z => (nw x z).imp id fun q => q.imp up id)
theorem tR_mono {m : M α} {Q' : β → Hp → Prop} (h : tR C R W A0 F ρ m σ H Q) (i : ∀ v H', Q v H' → Q' v H') : tR C R W A0 F ρ m σ H Q' := by
  obtain ⟨r, ρ', e, h⟩ := h
  refine ⟨r, ρ', e, ?_⟩
  cases r with
  | ok a => exact fun v A F' H' T' S rl fp nw => i _ _ (h v A F' H' T' S rl fp nw)
  | exc c p => exact h
theorem tR_stuck {P : Prop} (h : tR C R W A0 F ρ (stuck : M α) σ H Q) : P := by
  obtain ⟨r, ρ', e, h⟩ := h
  cases e
end

/-! ### what is data stands for it in the heap as it is -/
section
variable {C : Cs} {σ : St} {F H F' H' : Hp} {ρ ρ' : Env} {A : List Addr} {v : V} {b : B} {d : D}
theorem rtp_dat {xs : List V} {bs : List SB} {ds : List D} (h : RTp C F H xs bs A) (s : Sub F H) (e : sbsD bs = some ds) : Reps C H xs ds := by
  induction h generalizing ds with
  | nil => cases e; exact .nil
  | sh r t ih =>
    unfold sbsD at e
    split at e
    · rename_i e1 e2
      cases e1; cases e
      exact .cons (r.mono s) (ih e2)
    · cases e
  | ow r t ih =>
    unfold sbsD at e
    split at e
    · rename_i e1 e2
      cases e
      exact .cons (r.toD e1 s fun _ h => h) (ih e2)
    · cases e
theorem RB.dat (h : RB C σ F H v b A) (S : Stt C F H σ ρ) (e : b.dat ρ = some d) : Rep C H v d := by
  cases h with
  | sh r => cases e; exact r.mono S.sub
  | ow r => exact r.toD e S.sub fun _ h => h
  | pl q =>
    rename_i i
    have e : (match ρ.at i with | some b => b.toD | none => none) = some d := e
    split at e
    · rename_i c hc
      obtain ⟨w, e1, r⟩ := S.sl i c hc
      rw [q] at e1
      cases e1
      exact r.rep S.sub e
    · cases e
  | tp q r =>
    rename_i a xs bs
    have e : (match sbsD bs with | some ds => some (D.tup ds) | none => none) = some d := e
    split at e
    · rename_i ds hd
      cases e
      exact .tup (S.sub.sqT q) (rtp_dat r S.sub hd)
    · cases e
end
end WF

set_option Elab.async false
set_option linter.all false
set_option maxRecDepth 100000
set_option maxHeartbeats 4000000
/-! WFC: judgements SimE, SimT, SimA; new objects; operators. -/
namespace WF
open PySem PySem.Spec L2

/-! ### new objects, shared objects -/
section
variable {C : Cs} {σ : St} {F H : Hp} {ρ : Env} {A A0 : List Addr} {p : Addr} {o : HO}
theorem sub_upd (h : H p = none) : Sub H (upd H p o) := fun a u e => by rw [upd_ne (ne_of_none e h)]; exact e
theorem owns_ne (S : Stt C F H σ ρ) (h : H p = none) {a : Addr} (q : Owns σ ρ a) : a ≠ p := fun e => S.own_some q (by rw [e]; exact h)
/-- a new object, nobody's yet -/
theorem new_own (S : Stt C F H σ ρ) (h : H p = none) : Stt C F (upd H p o) σ ρ ∧ Tr [] σ F H ρ σ F (upd H p o) ρ ∧ Fp σ F (upd H p o) ρ [p] ∧ New [] σ H ρ [p] := by
  have k := sub_upd (o := o) h
  have fp : F p = none := by
    cases e : F p with
    | none => rfl
    | some u => rw [S.sub _ _ e] at h; cases h
  refine ⟨⟨S.sub.trans k, S.len, fun i b e => ?_, S.dis⟩, ⟨Sub.refl _, fun a u e _ _ => k _ _ e, fun _ _ _ _ z => z, fun a e q => ?_, fun a q => .inl q, fun i b q => ⟨⟨b, q⟩, rfl⟩, fun i b q => ⟨b, q⟩⟩, ⟨by simp, fun a m => ?_, fun a m q => ?_, fun a m => ?_⟩, fun a m => ?_⟩
  · obtain ⟨v, e1, r⟩ := S.sl i b e
    refine ⟨v, e1, ?_⟩
    cases r with
    | sh r => exact .sh r
    | ow r f => exact .ow (r.mono (Sub.refl _) fun _ z => k _ _ z) f
    | io r f => exact .io (r.mono (Sub.refl _) fun _ z => k _ _ z) f
  · cases e' : H a with
    | none => exact e e'
    | some u => rw [k _ _ e'] at q; cases q
  · rw [List.mem_singleton.mp m]; exact fp
  · rw [List.mem_singleton.mp m] at q
    exact owns_ne S h q rfl
  · rw [List.mem_singleton.mp m, upd_same]; simp
  · rw [List.mem_singleton.mp m]; exact .inr (.inr h)
/-- a new object, shared at once -/
theorem new_sh (S : Stt C F H σ ρ) (h : H p = none) : Stt C (upd F p o) (upd H p o) σ ρ ∧ Tr [] σ F H ρ σ (upd F p o) (upd H p o) ρ := by
  have k := sub_upd (o := o) h
  have fp : F p = none := by
    cases e : F p with
    | none => rfl
    | some u => rw [S.sub _ _ e] at h; cases h
  have kf := sub_upd (o := o) fp
  refine ⟨⟨fun a u e => ?_, S.len, fun i b e => ?_, S.dis⟩, ⟨kf, fun a u e _ _ => k _ _ e, fun a e _ _ z => ?_, fun a e q => ?_, fun a q => .inl q, fun i b q => ⟨⟨b, q⟩, rfl⟩, fun i b q => ⟨b, q⟩⟩⟩
  · by_cases e' : a = p
    · subst e'; rw [upd_same] at e ⊢; exact e
    · rw [upd_ne e'] at e ⊢; exact S.sub _ _ e
  · obtain ⟨v, e1, r⟩ := S.sl i b e
    refine ⟨v, e1, ?_⟩
    cases r with
    | sh r => exact .sh (r.mono kf)
    | ow r f =>
      refine .ow (r.mono kf fun _ z => k _ _ z) ?_
      rw [upd_ne (owns_ne S h ⟨i, _, e, rfl, e1⟩)]; exact f
    | io r f =>
      refine .io (r.mono kf fun _ z => k _ _ z) ?_
      rw [upd_ne (owns_ne S h ⟨i, _, e, rfl, e1⟩)]; exact f
  · by_cases e' : a = p
    · subst e'; exact absurd h e
    · rw [upd_ne e']; exact z
  · cases e' : H a with
    | none => exact e e'
    | some u => rw [k _ _ e'] at q; cases q
/-- F with the objects at A -/
def addF (F H : Hp) (A : List Addr) : Hp := fun a => if a ∈ A then H a else F a
theorem addF_in {a : Addr} (h : a ∈ A) : addF F H A a = H a := if_pos h
theorem addF_out {a : Addr} (h : a ∉ A) : addF F H A a = F a := if_neg h
/-- new objects in hand are shared from now on -/
theorem share (S : Stt C F H σ ρ) (f : Fp σ F H ρ A) : Stt C (addF F H A) H σ ρ ∧ Tr A σ F H ρ σ (addF F H A) H ρ := by
  have kf : Sub F (addF F H A) := fun a u e => by
    by_cases h : a ∈ A
    · rw [f.nf a h] at e; cases e
    · rw [addF_out h]; exact e
  refine ⟨⟨fun a u e => ?_, S.len, fun i b e => ?_, S.dis⟩, ⟨kf, fun a u e _ _ => e, fun a e _ m z => ?_, fun a e => e, fun a q => .inl q, fun i b q => ⟨⟨b, q⟩, rfl⟩, fun i b q => ⟨b, q⟩⟩⟩
  · by_cases h : a ∈ A
    · rw [addF_in h] at e; exact e
    · rw [addF_out h] at e; exact S.sub _ _ e
  · obtain ⟨v, e1, r⟩ := S.sl i b e
    refine ⟨v, e1, ?_⟩
    cases r with
    | sh r => exact .sh (r.mono kf)
    | ow r g =>
      refine .ow (r.mono kf fun _ z => z) ?_
      rw [addF_out fun q => f.no _ q ⟨i, _, e, rfl, e1⟩]; exact g
    | io r g =>
      refine .io (r.mono kf fun _ z => z) ?_
      rw [addF_out fun q => f.no _ q ⟨i, _, e, rfl, e1⟩]; exact g
  · rw [addF_out m]; exact z
theorem sub_addF (f : Fp σ F H ρ A) : Sub F (addF F H A) := fun a u e => by
  by_cases h : a ∈ A
  · rw [f.nf a h] at e; cases e
  · rw [addF_out h]; exact e
end

/-! ### what is kept: its objects are shared -/
section
variable {C : Cs} {σ : St} {F H G : Hp} {ρ : Env} {A A0 : List Addr} {v : V} {b : B} {d : D}
theorem rtp_in {xs : List V} {bs : List SB} {ds : List D} (h : RTp C F H xs bs A) (s : Sub F G) (k : ∀ a ∈ A, ∀ o, H a = some o → G a = some o) (e : sbsD bs = some ds) : Reps C G xs ds := by
  induction h generalizing ds with
  | nil => cases e; exact .nil
  | sh r t ih =>
    unfold sbsD at e
    split at e
    · rename_i e1 e2
      cases e1; cases e
      exact .cons (r.mono s) (ih k e2)
    · cases e
  | ow r t ih =>
    unfold sbsD at e
    split at e
    · rename_i e1 e2
      cases e
      exact .cons (r.toD e1 s (k _ List.mem_cons_self)) (ih (fun a m => k a (List.mem_cons_of_mem _ m)) e2)
    · cases e
/-- its data over any G in which F and its own new objects stand -/
theorem RB.in_ (h : RB C σ F H v b A) (s : Sub F G) (k : ∀ a ∈ A, ∀ o, H a = some o → G a = some o) (n : noPl b = true) (e : b.dat ρ = some d) : Rep C G v d := by
  cases h with
  | sh r => cases e; exact r.mono s
  | ow r => exact r.toD e s (k _ (by simp))
  | pl q => cases n
  | tp q r =>
    rename_i a xs bs
    have e : (match sbsD bs with | some ds => some (D.tup ds) | none => none) = some d := e
    split at e
    · rename_i ds hd
      cases e
      exact .tup (s.sqT q) (rtp_in r s k hd)
    · cases e
theorem RBs.in_ {vs : List V} {bs : List B} {ds : List D} (h : RBs C σ F H vs bs A) (s : Sub F G) (k : ∀ a ∈ A, ∀ o, H a = some o → G a = some o) (n : bs.all noPl = true) (e : datsL ρ bs = some ds) : Reps C G vs ds := by
  induction h generalizing ds with
  | nil => cases e; exact .nil
  | cons r t ih =>
    unfold datsL at e
    split at e
    · rename_i e1 e2
      cases e
      rw [List.all_cons, Bool.and_eq_true] at n
      exact .cons (r.in_ s (fun a m => k a (List.mem_append_left _ m)) n.1 e1) (ih (fun a m => k a (List.mem_append_right _ m)) n.2 e2)
    · cases e
variable {α β : Type} {R : Rl β α} {W : WX} {Q : β → Hp → Prop}
theorem tR_kept {bs : List B} {vs : List V} {k : List D → M α} (S : Stt C F H σ ρ) (r : RBs C σ F H vs bs A) (f : Fp σ F H ρ A) (h : tR C R W (A0 ++ A) F ρ (bind (kept bs) k) σ H Q) :
    ∃ ds F1, datsL ρ bs = some ds ∧ bs.all noPl = true ∧ Stt C F1 H σ ρ ∧ Reps C F1 vs ds ∧ Sub F F1 ∧ tR C R W A0 F1 ρ (k ds) σ H Q := by
  unfold kept at h
  split at h
  · rename_i n
    obtain ⟨ds, e, h⟩ := tR_step h fun _ _ => dats_pure
    have e : datsL ρ bs = some ds := by
      unfold dats at e
      split at e
      · cases e
      · cases e; assumption
    obtain ⟨S1, T1⟩ := share S f
    refine ⟨ds, addF F H A, e, n, S1, r.in_ (sub_addF f) (fun a m o q => by rw [addF_in m]; exact q) n e, sub_addF f, ?_⟩
    exact tR_from (T1.hand fun a m => List.mem_append_right _ m) (fun a m => .inr (.inl (List.mem_append_left _ m))) h
  · obtain ⟨r', ρ', e', h⟩ := h
    cases e'
end

/-! ### judgements -/
section
variable (cl : Nat → Addr) (X : Cx)
/-- the expression e does what m does -/
def SimE (e : Expr) (m : M B) : Prop := ∀ W, Takes X W → PE X e (tM (cs cl X) RlB W m)
/-- as a test -/
def SimT (e : Expr) (m : M Bool) : Prop := ∀ W, Takes X W → PT X e (tM (cs cl X) RlT W m)
/-- arguments, items -/
def SimA (es : List Expr) (m : M (List B)) : Prop := ∀ W, Takes X W → PA X es (tM (cs cl X) RlL W m)
end
theorem PE.imp {X : Cx} {e : Expr} {t t' : TE} (h : PE X e t) (i : ∀ σ H Q, t' σ H Q → t σ H Q) : PE X e t' := ⟨fun pins s σ H Q I q => h.run pins s σ H Q I (i σ H Q q)⟩
theorem PT.imp {X : Cx} {e : Expr} {t t' : TT} (h : PT X e t) (i : ∀ σ H Q, t' σ H Q → t σ H Q) : PT X e t' := ⟨fun pins s σ H Q I q => h.run pins s σ H Q I (i σ H Q q)⟩
theorem PA.imp {X : Cx} {e : List Expr} {t t' : TA} (h : PA X e t) (i : ∀ σ H Q, t' σ H Q → t σ H Q) : PA X e t' := ⟨fun pos pins s σ H Q I q => h.run pos pins s σ H Q I (i σ H Q q)⟩

section
variable {cl : Nat → Addr} {X : Cx} {C : Cs} {σ : St} {F H : Hp} {ρ : Env} {A A0 : List Addr} {W : WX} {α β : Type} {R : Rl β α} {Q : β → Hp → Prop}
/-- through the first part of a bind -/
theorem tM_bind {α1 β1 : Type} {R1 : Rl β1 α1} {m : M α1} {k : α1 → M α} {Q1 : β1 → Hp → Prop} (S : Stt C F H σ ρ) (h : tR C R W A0 F ρ (bind m k) σ H Q)
    (i : ∀ v a A F1 H1 ρ1, Tr [] σ F H ρ σ F1 H1 ρ1 → Stt C F1 H1 σ ρ1 → R1.rel C σ F1 H1 v a A → Fp σ F1 H1 ρ1 A → New [] σ H ρ A → tR C R W (A0 ++ A) F1 ρ1 (k a) σ H1 Q → Q1 v H1) : tM C R1 W m σ H Q1 :=
  ⟨F, ρ, S, tR_mono (tR_bind h) fun v H1 ⟨a, A, F1, ρ1, T, S1, rl, fp, nw, q⟩ => i v a A F1 H1 ρ1 T S1 rl fp nw q⟩
/-- data that stays as it is -/
theorem Fin.data {Q : VK} {v : V} {d : D} (q : Fin C RlB A0 F ρ σ H Q (.sh d)) (S : Stt C F H σ ρ) (r : Rep C F v d) : Q v H := q v [] F H Tr.refl S (.sh r) Fp.nil New.nil
theorem Fin.bool {Q : Bool → Hp → Prop} {b : Bool} (q : Fin C RlT A0 F ρ σ H Q b) (S : Stt C F H σ ρ) : Q b H := q b [] F H Tr.refl S ⟨rfl, rfl⟩ Fp.nil New.nil
/-- a new tuple of kept items -/
theorem Fin.tup {Q : VK} {p : Addr} {xs : List V} {ds : List D} (q : Fin C RlB A0 F ρ σ H Q (.sh (.tup ds))) (S : Stt C F H σ ρ) (r : Reps C F xs ds) (h : H p = none) : Q (.ref p) (upd H p (.tup xs)) := by
  obtain ⟨S1, T1⟩ := new_sh (o := .tup xs) S h
  exact q _ [] _ _ (T1.hand fun _ z => nomatch z) S1 (.sh (.tup (.inl (.inl upd_same)) (r.mono T1.sub))) Fp.nil New.nil
/-- a new list of kept items -/
theorem Fin.lst {Q : VK} {p : Addr} {xs : List V} {ds : List D} (q : Fin C RlB A0 F ρ σ H Q (.ow (.lst ds))) (S : Stt C F H σ ρ) (r : Reps C F xs ds) (h : H p = none) : Q (.ref p) (upd H p (.lst xs)) := by
  obtain ⟨S1, T1, f, n⟩ := new_own (o := .lst xs) S h
  exact q _ [p] _ _ (T1.hand fun _ z => nomatch z) S1 (.ow (.lst upd_same r)) f fun a m => (n a m).imp id fun z => .inr (z.elim (fun z => nomatch z) id)

/-! ### constants, names -/
theorem sim_int {i j pos} : SimE cl X (.Constant (.int i) j pos) (mK (.int i)) := fun W _ => PE.imp pe_int fun σ H Q ⟨F, ρ, S, h⟩ => (tR_ret h).data S (.int i)
theorem sim_bl {b j pos} : SimE cl X (.Constant (.bool b) j pos) (mK (.bl b)) := fun W _ => PE.imp pe_bl fun σ H Q ⟨F, ρ, S, h⟩ => (tR_ret h).data S (.bl b)
theorem sim_non {j pos} : SimE cl X (.Constant .none j pos) (mK .non) := fun W _ => PE.imp pe_non fun σ H Q ⟨F, ρ, S, h⟩ => (tR_ret h).data S .non
def okTb (t : Txt) : Bool := t.all (fun c => decide (c < 0x110000)) && decide (t.length ≤ LIM)
theorem okT_of {t : Txt} (h : okTb t = true) : okT t := by
  unfold okTb at h
  rw [Bool.and_eq_true, List.all_eq_true] at h
  exact ⟨fun c m => of_decide_eq_true (h.1 c m), of_decide_eq_true h.2⟩
theorem sim_str {x : Str} {t : Txt} {j pos} (e : x.cps.toList = t) (o : okTb t = true) : SimE cl X (.Constant (.str x) j pos) (mK (.str t)) := fun W _ => PE.imp pe_str fun σ H Q ⟨F, ρ, S, h⟩ => by
  have e' : x = mkS t := by subst e; simp [mkS]
  rw [e']
  exact (tR_ret h).data S (.str t (okT_of o))
theorem sim_P {i : Nat} {x : Str} {pos : Pos} (hN : X.N[i]? = some x) (hv : Vis X.env.scope x) (hd : (x == ("__debug__" : Str)) = false) (hcd : (x == ("__classdict__" : Str)) = false) : SimE cl X (.Name x pos) (mP i) :=
  fun W _ => PE.imp (pe_var hN hv hd hcd) fun σ H Q ⟨F, ρ, S, r, ρ', e, h⟩ => by
    unfold mP at e
    split at e
    · rename_i d hd
      cases e
      obtain ⟨v, e1, r1⟩ := S.sl i _ hd
      cases r1 with
      | sh r1 => exact ⟨v, e1, h v [] F H Tr.refl S (.sh r1) Fp.nil New.nil⟩
    · rename_i d hd
      cases e
      obtain ⟨v, e1, r1⟩ := S.sl i _ hd
      exact ⟨v, e1, h v [] F H Tr.refl S (.pl e1) Fp.nil New.nil⟩
    · rename_i d hd
      cases e
      obtain ⟨v, e1, r1⟩ := S.sl i _ hd
      exact ⟨v, e1, h v [] F H Tr.refl S (.pl e1) Fp.nil New.nil⟩
    · cases e
end
section
variable {C : Cs} {σ : St} {F H : Hp} {ρ : Env} {i j : Nat} {b c : SB} {o : Option SB}
theorem at_of_get {ρ : Env} {i : Nat} {o : Option SB} (h : ρ[i]? = some o) : ρ.at i = o := by
  show ρ.getD i none = o
  rw [List.getD_eq_getElem?_getD, h]; rfl
theorem get_of_at {ρ : Env} {i : Nat} {b : SB} (h : ρ.at i = some b) : i < ρ.length ∧ ρ[i]? = some (some b) := by
  have h : ρ.getD i none = some b := h
  rw [List.getD_eq_getElem?_getD] at h
  cases e : ρ[i]? with
  | none => rw [e] at h; cases h
  | some u =>
    rw [e] at h
    have h : u = some b := h
    subst h
    exact ⟨(List.getElem?_eq_some_iff.mp e).1, rfl⟩
theorem at_set_same {ρ : Env} {i : Nat} {o : Option SB} (h : i < ρ.length) : Env.at (ρ.set i o) i = o := at_of_get (by rw [List.getElem?_set_self h])
theorem at_set_ne {ρ : Env} {i j : Nat} {o : Option SB} (h : i ≠ j) : Env.at (ρ.set i o) j = ρ.at j := by
  show (ρ.set i o).getD j none = ρ.getD j none
  rw [List.getD_eq_getElem?_getD, List.getD_eq_getElem?_getD, List.getElem?_set_ne h]
theorem at_set {ρ : Env} {i j : Nat} {o : Option SB} {b : SB} (h : Env.at (ρ.set i o) j = some b) : (j = i ∧ o = some b ∧ i < ρ.length) ∨ (j ≠ i ∧ ρ.at j = some b) := by
  by_cases e : i = j
  · subst e
    obtain ⟨l, g⟩ := get_of_at h
    rw [List.length_set] at l
    rw [at_set_same l] at h
    exact .inl ⟨rfl, h, l⟩
  · rw [at_set_ne e] at h
    exact .inr ⟨fun z => e z.symm, h⟩
/-- a name's own object is shared, or its binding forgotten -/
theorem owns_unset {a : Addr} (n : ∀ b, o = some b → b.obj = none) (h : Owns σ (ρ.set i o) a) : Owns σ ρ a := by
  obtain ⟨j, b, h1, h2, h3⟩ := h
  rcases at_set h1 with ⟨rfl, e, _⟩ | ⟨_, e⟩
  · rw [n b e] at h2; cases h2
  · exact ⟨j, b, e, h2, h3⟩
end
theorem share_slot {C : Cs} {σ : St} {F H : Hp} {ρ : Env} {i : Nat} {a : Addr} {ob : O} {d : D} (S : Stt C F H σ ρ) (h : ρ.at i = some (.ow ob)) (hs : σ[i]? = some (some (.ref a))) (r : ROb C F H a ob) (f : F a = none) (e : ob.toD = some d) :
    Stt C (addF F H [a]) H σ (ρ.set i (some (.sh d))) ∧ Tr [] σ F H ρ σ (addF F H [a]) H (ρ.set i (some (.sh d))) ∧ Rep C (addF F H [a]) (.ref a) d := by
  have ow : Owns σ ρ a := ⟨i, _, h, rfl, hs⟩
  have kf : Sub F (addF F H [a]) := fun x u q => by
    by_cases z : x ∈ [a]
    · rw [List.mem_singleton.mp z, f] at q; cases q
    · rw [addF_out z]; exact q
  have rp : Rep C (addF F H [a]) (.ref a) d := r.toD e kf fun o q => by rw [addF_in List.mem_cons_self]; exact q
  have il := (get_of_at h).1
  have unset : ∀ {x : Addr}, Owns σ (ρ.set i (some (.sh d))) x → Owns σ ρ x := fun q => owns_unset (fun b z => by cases z; rfl) q
  refine ⟨⟨fun x u q => ?_, by rw [List.length_set]; exact S.len, fun j b q => ?_, fun j k b c x h1 h2 h3 h4 h5 h6 => ?_⟩, ⟨kf, fun x u q _ _ => q, fun x q n _ z => ?_, fun x q => q, fun x q => .inl (unset q), fun j o q => ⟨⟨o, ?_⟩, rfl⟩, fun j o q => ?_⟩, rp⟩
  · by_cases z : x ∈ [a]
    · rw [addF_in z] at q; exact q
    · rw [addF_out z] at q; exact S.sub _ _ q
  · rcases at_set q with ⟨rfl, e1, _⟩ | ⟨nj, e1⟩
    · cases e1
      exact ⟨_, hs, .sh rp⟩
    · obtain ⟨v, e2, r2⟩ := S.sl j b e1
      refine ⟨v, e2, ?_⟩
      have na : ∀ {x : Addr}, v = .ref x → b.obj.isSome = true → x ∉ [a] := fun {x} ev ho z => by
        rw [List.mem_singleton.mp z] at ev
        subst ev
        exact nj (S.dis j i b _ a e1 ho h rfl e2 hs)
      cases r2 with
      | sh r2 => exact .sh (r2.mono kf)
      | ow r2 g => exact .ow (r2.mono kf fun _ z => z) (by rw [addF_out (na rfl rfl)]; exact g)
      | io r2 g => exact .io (r2.mono kf fun _ z => z) (by rw [addF_out (na rfl rfl)]; exact g)
  · rcases at_set h1 with ⟨rfl, e1, _⟩ | ⟨_, e1⟩
    · cases e1; cases h2
    · rcases at_set h3 with ⟨rfl, e2, _⟩ | ⟨_, e2⟩
      · cases e2; cases h4
      · exact S.dis j k b c x e1 h2 e2 h4 h5 h6
  · refine (addF_out fun m => ?_).trans z
    rw [List.mem_singleton.mp m] at n
    exact n ow
  · by_cases z : i = j
    · subst z; rw [h] at q; cases q
    · rw [at_set_ne z]; exact q
  · rcases at_set q with ⟨_, e1, _⟩ | ⟨_, e1⟩
    · cases e1
    · exact ⟨o, e1⟩
theorem sim_V {cl : Nat → Addr} {X : Cx} {i : Nat} {x : Str} {pos : Pos} (hN : X.N[i]? = some x) (hv : Vis X.env.scope x) (hd : (x == ("__debug__" : Str)) = false) (hcd : (x == ("__classdict__" : Str)) = false) : SimE cl X (.Name x pos) (mV i) :=
  fun W _ => PE.imp (pe_var hN hv hd hcd) fun σ H Q ⟨F, ρ, S, r, ρ', e, h⟩ => by
    unfold mV at e
    split at e
    · rename_i d hd
      cases e
      obtain ⟨v, e1, r1⟩ := S.sl i _ hd
      cases r1 with
      | sh r1 => exact ⟨v, e1, h v [] F H Tr.refl S (.sh r1) Fp.nil New.nil⟩
    · rename_i o hd
      split at e
      · rename_i d ed
        cases e
        obtain ⟨v, e1, r1⟩ := S.sl i _ hd
        cases r1 with
        | ow r1 f =>
          obtain ⟨S1, T1, rp⟩ := share_slot S hd e1 r1 f ed
          exact ⟨_, e1, h _ [] _ H T1 S1 (.sh rp) Fp.nil New.nil⟩
      · cases e
    · cases e
/-- a constant of the text's top -/
theorem sim_G {cl : Nat → Addr} {X : Cx} {x : Str} {v : V} {u : Value} {d : D} {pos : Pos} (hg : Gl X x) (hm : X.mg x = some u) (r : RelV v u) (rp : Rep (cs cl X) (fun _ => none) v d) (hd : (x == ("__debug__" : Str)) = false) : SimE cl X (.Name x pos) (mK d) :=
  fun W _ => PE.imp (pe_glob hg hm r hd) fun σ H Q ⟨F, ρ, S, h⟩ => (tR_ret h).data S (rp.mono (fun _ _ z => by cases z))
end WF

set_option Elab.async false
set_option linter.all false
set_option maxRecDepth 100000
set_option maxHeartbeats 4000000
/-! WFD: operators, comparisons, tests. -/
namespace WF
open PySem PySem.Spec PyProof.Rows L2

/-- a value looked at: frozen, or a name's own object -/
inductive Vw (C : Cs) (F H : Hp) : V → D → Prop
  | sc {v : V} {d : D} : Rep C F v d → Vw C F H v d
  | ob {a : Addr} {o : O} {d : D} : ROb C F H a o → o.toD = some d → Vw C F H (.ref a) d
section
variable {C : Cs} {σ : St} {F H G : Hp} {ρ : Env} {A A0 : List Addr} {v : V} {b : B} {d : D} {ds : List D}
theorem Vw.rep (h : Vw C F H v d) (s : Sub F H) : Rep C H v d := by
  cases h with
  | sc r => exact r.mono s
  | ob r e => exact r.toD e s fun _ z => z
theorem Vw.lst (h : Vw C F H v (.lst ds)) (s : Sub F H) : ∃ a xs, v = .ref a ∧ SqL C.K H a xs ∧ Reps C F xs ds := by
  cases h with
  | sc r => cases r with | lst h r => exact ⟨_, _, rfl, s.sqL h, r⟩
  | ob r e =>
    cases r with
    | lst h r => cases e; exact ⟨_, _, rfl, .inl (.inl h), r⟩
    | dicS h r => cases e
    | dicT h r => cases e
    | ins h r => cases e
theorem Vw.tup (h : Vw C F H v (.tup ds)) : ∃ a xs, v = .ref a ∧ SqT C.K F a xs ∧ Reps C F xs ds := by
  cases h with
  | sc r => cases r with | tup h r => exact ⟨_, _, rfl, h, r⟩
  | ob r e => cases r <;> cases e
theorem Vw.int {i : Int} (h : Vw C F H v (.int i)) : v = .int i := by
  cases h with
  | sc r => cases r; rfl
  | ob r e => cases r <;> cases e
theorem Vw.bl {i : Bool} (h : Vw C F H v (.bl i)) : v = .bl i := by
  cases h with
  | sc r => cases r; rfl
  | ob r e => cases r <;> cases e
theorem Vw.str {i : Txt} (h : Vw C F H v (.str i)) : v = .str (mkS i) ∧ okT i := by
  cases h with
  | sc r => cases r; exact ⟨rfl, by assumption⟩
  | ob r e => cases r <;> cases e
theorem Vw.non (h : Vw C F H v .non) : v = .non := by
  cases h with
  | sc r => cases r; rfl
  | ob r e => cases r <;> cases e
theorem Vw.isNon (h : Vw C F H v d) : decide (v = V.non) = d.isNon := by
  cases h with
  | sc r => cases r <;> simp [D.isNon]
  | ob r e => cases r <;> cases e <;> simp [D.isNon]
theorem RB.view (h : RB C σ F H v b A) (S : Stt C F H σ ρ) (s : Sub F G) (k : ∀ a ∈ A, ∀ o, H a = some o → G a = some o) (e : b.dat ρ = some d) : Vw C G H v d := by
  cases h with
  | sh r => cases e; exact .sc (r.mono s)
  | ow r => exact .sc (r.toD e s (k _ (by simp)))
  | pl q =>
    rename_i i
    have e : (match ρ.at i with | some b => b.toD | none => none) = some d := e
    split at e
    · rename_i c hc
      obtain ⟨w, e1, r⟩ := S.sl i c hc
      rw [q] at e1
      cases e1
      cases r with
      | sh r => cases e; exact .sc (r.mono s)
      | ow r f => exact .ob (r.mono s fun _ z => z) e
      | io r f => exact .ob (r.mono s fun _ z => z) e
    · cases e
  | tp q r =>
    rename_i a xs bs
    have e : (match sbsD bs with | some ds => some (D.tup ds) | none => none) = some d := e
    split at e
    · rename_i ds hd
      cases e
      exact .sc (.tup (s.sqT q) (rtp_in r s k hd))
    · cases e
end

section
variable {cl : Nat → Addr} {X : Cx} {C : Cs} {σ : St} {F H : Hp} {ρ : Env} {A A0 : List Addr} {α β : Type} {R : Rl β α} {W : WX} {Q : β → Hp → Prop}
/-- a value at the end of its expression; what was new in it is shared -/
theorem one_bind {ma : M B} {k : D → M α} {P : V → Hp → Prop} (S : Stt C F H σ ρ) (h : tR C R W A0 F ρ (bind ma fun x => bind (dat x) fun d => k d) σ H Q)
    (i : ∀ x d F2 H2 ρ2, Stt C F2 H2 σ ρ2 → Vw C F2 H2 x d → tR C R W A0 F2 ρ2 (k d) σ H2 Q → P x H2) : tM C RlB W ma σ H P := by
  refine tM_bind (R1 := RlB) S h fun x a A F1 H1 ρ1 T1 S1 r1 f1 n1 h1 => ?_
  obtain ⟨d, ed, h3⟩ := tR_dat h1
  obtain ⟨S2, T2⟩ := share S1 f1
  exact i x d _ _ _ S2 (r1.view S1 (sub_addF f1) (fun z m o q => by rw [addF_in m]; exact q) ed) (tR_from (T2.hand fun a m => List.mem_append_right _ m) (fun a m => .inr (.inl (List.mem_append_left _ m))) h3)
/-- two of them -/
theorem two_bind {ma mb : M B} {k : D → D → M α} {P : V → V → Hp → Prop} (S : Stt C F H σ ρ)
    (h : tR C R W A0 F ρ (bind ma fun x => bind mb fun y => bind (dat x) fun d => bind (dat y) fun e => k d e) σ H Q)
    (i : ∀ x y d e F2 H2 ρ2, Stt C F2 H2 σ ρ2 → Vw C F2 H2 x d → Vw C F2 H2 y e → tR C R W A0 F2 ρ2 (k d e) σ H2 Q → P x y H2) :
    tM C RlB W ma σ H fun x H1 => tM C RlB W mb σ H1 fun y H2 => P x y H2 := by
  refine tM_bind (R1 := RlB) S h fun x a A F1 H1 ρ1 T1 S1 r1 f1 n1 h1 => ?_
  refine tM_bind (R1 := RlB) S1 h1 fun y b A' F2 H2 ρ2 T2 S2 r2 f2 n2 h2 => ?_
  obtain ⟨d, ed, h3⟩ := tR_dat h2
  obtain ⟨e, ee, h4⟩ := tR_dat h3
  rw [List.append_assoc] at h4
  have r1' := r1.mono (F' := F2) (H' := H2) T2.sub fun z m => f1.keep T2 m
  have f := f1.append T2 f2 n2
  obtain ⟨S3, T3⟩ := share S2 f
  exact i x y d e _ _ _ S3 (r1'.view S2 (sub_addF f) (fun z m o q => by rw [addF_in (List.mem_append_left _ m)]; exact q) ed) (r2.view S2 (sub_addF f) (fun z m o q => by rw [addF_in (List.mem_append_right _ m)]; exact q) ee)
    (tR_from (T3.hand fun a m => List.mem_append_right _ m) (fun a m => .inr (.inl (List.mem_append_left _ m))) h4)
theorem three_bind {ma mb mc : M B} {k : D → D → D → M α} {P : V → V → V → Hp → Prop} (S : Stt C F H σ ρ)
    (h : tR C R W A0 F ρ (bind ma fun x => bind mb fun y => bind mc fun z => bind (dat x) fun d => bind (dat y) fun e => bind (dat z) fun g => k d e g) σ H Q)
    (i : ∀ x y z d e g F2 H2 ρ2, Stt C F2 H2 σ ρ2 → Vw C F2 H2 x d → Vw C F2 H2 y e → Vw C F2 H2 z g → tR C R W A0 F2 ρ2 (k d e g) σ H2 Q → P x y z H2) :
    tM C RlB W ma σ H fun x H1 => tM C RlB W mb σ H1 fun y H2 => tM C RlB W mc σ H2 fun z H3 => P x y z H3 := by
  refine tM_bind (R1 := RlB) S h fun x a A F1 H1 ρ1 T1 S1 r1 f1 n1 h1 => ?_
  refine tM_bind (R1 := RlB) S1 h1 fun y b A' F2 H2 ρ2 T2 S2 r2 f2 n2 h2 => ?_
  refine tM_bind (R1 := RlB) S2 h2 fun z c A'' F3 H3 ρ3 T3 S3 r3 f3 n3 h3 => ?_
  obtain ⟨d, ed, h3⟩ := tR_dat h3
  obtain ⟨e, ee, h4⟩ := tR_dat h3
  obtain ⟨g, eg, h5⟩ := tR_dat h4
  rw [List.append_assoc, List.append_assoc] at h5
  have r1' := (r1.mono (F' := F2) (H' := H2) T2.sub fun z m => f1.keep T2 m)
  have f12 := f1.append T2 f2 n2
  have r1'' := r1'.mono (F' := F3) (H' := H3) T3.sub fun z m => f12.keep T3 (List.mem_append_left _ m)
  have r2' := r2.mono (F' := F3) (H' := H3) T3.sub fun z m => f2.keep T3 m
  have f := f12.append T3 f3 n3
  rw [List.append_assoc] at f
  obtain ⟨S4, T4⟩ := share S3 f
  exact i x y z d e g _ _ _ S4 (r1''.view S3 (sub_addF f) (fun z m o q => by rw [addF_in (List.mem_append_left _ m)]; exact q) ed)
    (r2'.view S3 (sub_addF f) (fun z m o q => by rw [addF_in (List.mem_append_right _ (List.mem_append_left _ m))]; exact q) ee)
    (r3.view S3 (sub_addF f) (fun z m o q => by rw [addF_in (List.mem_append_right _ (List.mem_append_right _ m))]; exact q) eg)
    (tR_from (T4.hand fun a m => List.mem_append_right _ m) (fun a m => .inr (.inl (List.mem_append_left _ m))) h5)

/-- the layer's rule r for two values serves the mirror's f -/
def OpD (C : Cs) (r : R2) (f : D → D → Option B) : Prop := ∀ {σ : St} {F H : Hp} {ρ : Env} {A0 : List Addr} {x y : V} {d e : D} {b : B} {Q : VK}, Stt C F H σ ρ → Vw C F H x d → Vw C F H y e → f d e = some b →
  Fin C RlB A0 F ρ σ H Q b → r x y H Q
theorem tM_op {r : R2} {f : D → D → Option B} {ma mb : M B} {W : WX} {Q : VK} (o : OpD C r f) (h : tM C RlB W (mOp f ma mb) σ H Q) : tOp r (tM C RlB W ma) (tM C RlB W mb) σ H Q := by
  obtain ⟨F, ρ, S, h⟩ := h
  exact two_bind S h fun x y d e F2 H2 ρ2 S2 v w q => let ⟨b, eb, q⟩ := tR_end q; o S2 v w eb q
theorem sim_op {op : Operator} {r : R2} {f : D → D → Option B} {a b : Expr} {ma mb : M B} {pos : Pos} (ho : OpR X (binaryOp op) r) (o : OpD (cs cl X) r f) (ha : SimE cl X a ma) (hb : SimE cl X b mb) : SimE cl X (.BinOp a op b pos) (mOp f ma mb) :=
  fun W tk => PE.imp (pe_op ho (ha W tk) (hb W tk)) fun σ H Q h => tM_op o h
/-- what m gives is a truth value -/
def OnlyB (m : M B) : Prop := ∀ ρ b ρ', m ρ = some (.ok b, ρ') → ∃ c, b = boo c
/-- a comparison -/
structure SimC (cl : Nat → Addr) (X : Cx) (op : CmpOp) (a b : Expr) (m : M B) : Prop where
  pc : ∀ W, Takes X W → PC X op a b (tM (cs cl X) RlB W m)
  hm : behindInMarks op b = false
  ob : OnlyB m
theorem bind_ok {α β : Type} {m : M α} {k : α → M β} {ρ ρ' : Env} {b : β} (h : bind m k ρ = some (.ok b, ρ')) : ∃ a ρ1, m ρ = some (.ok a, ρ1) ∧ k a ρ1 = some (.ok b, ρ') := by
  unfold bind at h
  split at h
  · cases h
  · cases h
  · exact ⟨_, _, by assumption, h⟩
theorem lift_ok {α : Type} {o : Option α} {ρ ρ' : Env} {b : α} (h : lift o ρ = some (.ok b, ρ')) : o = some b := by
  unfold lift at h
  split at h
  · cases h
  · cases h; rfl
theorem onlyB_op {f : D → D → Option B} {a b : M B} (hf : ∀ d e b, f d e = some b → ∃ c, b = boo c) : OnlyB (mOp f a b) := fun ρ c ρ' h => by
  obtain ⟨_, _, _, h⟩ := bind_ok h
  obtain ⟨_, _, _, h⟩ := bind_ok h
  obtain ⟨_, _, _, h⟩ := bind_ok h
  obtain ⟨_, _, _, h⟩ := bind_ok h
  exact hf _ _ _ (lift_ok h)
theorem SimC.e {op : CmpOp} {a b : Expr} {m : M B} {pos : Pos} (h : SimC cl X op a b m) : SimE cl X (.Compare a [op] [b] pos) m := fun W tk => pe_cmp (h.pc W tk) h.hm
theorem sim_cmp {op : CmpOp} {r : R2} {f : D → D → Option B} {a b : Expr} {ma mb : M B} (ho : OpR X (compareOp op) r) (o : OpD (cs cl X) r f) (hf : ∀ d e b, f d e = some b → ∃ c, b = boo c) (hm : behindInMarks op b = false) (ha : SimE cl X a ma) (hb : SimE cl X b mb) : SimC cl X op a b (mOp f ma mb) :=
  ⟨fun W tk => ⟨fun pins s σ H Q I h => binT (ha W tk) (hb W tk) I (tM_op o h) fun v u s2 x y H2 I2 rx ry q => ho pins s2 σ H2 x y v u Q I2 rx ry q⟩, hm, onlyB_op hf⟩
end

/-! ### arithmetic -/
section
variable {X : Cx}
theorem list_at {h : Heap} {l : Addr} {its : Array Value} (p : h.IsList l its) : ∃ (n : Nat) (dd : Option Addr) (sl : Array (Option Value)), h.get? l = some { cls := .type "list", dict := dd, data := .seq its n, slots := sl } := by
  obtain ⟨⟨c, dd, da, sl⟩, ho, hc, n, hd⟩ := id p
  simp only at hc hd
  subst hc hd
  exact ⟨n, dd, sl, ho⟩
def rCatR (K : PySem.W.Frag) : R2 := fun x y H Q => ∃ l b xs zs, x = .ref l ∧ y = .ref b ∧ SqL K H l xs ∧ SqL K H b zs ∧ xs.length + zs.length ≤ sizeLine ∧ ∀ p, H p = none → Q (.ref p) (upd H p (.lst (xs ++ zs)))
theorem op_catR : OpR X (binaryOp .Add) (rCatR X.K) := by
  intro pins s σ H x y v u Q I rx ry h
  obtain ⟨l, b, xs, zs, rfl, rfl, hH, hB, hz, q⟩ := h
  cases rx
  cases ry
  obtain ⟨its, r, e, hl⟩ := I.list hH
  obtain ⟨its2, r2, e2, hl2⟩ := I.list hB
  obtain ⟨n, dd, sl, e⟩ := list_at e.isList
  obtain ⟨n2, dd2, sl2, e2⟩ := list_at e2.isList
  have l1 := r.length
  have l2 := r2.length
  have hs2 : its.toArray.size + its2.toArray.size ≤ sizeLine := by rw [List.size_toArray, List.size_toArray]; omega
  refine PySem.concat_meets ⟨_, e, rfl⟩ ⟨_, e2, rfl⟩ PySem.noFill_list_add PySem.seq_list_add PySem.F.slot_list_add PySem.F.entry_list_add (PySem.F.args_list_add_2 _ _) (PyProof.Rows.list_addW l b its.toArray its2.toArray n n2 dd dd2 sl sl2 hs2) ⟨e, e2, ?_⟩
  have ea : its.toArray ++ its2.toArray = (its ++ its2).toArray := by simp
  rw [ea]
  exact ⟨.ref _, _, I.lnew (t' := s.toks) (r.append r2) (by rw [List.length_append]; omega), rfl, q _ I.fresh⟩
def rRepR (K : PySem.W.Frag) : R2 := fun x y H Q => ∃ l k xs, x = .ref l ∧ y = .int k ∧ SqL K H l xs ∧ -(2 ^ 63) ≤ k ∧ k < 2 ^ 63 ∧ xs.length * k.toNat ≤ sizeLine ∧
  ∀ p, H p = none → Q (.ref p) (upd H p (.lst (List.replicate k.toNat xs).flatten))
/-- list * int, whatever else the list's object holds -/
theorem list_mulW (l : Addr) (items : Array Value) (n : Nat) (dd : Option Addr) (sl : Array (Option Value)) (x : Int) (u : Tok) (c0 : ¬(!Builtin.List.listFitsIndex x) = true) (c1 : ¬items.size * x.toNat > (2 ^ 63 - 1) / 8) (c2 : ¬Builtin.List.listTooLong (items.size * x.toNat) = true) :
    Meets (Builtin.«list.__mul__» ⟨[.ref l, .int x u], []⟩) (fun _ R s => s.heap.get? l = some { cls := .type "list", dict := dd, data := .seq items n, slots := sl } ∧
      R (.ok (.ret (Value.ref s.heap.objs.size))) { s with heap := s.heap.push { cls := Value.type "list", data := Data.seq (List.foldl (fun x1 x2 => x1 ++ x2) #[] (List.replicate (if items.isEmpty = true then 0 else x.toNat) items)) }, toks := s.toks }) :=
  .of_wp fun prog w A R s h => by
    obtain ⟨hp, g, d, tk, os⟩ := s
    obtain ⟨hl, h⟩ := h
    have hsz := PySem.AutoListH.joined_fits c2
    wp_walk using wpAny_loadPart' hl
    refine wpAny_ite_false (decide_eq_false (Nat.not_lt.mpr hsz)) ?_
    wp_walk using wpAny_loadPart' hl
    exact ⟨_, rfl, h⟩
theorem int_rmulW (k : Int) (t : Tok) (l : Addr) (items : Array Value) (n : Nat) (dd : Option Addr) (sl : Array (Option Value)) :
    Meets (Builtin.«int.__rmul__» ⟨[.int k t, .ref l], []⟩) (fun _ R s => s.heap.get? l = some { cls := .type "list", dict := dd, data := .seq items n, slots := sl } ∧ R (.ok (.ret .notImplemented)) s) :=
  .of_wp fun prog w A R s h => by
    obtain ⟨hp, g, d, tk, os⟩ := s
    obtain ⟨hl, h⟩ := h
    wp_walk using wpAny_loadPart' hl
    exact ⟨_, rfl, h⟩
theorem op_repR : OpR X (binaryOp .Mult) (rRepR X.K) := by
  intro pins s σ H x y v u Q I rx ry h
  obtain ⟨l, k, xs, rfl, rfl, hH, h1, h2, hz, q⟩ := h
  cases rx
  obtain ⟨t, rfl⟩ := ry
  obtain ⟨its, r, e, hl0⟩ := I.list hH
  obtain ⟨n, dd, sl, e⟩ := list_at e.isList
  have hl := r.length
  have hlen : its.toArray.size * k.toNat ≤ sizeLine := by rw [List.size_toArray, ← hl]; exact hz
  have hcap : ¬ its.toArray.size * k.toNat > (2 ^ 63 - 1) / 8 := by
    have : (sizeLine : Nat) ≤ (2 ^ 63 - 1) / 8 := by decide
    omega
  have hfit : ¬ (!Builtin.List.listFitsIndex k) = true := by
    rw [fitsIndex_both h1 h2]; decide
  have hlong : ¬ Builtin.List.listTooLong (its.toArray.size * k.toNat) = true := by
    rw [notLongL hlen]; decide
  have f0 : ∀ m : Nat, List.foldl (fun x1 x2 => x1 ++ x2) #[] (List.replicate m its.toArray) = (List.replicate m its).flatten.toArray := fun m => by
    have q := foldl_rep its m []
    rw [List.nil_append] at q
    exact q
  have hnew : List.foldl (fun x1 x2 => x1 ++ x2) #[] (List.replicate (if its.toArray.isEmpty = true then 0 else k.toNat) its.toArray) = (List.replicate k.toNat its).flatten.toArray := by
    rw [f0]
    cases its with
    | nil => simp
    | cons a r' => rw [if_neg (by simp)]
  refine wpAny_binaryOp_repeat_ref (T := "list") (U := "int") (by decide) ⟨_, e, rfl⟩ (fun s' => typeIs_int s' k t) noFill_list_mul F.fills_int_mul F.slot_int_rmul repeat_list F.slot_int_index.lookup
    (call_meets F.slot_int_rmul (typeIs_int s k t) F.entry_int_rmul (F.args_int_rmul_2 _ _) (int_rmulW k t l its.toArray n dd sl)
      ⟨e, rfl, ⟨_, e, rfl⟩, call_meets F.slot_list_mul ⟨_, e, rfl⟩ F.entry_list_mul (F.args_list_mul_2 _ _) (list_mulW l its.toArray n dd sl k t hfit hcap hlong) ⟨e, ?_⟩⟩)
  rw [hnew]
  exact ⟨.ref _, _, I.lnew (t' := s.toks) (r.rep k.toNat) (by rw [PyProof.Rows.lm_len_rep_flat, Nat.mul_comm]; exact hz), rfl, q _ I.fresh⟩
end
end WF
namespace WF
open PySem PySem.Spec PyProof.Rows L2
section
variable {cl : Nat → Addr} {X : Cx} {C : Cs} {σ : St} {F H : Hp} {ρ : Env} {A A0 : List Addr}
theorem Reps.append {F : Hp} : ∀ {xs ys : List V} {ds es : List D}, Reps C F xs ds → Reps C F ys es → Reps C F (xs ++ ys) (ds ++ es)
  | _, _, _, _, .nil, s => s
  | _, _, _, _, .cons r t, s => .cons r (Reps.append t s)
theorem Reps.rep {F : Hp} {xs : List V} {ds : List D} (r : Reps C F xs ds) : ∀ n : Nat, Reps C F (List.replicate n xs).flatten (repL ds n)
  | 0 => .nil
  | n + 1 => by
    unfold repL
    rw [List.replicate_succ, List.replicate_succ, List.flatten_cons, List.flatten_cons]
    exact r.append (Reps.rep r n)
theorem Reps.nil_iff {F : Hp} {xs : List V} {ds : List D} (r : Reps C F xs ds) : xs = [] ↔ ds = [] := by
  cases r <;> simp
theorem okT_append {a b : Txt} (x : okT a) (y : okT b) (h : a.length + b.length ≤ LIM) : okT (a ++ b) := ⟨fun c m => (List.mem_append.mp m).elim (x.1 c) (y.1 c), by rw [List.length_append]; exact h⟩
theorem mkS_append (a b : Txt) : mkS a ++ mkS b = mkS (a ++ b) := by
  show Str.append (mkS a) (mkS b) = _
  simp [Str.append, mkS]
/-- + -/
def rAddA (K : PySem.W.Frag) : R2 := fun x y H Q => rI0 (fun i j => .int (i + j)) x y H Q ∨ (∃ i j, x = .str i ∧ y = .str j ∧ i.length + j.length ≤ sizeLine ∧ Q (.str (i ++ j)) H) ∨ rCatA K x y H Q ∨ rCatR K x y H Q
theorem op_addA : OpR X (binaryOp .Add) (rAddA X.K) := op_add.or (op_add_str.or (op_catA.or op_catR))
theorem od_add : OpD C (rAddA C.K) iAdd := by
  intro σ F H ρ A0 x y d e b Q S v w eb q
  unfold iAdd at eb
  split at eb
  · cases eb
    rw [v.int, w.int]
    exact .inl ⟨_, _, rfl, rfl, q.data S (.int _)⟩
  · rename_i a b
    split at eb
    · rename_i hl
      cases eb
      obtain ⟨rfl, o1⟩ := v.str
      obtain ⟨rfl, o2⟩ := w.str
      refine .inr (.inl ⟨_, _, rfl, rfl, by rw [mkS_len, mkS_len, ← lim_eq]; exact hl, ?_⟩)
      rw [mkS_append]
      exact q.data S (.str _ (okT_append o1 o2 hl))
    · cases eb
  · rename_i a b
    split at eb
    · rename_i hl
      cases eb
      obtain ⟨p1, xs, rfl, h1, r1⟩ := v.tup
      obtain ⟨p2, ys, rfl, h2, r2⟩ := w.tup
      refine .inr (.inr (.inl ⟨_, _, _, _, rfl, rfl, S.sub.sqT h1, S.sub.sqT h2, by rw [r1.length, r2.length, ← lim_eq]; exact hl, fun e => ?_, fun _ e => ?_, fun _ _ p hp => q.tup S (r1.append r2) hp⟩))
      · have := r1.nil_iff.mp e
        subst this
        exact q.data S (.tup h2 r2)
      · have := r2.nil_iff.mp e
        subst this
        rw [List.append_nil] at q
        exact q.data S (.tup h1 r1)
    · cases eb
  · rename_i a b
    split at eb
    · rename_i hl
      cases eb
      obtain ⟨p1, xs, rfl, h1, r1⟩ := v.lst S.sub
      obtain ⟨p2, ys, rfl, h2, r2⟩ := w.lst S.sub
      exact .inr (.inr (.inr ⟨_, _, _, _, rfl, rfl, h1, h2, by rw [r1.length, r2.length, ← lim_eq]; exact hl, fun p hp => q.lst S (r1.append r2) hp⟩))
    · cases eb
  · cases eb
theorem sim_add {a b : Expr} {ma mb : M B} {pos : Pos} (ha : SimE cl X a ma) (hb : SimE cl X b mb) : SimE cl X (.BinOp a .Add b pos) (mAdd ma mb) := sim_op op_addA od_add ha hb
theorem od_sub : OpD C (rI0 fun i j => .int (i - j)) iSub := by
  intro σ F H ρ A0 x y d e b Q S v w eb q
  unfold iSub at eb
  split at eb
  · cases eb
    rw [v.int, w.int]
    exact ⟨_, _, rfl, rfl, q.data S (.int _)⟩
  · cases eb
theorem sim_sub {a b : Expr} {ma mb : M B} {pos : Pos} (ha : SimE cl X a ma) (hb : SimE cl X b mb) : SimE cl X (.BinOp a .Sub b pos) (mSub ma mb) := sim_op op_sub od_sub ha hb
theorem smallI_of {a : Int} (h : smallI a = true) : -(2 ^ 64) < a ∧ a < 2 ^ 64 := by
  unfold smallI at h
  rw [Bool.and_eq_true] at h
  exact ⟨of_decide_eq_true h.1, of_decide_eq_true h.2⟩
def rMulA (K : PySem.W.Frag) : R2 := fun x y H Q => rI CMul (fun i j => .int (i * j)) x y H Q ∨ rRepR K x y H Q ∨ rRepT K x y H Q
theorem op_mulA : OpR X (binaryOp .Mult) (rMulA X.K) := op_mul.or (op_repR.or op_repT)
theorem od_mul : OpD C (rMulA C.K) iMul := by
  intro σ F H ρ A0 x y d e b Q S v w eb q
  unfold iMul at eb
  split at eb
  · split at eb
    · rename_i h
      cases eb
      rw [v.int, w.int]
      refine .inl ⟨_, _, rfl, rfl, ?_, q.data S (.int _)⟩
      rw [Bool.or_eq_true] at h
      rcases h with h | h
      · exact .inl (smallI_of h)
      · exact .inr (smallI_of h)
    · cases eb
  · split at eb
    · rename_i a n h
      cases eb
      rw [Bool.and_eq_true, Bool.and_eq_true] at h
      have h1 := of_decide_eq_true h.1.1
      have h2 := of_decide_eq_true h.1.2
      have h3 := of_decide_eq_true h.2
      obtain ⟨p1, xs, rfl, g1, r1⟩ := v.lst S.sub
      rw [w.int]
      refine .inr (.inl ⟨_, _, _, rfl, rfl, g1, by omega, by omega, ?_, fun p hp => q.lst S (r1.rep _) hp⟩)
      rw [r1.length, sizeLine_eq]
      have := Nat.mul_le_mul h3 (show n.toNat ≤ 1000 by omega)
      omega
    · cases eb
  · split at eb
    · rename_i a n h
      cases eb
      rw [Bool.and_eq_true, Bool.and_eq_true, Bool.and_eq_true] at h
      have h1 := of_decide_eq_true h.1.1.1
      have h2 := of_decide_eq_true h.1.1.2
      have h3 := of_decide_eq_true h.1.2
      obtain ⟨p1, xs, rfl, g1, r1⟩ := v.tup
      rw [w.int]
      refine .inr (.inr ⟨_, _, _, rfl, rfl, S.sub.sqT g1, fun e => ?_, h1, h2, by rw [r1.length]; exact h3, fun p hp => q.tup S (r1.rep _) hp⟩)
      have := r1.nil_iff.mp e
      subst this
      exact absurd h.2 (by decide)
    · cases eb
  · cases eb
theorem sim_mul {a b : Expr} {ma mb : M B} {pos : Pos} (ha : SimE cl X a ma) (hb : SimE cl X b mb) : SimE cl X (.BinOp a .Mult b pos) (mMul ma mb) := sim_op op_mulA od_mul ha hb
theorem od_fdiv : OpD C (rI CDiv fun i j => .int (i / j)) iFdiv := by
  intro σ F H ρ A0 x y d e b Q S v w eb q
  unfold iFdiv at eb
  split at eb
  · split at eb
    · rename_i h
      cases eb
      rw [Bool.and_eq_true] at h
      rw [v.int, w.int]
      exact ⟨_, _, rfl, rfl, ⟨of_decide_eq_true h.1, of_decide_eq_true h.2⟩, q.data S (.int _)⟩
    · cases eb
  · cases eb
theorem sim_fdiv {a b : Expr} {ma mb : M B} {pos : Pos} (ha : SimE cl X a ma) (hb : SimE cl X b mb) : SimE cl X (.BinOp a .FloorDiv b pos) (mFdiv ma mb) := sim_op op_fdiv od_fdiv ha hb
theorem od_mod : OpD C (rI (fun _ j => 0 < j) fun i j => .int (i % j)) iMod := by
  intro σ F H ρ A0 x y d e b Q S v w eb q
  unfold iMod at eb
  split at eb
  · split at eb
    · rename_i h
      cases eb
      rw [v.int, w.int]
      exact ⟨_, _, rfl, rfl, of_decide_eq_true h, q.data S (.int _)⟩
    · cases eb
  · cases eb
theorem sim_mod {a b : Expr} {ma mb : M B} {pos : Pos} (ha : SimE cl X a ma) (hb : SimE cl X b mb) : SimE cl X (.BinOp a .Mod b pos) (mMod ma mb) := sim_op op_mod od_mod ha hb
theorem od_pow : OpD C (rI CPow fun i j => .int (i ^ j.toNat)) iPow := by
  intro σ F H ρ A0 x y d e b Q S v w eb q
  unfold iPow at eb
  split at eb
  · split at eb
    · rename_i h
      cases eb
      rw [Bool.and_eq_true, Bool.and_eq_true] at h
      have h2 := of_decide_eq_true h.1.2
      have h3 := smallI_of h.2
      rw [v.int, w.int]
      exact ⟨_, _, rfl, rfl, ⟨of_decide_eq_true h.1.1, by omega, by omega⟩, q.data S (.int _)⟩
    · cases eb
  · cases eb
theorem sim_pow {a b : Expr} {ma mb : M B} {pos : Pos} (ha : SimE cl X a ma) (hb : SimE cl X b mb) : SimE cl X (.BinOp a .Pow b pos) (mPow ma mb) := sim_op op_pow od_pow ha hb
theorem sim_neg {a : Expr} {ma : M B} {pos : Pos} (ha : SimE cl X a ma) : SimE cl X (.UnaryOp .USub a pos) (mNeg ma) := fun W tk => PE.imp (pe_un un_neg (ha W tk)) fun σ H Q ⟨F, ρ, S, h⟩ => by
  refine one_bind S h fun x d F2 H2 ρ2 S2 v q => ?_
  obtain ⟨b, eb, q⟩ := tR_end q
  unfold iNeg at eb
  split at eb
  · cases eb
    rw [v.int]
    exact ⟨_, rfl, q.data S2 (.int _)⟩
  · cases eb
end
end WF

set_option Elab.async false
set_option linter.all false
set_option maxRecDepth 100000
set_option maxHeartbeats 4000000
/-! WFE: == and in, tests, displays, subscripts. -/
namespace WF
open PySem PySem.Spec PyProof.Rows L2

mutual
/-- as the library's data -/
def toPy : D → PyData
  | .non => .none
  | .bl b => .bool b
  | .int i => .int i
  | .str s => .str (mkS s)
  | .tup xs => .tuple (toPys xs)
  | .lst xs => .list (toPys xs)
  | .dic _ _ => .dict []
def toPys : List D → List PyData
  | [] => []
  | x :: xs => toPy x :: toPys xs
end
theorem mkS_beq (a b : Txt) : (mkS a == mkS b) = (a == b) := by
  rw [Bool.eq_iff_iff, beq_iff_eq, beq_iff_eq]
  exact ⟨mkS_inj, fun e => by rw [e]⟩
mutual
theorem eqv_py : ∀ (d e : D), PyData.eqv (toPy d) (toPy e) = D.eqv d e
  | .non, e => by cases e <;> simp [toPy, PyData.eqv, D.eqv]
  | .bl b, e => by cases e <;> simp [toPy, PyData.eqv, D.eqv]
  | .int i, e => by cases e <;> simp [toPy, PyData.eqv, D.eqv]
  | .str s, e => by cases e <;> simp [toPy, PyData.eqv, D.eqv, mkS_beq]
  | .tup xs, e => by
    cases e with
    | tup ys => simp only [toPy, PyData.eqv, D.eqv]; exact eqvs_py xs ys
    | _ => simp [toPy, PyData.eqv, D.eqv]
  | .lst xs, e => by
    cases e with
    | lst ys => simp only [toPy, PyData.eqv, D.eqv]; exact eqvs_py xs ys
    | _ => simp [toPy, PyData.eqv, D.eqv]
  | .dic _ _, e => by cases e <;> simp [toPy, PyData.eqv, D.eqv]
theorem eqvs_py : ∀ (ds es : List D), PyData.eqvAll (toPys ds) (toPys es) = D.eqvs ds es
  | [], [] => by simp [toPys, PyData.eqvAll, D.eqvs]
  | [], _ :: _ => by simp [toPys, PyData.eqvAll, D.eqvs]
  | _ :: _, [] => by simp [toPys, PyData.eqvAll, D.eqvs]
  | d :: ds, e :: es => by simp only [toPys, PyData.eqvAll, D.eqvs]; rw [eqv_py d e, eqvs_py ds es]
end
mutual
theorem dep_py : ∀ (d : D), D.dep d < 1000 → (toPy d).depth = D.dep d
  | .non, _ => by simp [toPy, PyData.depth, D.dep]
  | .bl b, _ => by simp [toPy, PyData.depth, D.dep]
  | .int i, _ => by simp [toPy, PyData.depth, D.dep]
  | .str s, _ => by simp [toPy, PyData.depth, D.dep]
  | .tup xs, h => by
    have h' : D.deps xs + 1 < 1000 := by simpa [D.dep] using h
    simp only [toPy, PyData.depth, D.dep]; rw [deps_py xs (by omega)]
  | .lst xs, h => by
    have h' : D.deps xs + 1 < 1000 := by simpa [D.dep] using h
    simp only [toPy, PyData.depth, D.dep]; rw [deps_py xs (by omega)]
  | .dic _ _, h => by simp [D.dep] at h
theorem deps_py : ∀ (ds : List D), D.deps ds < 1000 → PyData.depthAll (toPys ds) = D.deps ds
  | [], _ => by simp [toPys, PyData.depthAll, D.deps]
  | d :: ds, h => by
    have h' : max (D.dep d) (D.deps ds) < 1000 := by simpa [D.deps] using h
    simp only [toPys, PyData.depthAll, D.deps]; rw [dep_py d (by omega), deps_py ds (by omega)]
end
theorem strOk_of {s : Txt} (h : okT s) : PyData.strOk (mkS s) = true := by
  unfold PyData.strOk mkS
  rw [Array.all_eq_true']
  intro c m
  have := h.1 c (by simpa using m)
  exact decide_eq_true this
mutual
theorem lay_py {C : Cs} {F : Hp} : ∀ {v : V} {d : D}, Rep C F v d → D.dep d < 1000 → (toPy d).canLay0 = true
  | _, _, .non, _ => by simp [toPy, PyData.canLay0]
  | _, _, .bl _, _ => by simp [toPy, PyData.canLay0]
  | _, _, .int _, _ => by simp [toPy, PyData.canLay0]
  | _, _, .str _ o, _ => by simp only [toPy, PyData.canLay0]; exact strOk_of o
  | _, .tup ds, .tup _ r, h => by
    have h' : D.deps ds + 1 < 1000 := by simpa [D.dep] using h
    simp only [toPy, PyData.canLay0]; exact lays_py r (by omega)
  | _, .lst ds, .lst _ r, h => by
    have h' : D.deps ds + 1 < 1000 := by simpa [D.dep] using h
    simp only [toPy, PyData.canLay0]; exact lays_py r (by omega)
  | _, _, .dicS _ _, h => by simp [D.dep] at h
  | _, _, .dicT _ _, h => by simp [D.dep] at h
theorem lays_py {C : Cs} {F : Hp} : ∀ {v : List V} {d : List D}, Reps C F v d → D.deps d < 1000 → PyData.canLayAll0 (toPys d) = true
  | _, _, .nil, _ => by simp [toPys, PyData.canLayAll0]
  | _, d :: ds, .cons h r, k => by
    have h' : max (D.dep d) (D.deps ds) < 1000 := by simpa [D.deps] using k
    simp only [toPys, PyData.canLayAll0]; rw [lay_py h (by omega), lays_py r (by omega)]; rfl
end
mutual
theorem dp_py {C : Cs} {F : Hp} : ∀ {v : V} {d : D}, Rep C F v d → D.dep d < 1000 → Dp C.K F v (toPy d)
  | _, _, .non, _ => .non
  | _, _, .bl b, _ => .bl b
  | _, _, .int i, _ => .int i
  | _, _, .str s _, _ => .str (mkS s)
  | _, .tup ds, .tup q r, h => by
    have h' : D.deps ds + 1 < 1000 := by simpa [D.dep] using h
    simp only [toPy]; exact .tup q (dps_py r (by omega))
  | _, .lst ds, .lst q r, h => by
    have h' : D.deps ds + 1 < 1000 := by simpa [D.dep] using h
    simp only [toPy]; exact .lst q (dps_py r (by omega))
  | _, _, .dicS _ _, h => by simp [D.dep] at h
  | _, _, .dicT _ _, h => by simp [D.dep] at h
theorem dps_py {C : Cs} {F : Hp} : ∀ {v : List V} {d : List D}, Reps C F v d → D.deps d < 1000 → DpAll C.K F v (toPys d)
  | _, _, .nil, _ => .nil
  | _, d :: ds, .cons h r, k => by
    have h' : max (D.dep d) (D.deps ds) < 1000 := by simpa [D.deps] using k
    exact .cons (dp_py h (by omega)) (dps_py r (by omega))
end
theorem shaped_py {C : Cs} {F : Hp} {v : V} {d : D} (r : Rep C F v d) (h : D.dep d ≤ 60) : SeqAt.shaped (toPy d) = true := by
  unfold SeqAt.shaped
  rw [lay_py r (by omega), dep_py d (by omega)]
  exact decide_eq_true (by omega)

section
variable {cl : Nat → Addr} {X : Cx} {C : Cs} {σ : St} {F H : Hp} {ρ : Env} {A A0 : List Addr}
theorem od_eq : OpD C (rEqD C.K) iEq := by
  intro σ F H ρ A0 x y d e b Q S v w eb q
  unfold iEq at eb
  split at eb
  · rename_i h
    cases eb
    rw [Bool.and_eq_true] at h
    have h1 := of_decide_eq_true h.1
    have h2 := of_decide_eq_true h.2
    refine ⟨toPy d, toPy e, dp_py (v.rep S.sub) (by omega), dp_py (w.rep S.sub) (by omega), shaped_py (v.rep S.sub) h1, shaped_py (w.rep S.sub) h2, ?_⟩
    rw [eqv_py]
    exact q.data S (.bl _)
  · cases eb
theorem od_ne : OpD C (rNeD C.K) iNe := by
  intro σ F H ρ A0 x y d e b Q S v w eb q
  unfold iNe at eb
  split at eb
  · rename_i h
    cases eb
    rw [Bool.and_eq_true] at h
    have h1 := of_decide_eq_true h.1
    have h2 := of_decide_eq_true h.2
    refine ⟨toPy d, toPy e, dp_py (v.rep S.sub) (by omega), dp_py (w.rep S.sub) (by omega), shaped_py (v.rep S.sub) h1, shaped_py (w.rep S.sub) h2, ?_⟩
    rw [eqv_py]
    exact q.data S (.bl _)
  · cases eb
/-- room for what is asked of nested data -/
abbrev Hu (X : Cx) : Prop := X.A.units + 65 < cLine
theorem sim_eq {a b : Expr} {ma mb : M B} (hu : Hu X) (ha : SimE cl X a ma) (hb : SimE cl X b mb) : SimC cl X .Eq a b (mEq ma mb) := sim_cmp (op_eqD (by have : X.A.units + 65 < cLine := hu; omega)) od_eq (fun d e b h => by unfold iEq at h; split at h <;> cases h; exact ⟨_, rfl⟩) (nomark b) ha hb
theorem sim_ne {a b : Expr} {ma mb : M B} (hu : Hu X) (ha : SimE cl X a ma) (hb : SimE cl X b mb) : SimC cl X .NotEq a b (mNe ma mb) := sim_cmp (op_neD (by have : X.A.units + 65 < cLine := hu; omega)) od_ne (fun d e b h => by unfold iNe at h; split at h <;> cases h; exact ⟨_, rfl⟩) (nomark b) ha hb
theorem od_int {f : D → D → Option B} {g : Int → Int → Bool} (hf : ∀ d e b, f d e = some b → ∃ i j, d = .int i ∧ e = .int j ∧ b = boo (g i j)) : OpD C (rI0 fun i j => .bl (g i j)) f := by
  intro σ F H ρ A0 x y d e b Q S v w eb q
  obtain ⟨i, j, rfl, rfl, rfl⟩ := hf d e b eb
  rw [v.int, w.int]
  exact ⟨_, _, rfl, rfl, q.data S (.bl _)⟩
theorem sim_lt {a b : Expr} {ma mb : M B} (ha : SimE cl X a ma) (hb : SimE cl X b mb) : SimC cl X .Lt a b (mLt ma mb) := sim_cmp op_lt (od_int fun d e b h => by
  unfold iLt at h; split at h <;> cases h; exact ⟨_, _, rfl, rfl, rfl⟩) (fun d e b h => by unfold iLt at h; split at h <;> cases h; exact ⟨_, rfl⟩) (nomark b) ha hb
theorem sim_le {a b : Expr} {ma mb : M B} (ha : SimE cl X a ma) (hb : SimE cl X b mb) : SimC cl X .LtE a b (mLe ma mb) := sim_cmp op_le (od_int fun d e b h => by
  unfold iLe at h; split at h <;> cases h; exact ⟨_, _, rfl, rfl, rfl⟩) (fun d e b h => by unfold iLe at h; split at h <;> cases h; exact ⟨_, rfl⟩) (nomark b) ha hb
theorem sim_gt {a b : Expr} {ma mb : M B} (ha : SimE cl X a ma) (hb : SimE cl X b mb) : SimC cl X .Gt a b (mGt ma mb) := sim_cmp op_gt (od_int fun d e b h => by
  unfold iGt at h; split at h <;> cases h; exact ⟨_, _, rfl, rfl, rfl⟩) (fun d e b h => by unfold iGt at h; split at h <;> cases h; exact ⟨_, rfl⟩) (nomark b) ha hb
theorem sim_ge {a b : Expr} {ma mb : M B} (ha : SimE cl X a ma) (hb : SimE cl X b mb) : SimC cl X .GtE a b (mGe ma mb) := sim_cmp op_ge (od_int fun d e b h => by
  unfold iGe at h; split at h <;> cases h; exact ⟨_, _, rfl, rfl, rfl⟩) (fun d e b h => by unfold iGe at h; split at h <;> cases h; exact ⟨_, rfl⟩) (nomark b) ha hb
theorem onlyB_un {g : D → Bool} {a : M B} : OnlyB (bind a fun x => bind (dat x) fun d => ret (boo (g d))) := fun ρ c ρ' h => by
  obtain ⟨_, _, _, h⟩ := bind_ok h
  obtain ⟨_, _, _, h⟩ := bind_ok h
  unfold ret at h
  cases h
  exact ⟨_, rfl⟩
theorem sim_isN {a : Expr} {ma : M B} {j} {pos' : Pos} (ha : SimE cl X a ma) : SimC cl X .Is a (.Constant .none j pos') (mIsN ma) := ⟨fun W tk => ⟨fun pins s σ H Q I ⟨F, ρ, S, h⟩ => (pc_isN (ha W tk)).run pins s σ H Q I
  (one_bind S h fun x d F2 H2 ρ2 S2 v q => by
    rw [v.isNon]
    exact (tR_ret q).data S2 (.bl _))⟩, rfl, onlyB_un⟩
theorem sim_notN {a : Expr} {ma : M B} {j} {pos' : Pos} (ha : SimE cl X a ma) : SimC cl X .IsNot a (.Constant .none j pos') (mNotN ma) := ⟨fun W tk => ⟨fun pins s σ H Q I ⟨F, ρ, S, h⟩ => (pc_notN (ha W tk)).run pins s σ H Q I
  (one_bind S h fun x d F2 H2 ρ2 S2 v q => by
    rw [v.isNon]
    exact (tR_ret q).data S2 (.bl _))⟩, rfl, onlyB_un⟩

/-! ### in: of a list, of a tuple, at any depth -/
theorem any_py (x : D) : ∀ ys : List D, ((toPys ys).any fun z => PyData.eqv z (toPy x)) = memD x ys
  | [] => rfl
  | y :: ys => by
    have ih := any_py x ys
    unfold memD at ih ⊢
    rw [toPys, List.any_cons, List.any_cons, eqv_py, ih]
def rInT (K : PySem.W.Frag) (neg : Bool) : R2 := fun x y H Q => ∃ d ds, Dp K H x d ∧ Dp K H y (.tuple ds) ∧ SeqAt.shaped d = true ∧ SeqAt.shaped (.tuple ds) = true ∧ Q (.bl (if neg then !(ds.any fun z => PyData.eqv z d) else ds.any fun z => PyData.eqv z d)) H
theorem op_inT (hu : Hu X) : OpR X (compareOp .In) (rInT X.K false) := by
  intro pins s σ H x y v u Q I rx ry h
  obtain ⟨d, ds, hd, he, sd, se, q⟩ := h
  obtain ⟨as, r1⟩ := Dp.reads I d x v hd rx
  obtain ⟨bs, r2⟩ := Dp.reads I (.tuple ds) y u he ry
  exact SeqAt.in_tuple_reads r2 r1 (SeqAt.canLay_of_shaped se) (SeqAt.canLay_of_shaped sd) (room_in_shaped sd hu) ⟨.bl _, H, I, rfl, q⟩
theorem op_notInT (hu : Hu X) : OpR X (compareOp .NotIn) (rInT X.K true) := by
  intro pins s σ H x y v u Q I rx ry h
  obtain ⟨d, ds, hd, he, sd, se, q⟩ := h
  obtain ⟨as, r1⟩ := Dp.reads I d x v hd rx
  obtain ⟨bs, r2⟩ := Dp.reads I (.tuple ds) y u he ry
  exact SeqAt.notIn_tuple_reads r2 r1 (SeqAt.canLay_of_shaped se) (SeqAt.canLay_of_shaped sd) (room_in_shaped sd hu) ⟨.bl _, H, I, rfl, q⟩
end
end WF

set_option Elab.async false
set_option linter.all false
set_option maxRecDepth 100000
set_option maxHeartbeats 4000000
/-! WFF: dicts (text keys; nested tuples as keys): in, [], get, store. -/
namespace WF
open PySem PySem.Spec PyProof.Rows L2

/-! ### keys that are nested tuples -/
mutual
theorem nk_beq : ∀ d e : D, D.key d = true → D.key e = true → NestedKey.beq (nk d) (nk e) = D.eqv d e
  | .non, e, _, h => by cases e <;> simp [nk, NestedKey.beq, D.eqv, D.key] at h ⊢
  | .bl b, e, _, h => by cases e <;> simp [nk, NestedKey.beq, D.eqv, D.key] at h ⊢ <;> (cases b <;> first | (rename_i c; cases c <;> decide) | (simp [Bool.beq_eq_decide_eq]; done) | skip) <;> simp [Int.beq_eq_decide_eq, eq_comm] <;> rfl
  | .int i, e, _, h => by
    cases e with
    | bl b => cases b <;> simp [nk, NestedKey.beq, D.eqv] <;> rfl
    | int j => simp only [nk, NestedKey.beq, D.eqv]; rfl
    | lst xs => simp [D.key] at h
    | dic t xs => simp [D.key] at h
    | _ => simp [nk, NestedKey.beq, D.eqv]
  | .str s, e, _, h => by
    cases e with
    | str t =>
      simp only [nk, NestedKey.beq, D.eqv]
      rw [← mkS_beq]; rfl
    | lst xs => simp [D.key] at h
    | dic t xs => simp [D.key] at h
    | _ => simp [nk, NestedKey.beq, D.eqv]
  | .tup xs, e, g, h => by
    cases e with
    | tup ys =>
      simp only [nk, NestedKey.beq, D.eqv]
      exact nks_beq xs ys (by simpa [D.key] using g) (by simpa [D.key] using h)
    | lst xs => simp [D.key] at h
    | dic t xs => simp [D.key] at h
    | _ => simp [nk, NestedKey.beq, D.eqv]
  | .lst _, _, g, _ => by simp [D.key] at g
  | .dic _ _, _, g, _ => by simp [D.key] at g
theorem nks_beq : ∀ ds es : List D, D.keys ds = true → D.keys es = true → NestedKey.beqAll (nks ds) (nks es) = D.eqvs ds es
  | [], [], _, _ => by simp [nks, NestedKey.beqAll, D.eqvs]
  | [], _ :: _, _, _ => by simp [nks, NestedKey.beqAll, D.eqvs]
  | _ :: _, [], _, _ => by simp [nks, NestedKey.beqAll, D.eqvs]
  | d :: ds, e :: es, g, h => by
    have g' : D.key d = true ∧ D.keys ds = true := by simpa [D.keys] using g
    have h' : D.key e = true ∧ D.keys es = true := by simpa [D.keys] using h
    simp only [nks, NestedKey.beqAll, D.eqvs]
    rw [nk_beq d e g'.1 h'.1, nks_beq ds es g'.2 h'.2]
end
mutual
theorem nk_depth : ∀ d : D, D.key d = true → (nk d).depth = D.dep d
  | .non, _ => by simp [nk, NestedKey.depth, D.dep]
  | .bl _, _ => by simp [nk, NestedKey.depth, D.dep]
  | .int _, _ => by simp [nk, NestedKey.depth, D.dep]
  | .str _, _ => by simp [nk, NestedKey.depth, D.dep]
  | .tup xs, h => by simp only [nk, NestedKey.depth, D.dep]; rw [nks_depth xs (by simpa [D.key] using h)]
  | .lst _, g => by simp [D.key] at g
  | .dic _ _, g => by simp [D.key] at g
theorem nks_depth : ∀ ds : List D, D.keys ds = true → NestedKey.depthAll (nks ds) = D.deps ds
  | [], _ => by simp [nks, NestedKey.depthAll, D.deps]
  | d :: ds, g => by
    have g' : D.key d = true ∧ D.keys ds = true := by simpa [D.keys] using g
    simp only [nks, NestedKey.depthAll, D.deps]; rw [nk_depth d g'.1, nks_depth ds g'.2]
end
theorem keyT_key {d : D} (h : keyT d = true) : D.key d = true ∧ D.dep d ≤ 8 ∧ ∃ xs, d = .tup xs := by
  cases d with
  | tup xs =>
    have h : (D.keys xs && decide (D.dep (.tup xs) ≤ 8)) = true := h
    rw [Bool.and_eq_true] at h
    exact ⟨by simp only [D.key]; exact h.1, of_decide_eq_true h.2, _, rfl⟩
  | _ => exact absurd (show false = true from h) Bool.false_ne_true
theorem nk_dec {d e : D} (g : keyT d = true) (h : keyT e = true) : decide (nk d = nk e) = D.eqv d e := by
  rw [NestedKey.decide_eq, nk_beq d e (keyT_key g).1 (keyT_key h).1]

section
variable {X : Cx} {cl : Nat → Addr} {pins : List (Addr × Obj)} {σ : St} {F H : Hp} {s : Shared}
mutual
theorem nk_is (I : Inv X pins σ H s) : ∀ {v : V} {d : D} {u : Value}, Rep (cs cl X) H v d → D.key d = true → RelV v u → NestedIs s.heap (nk d) u
  | _, _, _, .non, _, r => by cases r; simp only [nk]; exact .none
  | _, _, _, .bl b, _, r => by cases r; simp only [nk]; exact .bool rfl
  | _, _, _, .int i, _, r => by obtain ⟨t, rfl⟩ := r; simp only [nk]; exact .int _ _
  | _, _, _, .str t _, _, r => by obtain ⟨t, rfl⟩ := r; simp only [nk]; exact .text _ _
  | _, .tup ds, _, .tup q a, h, r => by
    cases r
    obtain ⟨its, rv, ⟨o, ho, hc, n, hd⟩, _⟩ := I.tuple q
    simp only [nk]
    exact .tup ho hc hd (nks_is I a (by simpa [D.key] using h) (by simpa using rv))
  | _, _, _, .lst _ _, h, _ => by simp [D.key] at h
  | _, _, _, .dicS _ _, h, _ => by simp [D.key] at h
  | _, _, _, .dicT _ _, h, _ => by simp [D.key] at h
theorem nks_is (I : Inv X pins σ H s) : ∀ {vs : List V} {ds : List D} {us : List Value}, Reps (cs cl X) H vs ds → D.keys ds = true → Vals vs us → NestedAll s.heap (nks ds) us
  | _, _, _, .nil, _, r => by cases r; simp only [nks]; exact .nil
  | _, d :: ds, _, .cons a b, h, r => by
    have h' : D.key d = true ∧ D.keys ds = true := by simpa [D.keys] using h
    cases r with
    | cons r1 r2 => simp only [nks]; exact .cons (nk_is I a h'.1 r1) (nks_is I b h'.2 r2)
end
theorem key_is (I : Inv X pins σ H s) {a : Addr} {d : D} (r : Rep (cs cl X) H (.ref a) d) (h : keyT d = true) : (nestedKind X.prog X.w).is s.heap (nk d) a :=
  ⟨nk_is I r (keyT_key h).1 rfl, by rw [nk_depth d (keyT_key h).1]; exact (keyT_key h).2.1⟩
end
end WF

namespace WF
open PySem PySem.Spec PyProof.Rows L2
abbrev XT := NestedKey × Addr × V
abbrev YT := NestedKey × Addr × Value
abbrev RelT : List XT → List YT → Prop := Paired fun (p : XT) (q : YT) => p.1 = q.1 ∧ p.2.1 = q.2.1 ∧ RelV p.2.2 q.2.2
def hasX (xs : List XT) (k : NestedKey) : Bool := xs.any fun x => decide (x.1 = k)
def storedX (xs : List XT) (k : NestedKey) (a : Addr) (v : V) : List XT := if hasX xs k then xs.map (fun x => if x.1 = k then (x.1, x.2.1, v) else x) else xs ++ [(k, a, v)]
section
variable {C : Cs} {F : Hp}
theorem Paired.app {α β : Type} {R : α → β → Prop} : ∀ {a c : List α} {b d : List β}, Paired R a b → Paired R c d → Paired R (a ++ c) (b ++ d)
  | _, _, _, _, .nil, s => s
  | _, _, _, _, .cons r t, s => .cons r (Paired.app t s)
theorem relT_has : ∀ {xs : List XT} {ys : List YT}, RelT xs ys → ∀ k, (atKey ys k).isSome = hasX xs k
  | _, _, .nil, _ => rfl
  | _, _, .cons (a := x) (b := y) r t, k => by
    have ih := relT_has t k
    unfold atKey hasX at ih ⊢
    rw [List.any_cons, List.find?_cons, ← r.1]
    by_cases h : x.1 = k
    · simp [h]
    · simp only [h, decide_false, Bool.false_or]; exact ih
theorem relT_put (k : NestedKey) {v : V} {u : Value} (rv : RelV v u) : ∀ {xs : List XT} {ys : List YT}, RelT xs ys → RelT (xs.map fun x => if x.1 = k then (x.1, x.2.1, v) else x) (ys.map (putAt k u))
  | _, _, .nil => .nil
  | _, _, .cons (a := x) (b := y) r t => by
    refine .cons ?_ (relT_put k rv t)
    unfold putAt
    rw [← r.1]
    dsimp only
    by_cases h : x.1 = k
    · rw [if_pos h, if_pos h]; exact ⟨rfl, r.2.1, rv⟩
    · rw [if_neg h, if_neg h]; exact r
theorem relT_stored {xs : List XT} {ys : List YT} (r : RelT xs ys) (k : NestedKey) (a : Addr) {v : V} {u : Value} (rv : RelV v u) : RelT (storedX xs k a v) (storedH ys k a u) := by
  unfold storedX storedH
  rw [relT_has r k]
  split
  · exact relT_put k rv r
  · exact Paired.app r (.cons ⟨rfl, rfl, rv⟩ .nil)
theorem repT_has : ∀ {xs : List XT} {kvs : List (D × D)}, RepT C F xs kvs → ∀ k, keyT k = true → hasX xs (nk k) = (lookD kvs k).isSome
  | _, _, .nil, _, _ => rfl
  | _, _, .cons g rk rv t, k, h => by
    have ih := repT_has t k h
    unfold hasX lookD at ih ⊢
    rw [List.any_cons, List.find?_cons, nk_dec g h]
    cases e : D.eqv _ k with
    | true => simp
    | false => rw [Bool.false_or]; exact ih
theorem repT_put {k d : D} {v : V} (h : keyT k = true) (rv : Rep C F v d) : ∀ {xs : List XT} {kvs : List (D × D)}, RepT C F xs kvs → RepT C F (xs.map fun x => if x.1 = nk k then (x.1, x.2.1, v) else x) (kvs.map fun p => if D.eqv p.1 k then (p.1, d) else p)
  | _, _, .nil => .nil
  | _, _, .cons (k := k') g rk' rv' t => by
    rw [List.map_cons, List.map_cons]
    have q := nk_dec g h
    cases e : D.eqv k' k with
    | true =>
      rw [e] at q
      rw [if_pos (of_decide_eq_true q), if_pos rfl]
      exact .cons g rk' rv (repT_put h rv t)
    | false =>
      rw [e] at q
      rw [if_neg (of_decide_eq_false q), if_neg Bool.false_ne_true]
      exact .cons g rk' rv' (repT_put h rv t)
theorem repT_app {xs' : List XT} {kvs' : List (D × D)} (r' : RepT C F xs' kvs') : ∀ {xs : List XT} {kvs : List (D × D)}, RepT C F xs kvs → RepT C F (xs ++ xs') (kvs ++ kvs')
  | _, _, .nil => r'
  | _, _, .cons g rk rv t => .cons g rk rv (repT_app r' t)
theorem repT_stored {xs : List XT} {kvs : List (D × D)} (r : RepT C F xs kvs) {k d : D} {a : Addr} {v : V} (h : keyT k = true) (rk : Rep C F (.ref a) k) (rv : Rep C F v d) : RepT C F (storedX xs (nk k) a v) (putD kvs k d) := by
  unfold storedX putD
  rw [repT_has r k h]
  split
  · exact repT_put h rv r
  · exact repT_app (.cons h rk rv .nil) r
theorem hasX_mem {xs : List XT} {k : NestedKey} : hasX xs k = true ↔ k ∈ xs.map (·.1) := by
  unfold hasX
  rw [List.any_eq_true, List.mem_map]
  constructor
  · rintro ⟨x, m, e⟩; exact ⟨x, m, of_decide_eq_true e⟩
  · rintro ⟨x, m, e⟩; exact ⟨x, m, decide_eq_true e⟩
theorem stored_keys (xs : List XT) (k : NestedKey) (a : Addr) (v : V) : (storedX xs k a v).map (·.1) = if hasX xs k then xs.map (·.1) else xs.map (·.1) ++ [k] := by
  unfold storedX
  split
  · rw [List.map_map]
    refine List.map_congr_left fun x _ => ?_
    by_cases h : x.1 = k <;> simp [h]
  · simp
theorem stored_nodup {xs : List XT} {k : NestedKey} {a : Addr} {v : V} (n : (xs.map (·.1)).Nodup) : ((storedX xs k a v).map (·.1)).Nodup := by
  rw [stored_keys]
  split
  · exact n
  · rename_i h
    rw [List.nodup_append]
    refine ⟨n, by simp, fun x m y m' e => ?_⟩
    rw [List.mem_singleton.mp m'] at e
    subst e
    exact h (hasX_mem.mpr m)
theorem stored_length (xs : List XT) (k : NestedKey) (a : Addr) (v : V) : (storedX xs k a v).length ≤ xs.length + 1 := by
  unfold storedX
  split
  · simp
  · simp
/-- the value at a key -/
theorem repT_at : ∀ {xs : List XT} {ys : List YT} {kvs : List (D × D)}, RepT C F xs kvs → RelT xs ys → ∀ {k d : D}, keyT k = true → lookD kvs k = some d → ∃ p v, atKey ys (nk k) = some p ∧ RelV v p.2 ∧ Rep C F v d
  | _, _, _, .nil, .nil, _, _, _, e => by cases e
  | _, _, _, .cons g rk rv t, .cons r t', k, d, h, e => by
    unfold lookD at e
    unfold atKey
    rw [List.find?_cons] at e ⊢
    rw [← r.1, nk_dec g h]
    cases q : D.eqv _ k with
    | true =>
      rw [q] at e
      cases e
      exact ⟨_, _, rfl, r.2.2, rv⟩
    | false =>
      rw [q] at e
      exact repT_at t t' h e
theorem repT_keys : ∀ {xs : List XT} {kvs : List (D × D)}, RepT C F xs kvs → ∀ x ∈ xs, ∃ k, keyT k = true ∧ nk k = x.1 ∧ Rep C F (.ref x.2.1) k
  | _, _, .cons g rk rv t, x, m => by
    rcases List.mem_cons.mp m with e | m
    · subst e; exact ⟨_, g, rfl, rk⟩
    · exact repT_keys t x m
end
section
variable {X : Cx} {cl : Nat → Addr} {pins : List (Addr × Obj)} {σ : St} {F H : Hp} {s : Shared}
theorem relT_fst : ∀ {xs : List XT} {ys : List YT}, RelT xs ys → ys.map (·.1) = xs.map (·.1)
  | _, _, .nil => rfl
  | _, _, .cons r t => by rw [List.map_cons, List.map_cons, relT_fst t, r.1]
theorem relT_mem : ∀ {xs : List XT} {ys : List YT}, RelT xs ys → ∀ {y : YT}, y ∈ ys → ∃ x ∈ xs, x.1 = y.1 ∧ x.2.1 = y.2.1
  | _, _, .nil, _, m => nomatch m
  | _, _, .cons r t, y, m => by
    rcases List.mem_cons.mp m with e | m
    · subst e; exact ⟨_, List.mem_cons_self, r.1, r.2.1⟩
    · obtain ⟨x, m', q⟩ := relT_mem t m
      exact ⟨x, List.mem_cons_of_mem _ m', q⟩
theorem dk_at (I : Inv X pins σ H s) {a : Addr} {xs : List XT} {kvs : List (D × D)} (e : H a = some (dkT (cs cl X) a xs)) (r : RepT (cs cl X) F xs kvs) (sub : Sub F H) :
    ∃ ys : List YT, RelT xs ys ∧ s.heap.DictOfH (nestedKind X.prog X.w) a ys ∧ xs.length ≤ sizeLine ∧ (a == sysModules) = false ∧ (xs.map (·.1)).Nodup := by
  obtain ⟨⟨ys, rel, o, es, ep, h1, h2, h3, h4, h5, h6, h7⟩, _⟩ := I.hok a _ e
  have ek := relT_fst rel
  refine ⟨ys, rel, ⟨o, es, ep, h1, h2, h3, h4, fun y m => ?_, by rw [ek]; exact h7⟩, h5, h6, h7⟩
  obtain ⟨x, m', q⟩ := relT_mem rel m
  obtain ⟨k, g, ek, rk⟩ := repT_keys r x m'
  rw [← q.1, ← q.2, ← ek]
  exact key_is I (rk.mono sub) g
end
end WF

set_option Elab.async false
set_option linter.all false
set_option maxRecDepth 100000
set_option maxHeartbeats 4000000
/-! WFG: in, tests, displays, subscripts, slices. -/
namespace WF
open PySem PySem.Spec PyProof.Rows L2

/-! ### dicts by the layer's and the library's rules -/
section
variable {cl : Nat → Addr} {X : Cx} {C : Cs} {σ : St} {F H : Hp} {ρ : Env} {A A0 : List Addr}
theorem repS_has {F : Hp} : ∀ {xs : List (Key × V)} {kvs : List (D × D)}, RepS C F xs kvs → ∀ t : Txt, (valV xs (Sum.inr (mkS t))).isSome = (lookD kvs (.str t)).isSome ∧ ∀ d, lookD kvs (.str t) = some d → ∃ v, valV xs (Sum.inr (mkS t)) = some v ∧ Rep C F v d
  | _, _, .nil, t => ⟨rfl, fun d h => by cases h⟩
  | _, _, .cons (s := s) o r z, t => by
    obtain ⟨h1, h2⟩ := repS_has z t
    unfold lookD at h1 h2 ⊢
    rw [List.find?_cons]
    have e : D.eqv (.str s) (.str t) = (s == t) := by simp [D.eqv]
    rw [show D.eqv ((D.str s, _) : D × D).1 (.str t) = (s == t) from e]
    by_cases q : s = t
    · subst q
      rw [valV_pos rfl, beq_self_eq_true]
      exact ⟨rfl, fun d h => by cases h; exact ⟨_, rfl, r⟩⟩
    · have q' : ¬ (Sum.inr (mkS s) : Key) = Sum.inr (mkS t) := fun z => q (mkS_inj (Sum.inr.inj z))
      rw [valV_neg q', beq_false_of_ne q]
      exact ⟨h1, h2⟩
theorem repS_map {F : Hp} {t : Txt} {v : V} {d : D} (rv : Rep C F v d) : ∀ {xs : List (Key × V)} {kvs : List (D × D)}, RepS C F xs kvs →
    RepS C F (xs.map fun kv => if kv.1 = Sum.inr (mkS t) then (kv.1, v) else kv) (kvs.map fun p => if D.eqv p.1 (.str t) then (p.1, d) else p)
  | _, _, .nil => .nil
  | _, _, .cons (s := s) o r z => by
    rw [List.map_cons, List.map_cons]
    have e : D.eqv (.str s) (.str t) = (s == t) := by simp [D.eqv]
    by_cases q : s = t
    · subst q
      rw [if_pos rfl, if_pos (by rw [e, beq_self_eq_true])]
      exact .cons o rv (repS_map rv z)
    · rw [if_neg (fun z => q (mkS_inj (Sum.inr.inj z))), if_neg (by rw [e, beq_false_of_ne q]; exact Bool.false_ne_true)]
      exact .cons o r (repS_map rv z)
theorem repS_app {F : Hp} {xs' : List (Key × V)} {kvs' : List (D × D)} (r' : RepS C F xs' kvs') : ∀ {xs : List (Key × V)} {kvs : List (D × D)}, RepS C F xs kvs → RepS C F (xs ++ xs') (kvs ++ kvs')
  | _, _, .nil => r'
  | _, _, .cons o r z => .cons o r (repS_app r' z)
theorem repS_put {F : Hp} {t : Txt} {v : V} {d : D} {xs : List (Key × V)} {kvs : List (D × D)} (r : RepS C F xs kvs) (o : okT t) (rv : Rep C F v d) : RepS C F (putK xs (Sum.inr (mkS t)) v) (putD kvs (.str t) d) := by
  unfold putK putD
  rw [valV_any, (repS_has r t).1]
  by_cases h : (lookD kvs (.str t)).isSome = true
  · rw [if_pos h, if_pos h]; exact repS_map rv r
  · rw [if_neg h, if_neg h]; exact repS_app (.cons o rv .nil) r
theorem RepS.length {F : Hp} : ∀ {xs : List (Key × V)} {kvs : List (D × D)}, RepS C F xs kvs → xs.length = kvs.length
  | _, _, .nil => rfl
  | _, _, .cons _ _ z => by simp [RepS.length z]
theorem RepT.length {F : Hp} : ∀ {xs : List XT} {kvs : List (D × D)}, RepT C F xs kvs → xs.length = kvs.length
  | _, _, .nil => rfl
  | _, _, .cons _ _ _ z => by simp [RepT.length z]

/-- a dict looked at: it stands in H, its parts in F -/
theorem Vw.dicS {v : V} {kvs : List (D × D)} (h : Vw C F H v (.dic false kvs)) (s : Sub F H) : ∃ a xs, v = .ref a ∧ H a = some (.dK xs) ∧ RepS C F xs kvs := by
  cases h with
  | sc r => cases r with | dicS h r => exact ⟨_, _, rfl, s _ _ h, r⟩
  | ob r e =>
    cases r with
    | lst h r => cases e
    | dicS h r => cases e; exact ⟨_, _, rfl, h, r⟩
    | dicT h r => cases e
    | ins h r => cases e
theorem Vw.dicT {v : V} {kvs : List (D × D)} (h : Vw C F H v (.dic true kvs)) (s : Sub F H) : ∃ a xs, v = .ref a ∧ H a = some (dkT C a xs) ∧ RepT C F xs kvs := by
  cases h with
  | sc r => cases r with | dicT h r => exact ⟨_, _, rfl, s _ _ h, r⟩
  | ob r e =>
    cases r with
    | lst h r => cases e
    | dicS h r => cases e
    | dicT h r => cases e; exact ⟨_, _, rfl, h, r⟩
    | ins h r => cases e
theorem keyT_ref {v : V} {k : D} (h : keyT k = true) (r : Rep C F v k) : ∃ a, v = .ref a := by
  obtain ⟨_, _, xs, rfl⟩ := keyT_key h
  cases r; exact ⟨_, rfl⟩
theorem keyS_str {k : D} (h : keyS k = true) : ∃ t, k = .str t := by
  cases k with
  | str t => exact ⟨t, rfl⟩
  | _ => exact absurd (show false = true from h) Bool.false_ne_true
variable {pins : List (Addr × Obj)} {s : Shared} {E : Value → Shared → Prop}
theorem hu1 (hu : Hu X) : X.A.units + 1 < cLine := by have : X.A.units + 65 < cLine := hu; omega
theorem hu8 (hu : Hu X) : (nestedKind X.prog X.w).room X.A.in1 := by
  have : X.A.units + 65 < cLine := hu
  show X.A.units + 1 + 8 < cLine
  omega
/-- k in d, whatever the keys are -/
theorem dic_in (hu : Hu X) (I : Inv X pins σ H s) (S : Sub F H) {t : Bool} {x y : V} {u w : Value} {k : D} {kvs : List (D × D)} {Q : Value → Shared → Prop} (rx : RelV x u) (ry : RelV y w) (vx : Vw (cs cl X) F H x k) (vy : Vw (cs cl X) F H y (.dic t kvs)) (hk : keyOf t k = true)
    (h : ∀ s', Inv X pins σ H s' → Q (.bool (lookD kvs k).isSome) s') : wpAny (model X.prog X.w) X.A (compareOp .In u w) Q E s := by
  cases t with
  | false =>
    obtain ⟨a, xs, rfl, e, r⟩ := vy.dicS S
    cases ry
    obtain ⟨t, rfl⟩ := keyS_str hk
    obtain ⟨rfl, o⟩ := vx.str
    refine d_in (hu1 hu) I (.inl ⟨_, Sum.inr (mkS t), .inl e, rfl, rfl⟩) rx fun s' I' => ?_
    rw [(repS_has r t).1]; exact h s' I'
  | true =>
    obtain ⟨a, xs, rfl, e, r⟩ := vy.dicT S
    cases ry
    have rk := vx.rep S
    obtain ⟨b, rfl⟩ := keyT_ref hk rk
    cases rx
    obtain ⟨ys, rel, dd, _, hd, _⟩ := dk_at I e r S
    refine wpAny_in_heap (hu8 hu) (key_is I rk hk) hd dd ?_
    rw [relT_has rel, repT_has r k hk]
    exact h _ (I.tok _)
theorem dic_notIn (hu : Hu X) (I : Inv X pins σ H s) (S : Sub F H) {t : Bool} {x y : V} {u w : Value} {k : D} {kvs : List (D × D)} {Q : Value → Shared → Prop} (rx : RelV x u) (ry : RelV y w) (vx : Vw (cs cl X) F H x k) (vy : Vw (cs cl X) F H y (.dic t kvs)) (hk : keyOf t k = true)
    (h : ∀ s', Inv X pins σ H s' → Q (.bool (!(lookD kvs k).isSome)) s') : wpAny (model X.prog X.w) X.A (compareOp .NotIn u w) Q E s := by
  cases t with
  | false =>
    obtain ⟨a, xs, rfl, e, r⟩ := vy.dicS S
    cases ry
    obtain ⟨t, rfl⟩ := keyS_str hk
    obtain ⟨rfl, o⟩ := vx.str
    refine d_notIn (hu1 hu) I (.inl ⟨_, Sum.inr (mkS t), .inl e, rfl, rfl⟩) rx fun s' I' => ?_
    rw [(repS_has r t).1]; exact h s' I'
  | true =>
    obtain ⟨a, xs, rfl, e, r⟩ := vy.dicT S
    cases ry
    have rk := vx.rep S
    obtain ⟨b, rfl⟩ := keyT_ref hk rk
    cases rx
    obtain ⟨ys, rel, dd, _, hd, _⟩ := dk_at I e r S
    show wpAny _ _ (do return .bool (!(← contains (.ref a) (.ref b)))) Q E s
    refine wpAny_bind (wpAny_contains_heap (hu8 hu) (key_is I rk hk) hd dd (wpAny_pure ?_))
    rw [relT_has rel, repT_has r k hk]
    exact h _ (I.tok _)
/-- d[k], there -/
theorem dic_get (hu : Hu X) (I : Inv X pins σ H s) (S : Sub F H) {t : Bool} {x y : V} {u w : Value} {k d : D} {kvs : List (D × D)} {Q : Value → Shared → Prop} (rx : RelV x u) (ry : RelV y w) (vx : Vw (cs cl X) F H x (.dic t kvs)) (vy : Vw (cs cl X) F H y k) (hk : keyOf t k = true) (hl : lookD kvs k = some d)
    (h : ∀ v z s', Inv X pins σ H s' → RelV v z → Rep (cs cl X) F v d → Q z s') : s.TypeIs u "dict" ∧ wpAny (model X.prog X.w) X.A (getItem u w) Q E s := by
  cases t with
  | false =>
    obtain ⟨a, xs, rfl, e, r⟩ := vx.dicS S
    cases rx
    obtain ⟨t, rfl⟩ := keyS_str hk
    obtain ⟨rfl, o⟩ := vy.str
    obtain ⟨v, ev, rv⟩ := (repS_has r t).2 d hl
    have g : DGet H a (.str (mkS t)) (some v) := .inl ⟨_, Sum.inr (mkS t), .inl e, rfl, ev.symm⟩
    exact ⟨dict_typeIs I g, d_getItem (hu1 hu) I g ry fun w' s' I' rw' => h v w' s' I' rw' rv⟩
  | true =>
    obtain ⟨a, xs, rfl, e, r⟩ := vx.dicT S
    cases rx
    have rk := vy.rep S
    obtain ⟨b, rfl⟩ := keyT_ref hk rk
    cases ry
    obtain ⟨ys, rel, dd, _, hd, _⟩ := dk_at I e r S
    obtain ⟨p, v, ep, rv, rp⟩ := repT_at r rel hk hl
    exact ⟨dd.typeIs, wpAny_getItem_heap (hu8 hu) (key_is I rk hk) dd ep (h v _ _ (I.tok _) rv rp)⟩

/-! ### in -/
theorem only_in {neg : Bool} {d e : D} {b : B} (h : (if neg then iNin else iIn) d e = some b) : ∃ c, b = boo c := by
  cases neg with
  | false =>
    have h : (isIn d e).map (fun b => boo b) = some b := h
    obtain ⟨r, e1, e2⟩ := Option.map_eq_some_iff.mp h
    exact ⟨_, e2.symm⟩
  | true =>
    have h : (isIn d e).map (fun b => boo (!b)) = some b := h
    obtain ⟨r, e1, e2⟩ := Option.map_eq_some_iff.mp h
    exact ⟨_, e2.symm⟩
theorem sim_in2 {neg : Bool} {op : CmpOp} {a b : Expr} {ma mb : M B} (hu : Hu X) (hop : op = if neg then .NotIn else .In) (hm : behindInMarks op b = false) (ha : SimE cl X a ma) (hb : SimE cl X b mb) :
    SimC cl X op a b (mOp (if neg then iNin else iIn) ma mb) := ⟨fun W tk => ⟨fun pins s σ H Q I ⟨F, ρ, S, h⟩ => by
  refine (binT (R := fun x y H2 => ∃ (F2 : Hp) (ρ2 : Env) (A2 : List Addr) (d e : D) (c : B), Stt (cs cl X) F2 H2 σ ρ2 ∧ Vw (cs cl X) F2 H2 x d ∧ Vw (cs cl X) F2 H2 y e ∧ (if neg then iNin else iIn) d e = some c ∧ Fin (cs cl X) RlB A2 F2 ρ2 σ H2 Q c)
    (ha W tk) (hb W tk) I (two_bind S h fun x y d e F2 H2 ρ2 S2 v w q => let ⟨b, eb, q⟩ := tR_end q; ⟨F2, ρ2, _, d, e, b, S2, v, w, eb, q⟩) fun u w s2 x y H2 I2 rx ry ⟨F2, ρ2, A2, d, e, c, S2, v, v', ec, q⟩ => ?_)
  have key : ∃ r, isIn d e = some r ∧ c = boo (if neg then !r else r) := by
    cases neg with
    | false =>
      have ec : (isIn d e).map (fun b => boo b) = some c := ec
      obtain ⟨r, e1, e2⟩ := Option.map_eq_some_iff.mp ec
      exact ⟨r, e1, e2.symm⟩
    | true =>
      have ec : (isIn d e).map (fun b => boo (!b)) = some c := ec
      obtain ⟨r, e1, e2⟩ := Option.map_eq_some_iff.mp ec
      exact ⟨r, e1, e2.symm⟩
  obtain ⟨r, er, rfl⟩ := key
  have fin : ∀ s', Inv X pins σ H2 s' → EP X pins σ Q (.bool (if neg then !r else r)) s' := fun s' I' => ⟨.bl _, H2, I', rfl, q.data S2 (.bl _)⟩
  unfold isIn at er
  split at er
  · rename_i ys
    split at er
    · rename_i hh
      cases er
      rw [Bool.and_eq_true] at hh
      have h1 := of_decide_eq_true hh.1
      have h2 := of_decide_eq_true hh.2
      have ry := v'.rep S2.sub
      have dy : D.dep (.tup ys) ≤ 61 := by simp only [D.dep]; omega
      have sy : SeqAt.shaped (toPy (.tup ys)) = true := by
        unfold SeqAt.shaped
        rw [lay_py ry (by omega), dep_py _ (by omega)]
        exact decide_eq_true (by omega)
      have dpy := dp_py ry (by omega)
      have dpx := dp_py (v.rep S2.sub) (by omega)
      have sx := shaped_py (v.rep S2.sub) h1
      simp only [toPy] at sy dpy
      cases neg with
      | false =>
        subst hop
        refine op_inT hu pins s2 σ H2 x y u w Q I2 rx (by assumption) ⟨_, _, dpx, dpy, sx, sy, ?_⟩
        rw [any_py]
        exact q.data S2 (.bl _)
      | true =>
        subst hop
        refine op_notInT hu pins s2 σ H2 x y u w Q I2 rx (by assumption) ⟨_, _, dpx, dpy, sx, sy, ?_⟩
        rw [any_py]
        exact q.data S2 (.bl _)
    · cases er
  · rename_i ys
    split at er
    · rename_i hh
      cases er
      rw [Bool.and_eq_true] at hh
      have h1 := of_decide_eq_true hh.1
      have h2 := of_decide_eq_true hh.2
      have ry := v'.rep S2.sub
      have dy : D.dep (.lst ys) ≤ 61 := by simp only [D.dep]; omega
      have sy : SeqAt.shaped (toPy (.lst ys)) = true := by
        unfold SeqAt.shaped
        rw [lay_py ry (by omega), dep_py _ (by omega)]
        exact decide_eq_true (by omega)
      have dpy := dp_py ry (by omega)
      have dpx := dp_py (v.rep S2.sub) (by omega)
      have sx := shaped_py (v.rep S2.sub) h1
      simp only [toPy] at sy dpy
      cases neg with
      | false =>
        subst hop
        refine op_inD hu pins s2 σ H2 x y u w Q I2 rx (by assumption) ⟨_, _, dpx, dpy, sx, sy, ?_⟩
        rw [any_py]
        exact q.data S2 (.bl _)
      | true =>
        subst hop
        refine op_notInD hu pins s2 σ H2 x y u w Q I2 rx (by assumption) ⟨_, _, dpx, dpy, sx, sy, ?_⟩
        rw [any_py]
        exact q.data S2 (.bl _)
    · cases er
  · rename_i t kvs
    split at er
    · rename_i hk
      cases er
      cases neg with
      | false => subst hop; exact dic_in hu I2 S2.sub rx (by assumption) v v' hk fin
      | true => subst hop; exact dic_notIn hu I2 S2.sub rx (by assumption) v v' hk fin
    · cases er
  · cases er⟩, hm, onlyB_op fun _ _ _ => only_in⟩
theorem sim_in {a b : Expr} {ma mb : M B} (hu : Hu X) (hm : behindInMarks .In b = false) (ha : SimE cl X a ma) (hb : SimE cl X b mb) : SimC cl X .In a b (mIn ma mb) := sim_in2 (neg := false) hu rfl hm ha hb
theorem sim_nin {a b : Expr} {ma mb : M B} (hu : Hu X) (hm : behindInMarks .NotIn b = false) (ha : SimE cl X a ma) (hb : SimE cl X b mb) : SimC cl X .NotIn a b (mNin ma mb) := sim_in2 (neg := true) hu rfl hm ha hb
end
end WF

set_option Elab.async false
set_option linter.all false
set_option maxRecDepth 100000
set_option maxHeartbeats 4000000
/-! WFH: tests, displays, subscripts, slices, built-ins by values. -/
namespace WF
open PySem PySem.Spec PyProof.Rows L2

section
variable {cl : Nat → Addr} {X : Cx} {C : Cs} {σ : St} {F H : Hp} {ρ : Env} {A A0 : List Addr}
/-! ### tests -/
theorem isEmpty_reps {F : Hp} {xs : List V} {ds : List D} (r : Reps C F xs ds) : (!xs.isEmpty) = !ds.isEmpty := by cases r <;> rfl
theorem tru_of {v : V} {d : D} {k : Bool} (S : Sub F H) (h : Vw C F H v d) (e : d.tru = some k) : TruV C.K v H k := by
  cases d with
  | non => cases e; rw [h.non]; rfl
  | bl b => cases e; rw [h.bl]; rfl
  | int i => cases e; rw [h.int]; rfl
  | str s =>
    cases e
    obtain ⟨rfl, o⟩ := h.str
    refine ⟨by rw [mkS_len, ← lim_eq]; exact o.2, ?_⟩
    rw [mkS_len]
    cases s <;> rfl
  | tup xs =>
    cases e
    obtain ⟨a, vs, rfl, q, r⟩ := h.tup
    exact .inr (.inl ⟨vs, S.sqT q, (isEmpty_reps r).symm⟩)
  | lst xs =>
    cases e
    obtain ⟨a, vs, rfl, q, r⟩ := h.lst S
    exact .inl ⟨vs, q, (isEmpty_reps r).symm⟩
  | dic t kvs => cases e
theorem sim_tV {e : Expr} {m : M B} (ha : SimE cl X e m) (he : ∀ whole, isTrue e X.env whole = (do let v ← whole; standAt e.pos; holding [v] (truthy v))) : SimT cl X e (tV m) := fun W tk => ⟨fun pins s σ H Q I ⟨F, ρ, S, h⟩ => by
  refine isTrue_plain (thn ((ha W tk).run pins s σ H _ I (one_bind (P := fun x H2 => ∃ k, TruV X.K x H2 k ∧ Q k H2) S h fun x d F2 H2 ρ2 S2 v q => ?_)) fun v s1 ⟨x, H1, I1, r1, k, tk, q1⟩ => ?_) (he _)
  · obtain ⟨k, ek, q⟩ := tR_end q
    exact ⟨k, tru_of S2.sub v ek, q.bool S2⟩
  · exact tru_ok pins s1 σ H1 x v Q I1 r1 ⟨k, tk, q1⟩⟩
/-- a comparison as a test -/
theorem SimC.t {a b : Expr} {op : CmpOp} {pos : Pos} {m : M B} (h : SimC cl X op a b m) : SimT cl X (.Compare a [op] [b] pos) (tV m) := fun W tk => PT.imp (pt_cmp (h.pc W tk) h.hm) fun σ H Q ⟨F, ρ, S, q⟩ => by
  obtain ⟨r, ρ', e, q⟩ := q
  unfold tV bind at e
  split at e
  · cases e
  · rename_i c p ρ1 em
    cases e
    exact ⟨F, ρ, S, _, _, em, q⟩
  · rename_i b ρ1 em
    obtain ⟨c, rfl⟩ := h.ob _ _ _ em
    cases e
    refine ⟨F, ρ, S, _, _, em, fun v A F' H' T' S' rl fp nw => ?_⟩
    cases rl with
    | sh rl => cases rl; exact ⟨c, rfl, q c [] F' H' T' S' ⟨rfl, rfl⟩ Fp.nil New.nil⟩
theorem tM_tif {α β : Type} {R : Rl β α} {W : WX} {Q : β → Hp → Prop} {t : M Bool} {k : Bool → M α} {P : Bool → Hp → Prop} (S : Stt C F H σ ρ) (h : tR C R W A0 F ρ (bind t k) σ H Q)
    (i : ∀ c F1 H1 ρ1, Stt C F1 H1 σ ρ1 → tR C R W A0 F1 ρ1 (k c) σ H1 Q → P c H1) : tM C RlT W t σ H P :=
  tM_bind (R1 := RlT) S h fun v a A F1 H1 ρ1 T S1 rl fp nw q => by
    obtain ⟨rfl, rfl⟩ := rl
    rw [List.append_nil] at q
    exact i v F1 H1 ρ1 S1 q
theorem tR_up {α β : Type} {R : Rl β α} {W : WX} {Q : β → Hp → Prop} {m : M α} (h : tR C R W A0 F ρ m σ H Q) : tR C R W [] F ρ m σ H Q := tR_from Tr.refl (fun _ z => nomatch z) h
theorem sim_tAnd1 {a : Expr} {pos : Pos} {t : M Bool} (ha : SimT cl X a t) : ∀ W, Takes X W → PW X (.BoolOp .And [a] pos) (tM (cs cl X) RlT W t) := fun W tk => pw_and1 (ha W tk)
theorem sim_tOr1 {a : Expr} {pos : Pos} {t : M Bool} (ha : SimT cl X a t) : ∀ W, Takes X W → PW X (.BoolOp .Or [a] pos) (tM (cs cl X) RlT W t) := fun W tk => pw_or1 (ha W tk)
theorem PW.imp {X : Cx} {e : Expr} {t t' : TT} (h : PW X e t) (i : ∀ σ H Q, t' σ H Q → t σ H Q) : PW X e t' := ⟨fun wh pins s σ H Q I q => h.run wh pins s σ H Q I (i σ H Q q)⟩
theorem sim_tAndC {a b : Expr} {r : List Expr} {pos : Pos} {t u : M Bool} (ha : SimT cl X a t) (hb : ∀ W, Takes X W → PW X (.BoolOp .And (b :: r) pos) (tM (cs cl X) RlT W u)) :
    ∀ W, Takes X W → PW X (.BoolOp .And (a :: b :: r) pos) (tM (cs cl X) RlT W (tAnd t u)) := fun W tk => PW.imp (pw_and (ha W tk) (hb W tk)) fun σ H Q ⟨F, ρ, S, h⟩ => tM_tif S h fun c F1 H1 ρ1 S1 q => by
  cases c with
  | true => exact iteT ⟨F1, ρ1, S1, q⟩
  | false => exact iteF ((tR_ret q).bool S1)
theorem sim_tOrC {a b : Expr} {r : List Expr} {pos : Pos} {t u : M Bool} (ha : SimT cl X a t) (hb : ∀ W, Takes X W → PW X (.BoolOp .Or (b :: r) pos) (tM (cs cl X) RlT W u)) :
    ∀ W, Takes X W → PW X (.BoolOp .Or (a :: b :: r) pos) (tM (cs cl X) RlT W (tOr t u)) := fun W tk => PW.imp (pw_or (ha W tk) (hb W tk)) fun σ H Q ⟨F, ρ, S, h⟩ => tM_tif S h fun c F1 H1 ρ1 S1 q => by
  cases c with
  | false => exact iteF ⟨F1, ρ1, S1, q⟩
  | true => exact iteT ((tR_ret q).bool S1)
theorem sim_tW {e : Expr} {t : M Bool} (h : ∀ W, Takes X W → PW X e (tM (cs cl X) RlT W t)) : SimT cl X e t := fun W tk => (h W tk).pt
theorem sim_tNot {a : Expr} {pos : Pos} {t : M Bool} (ha : SimT cl X a t) : SimT cl X (.UnaryOp .Not a pos) (tNot t) := fun W tk => PT.imp (pt_not (ha W tk)) fun σ H Q ⟨F, ρ, S, h⟩ => tM_tif S h fun c F1 H1 ρ1 S1 q => (tR_ret q).bool S1
/-! ### and, or, not, if as values -/
theorem sim_and1 {op : BoolOp} {a : Expr} {pos : Pos} {m : M B} (ha : SimE cl X a m) : SimE cl X (.BoolOp op [a] pos) m := fun W tk => pe_one (ha W tk)
theorem boolV_of {v : V} {d : D} {c : Bool} (h : Vw C F H v d) (e : d.boolV = some c) : v = .bl c := by
  cases d with
  | bl b => cases e; exact h.bl
  | _ => cases e
theorem sim_and {a b : Expr} {r : List Expr} {pos : Pos} {ma mb : M B} (ha : SimE cl X a ma) (hb : SimE cl X (.BoolOp .And (b :: r) pos) mb) : SimE cl X (.BoolOp .And (a :: b :: r) pos) (mAnd ma mb) := fun W tk => PE.imp (pe_and (ha W tk) (hb W tk)) fun σ H Q ⟨F, ρ, S, h⟩ =>
  one_bind S h fun x d F2 H2 ρ2 S2 v q => by
    obtain ⟨c, ec, q⟩ := tR_lift q
    refine ⟨c, boolV_of v ec, ?_⟩
    cases c with
    | true => exact iteT ⟨F2, ρ2, S2, tR_up q⟩
    | false => exact iteF ((tR_ret q).data S2 (.bl _))
theorem sim_or {a b : Expr} {r : List Expr} {pos : Pos} {ma mb : M B} (ha : SimE cl X a ma) (hb : SimE cl X (.BoolOp .Or (b :: r) pos) mb) : SimE cl X (.BoolOp .Or (a :: b :: r) pos) (mOr ma mb) := fun W tk => PE.imp (pe_or (ha W tk) (hb W tk)) fun σ H Q ⟨F, ρ, S, h⟩ =>
  one_bind S h fun x d F2 H2 ρ2 S2 v q => by
    obtain ⟨c, ec, q⟩ := tR_lift q
    refine ⟨c, boolV_of v ec, ?_⟩
    cases c with
    | false => exact iteF ⟨F2, ρ2, S2, tR_up q⟩
    | true => exact iteT ((tR_ret q).data S2 (.bl _))
theorem sim_not {a : Expr} {pos : Pos} {ma : M B} (ha : SimE cl X a ma) : SimE cl X (.UnaryOp .Not a pos) (mNot ma) := fun W tk => PE.imp (pe_not (ha W tk)) fun σ H Q ⟨F, ρ, S, h⟩ =>
  one_bind S h fun x d F2 H2 ρ2 S2 v q => by
    obtain ⟨c, ec, q⟩ := tR_lift q
    exact ⟨c, boolV_of v ec, (tR_ret q).data S2 (.bl _)⟩
theorem sim_if {c a b : Expr} {pos : Pos} {t : M Bool} {ma mb : M B} (hc : SimT cl X c t) (ha : SimE cl X a ma) (hb : SimE cl X b mb) : SimE cl X (.IfExp c a b pos) (mIf t ma mb) := fun W tk => PE.imp (pe_ifExp (hc W tk) (ha W tk) (hb W tk)) fun σ H Q ⟨F, ρ, S, h⟩ =>
  tM_tif S h fun c F1 H1 ρ1 S1 q => by
    cases c with
    | true => exact iteT ⟨F1, ρ1, S1, q⟩
    | false => exact iteF ⟨F1, ρ1, S1, q⟩
/-! ### displays -/
theorem sim_nil : SimA cl X [] mNil := fun W _ => PA.imp pa_nil fun σ H Q ⟨F, ρ, S, h⟩ => tR_ret h [] [] F H Tr.refl S .nil Fp.nil New.nil
theorem sim_cons {e : Expr} {es : List Expr} {m : M B} {ms : M (List B)} (ha : SimE cl X e m) (hr : SimA cl X es ms) (hs : starEach (e :: es) X.env = (false, eval e X.env) :: starEach es X.env) : SimA cl X (e :: es) (mCons m ms) := fun W tk =>
  PA.imp (pa_cons (ha W tk) (hr W tk) hs) fun σ H Q ⟨F, ρ, S, h⟩ => by
    refine tM_bind (R1 := RlB) S h fun x a A F1 H1 ρ1 T1 S1 r1 f1 n1 h1 => ?_
    refine tM_bind (R1 := RlL) S1 h1 fun y b A' F2 H2 ρ2 T2 S2 r2 f2 n2 h2 => ?_
    exact tR_ret h2 _ (A ++ A') F2 H2 Tr.refl S2 (.cons (r1.mono T2.sub fun z m => f1.keep T2 m) r2) (f1.append T2 f2 n2) fun z m => .inr (.inl (by rw [List.nil_append]; exact m))
theorem tR_if {α β : Type} {R : Rl β α} {W : WX} {Q : β → Hp → Prop} {c : Bool} {m : M α} (h : tR C R W A0 F ρ (if c then m else stuck) σ H Q) : c = true ∧ tR C R W A0 F ρ m σ H Q := by
  cases c with
  | true => exact ⟨rfl, h⟩
  | false => exact (tR_stuck (α := α) h)
theorem few_le {bs : List B} (h : few bs = true) : bs.length ≤ sizeLine := by
  have := of_decide_eq_true h
  rw [sizeLine_eq]; omega
theorem sim_tup {es : List Expr} {ms : M (List B)} {x1} {pos : Pos} (h : SimA cl X es ms) : SimE cl X (.Tuple es x1 pos) (mTup ms) := fun W tk => PE.imp (pe_tup (h W tk)) fun σ H Q ⟨F, ρ, S, q⟩ => by
  refine tM_bind (R1 := RlL) S q fun vs bs A F1 H1 ρ1 T1 S1 r1 f1 n1 h1 => ?_
  obtain ⟨hf, h1⟩ := tR_if h1
  refine ⟨by rw [r1.length]; exact few_le hf, fun p hp => ?_⟩
  obtain ⟨ds, F2, ed, nd, S2, rd, sb, h2⟩ := tR_kept S1 r1 f1 h1
  exact (tR_ret h2).tup S2 rd hp
theorem sim_lst {es : List Expr} {ms : M (List B)} {pos : Pos} (h : SimA cl X es ms) : SimE cl X (.List es pos) (mLst ms) := fun W tk => PE.imp (pe_lst (h W tk)) fun σ H Q ⟨F, ρ, S, q⟩ => by
  refine tM_bind (R1 := RlL) S q fun vs bs A F1 H1 ρ1 T1 S1 r1 f1 n1 h1 => ?_
  obtain ⟨hf, h1⟩ := tR_if h1
  refine ⟨by rw [r1.length]; exact few_le hf, fun p hp => ?_⟩
  obtain ⟨ds, F2, ed, nd, S2, rd, sb, h2⟩ := tR_kept S1 r1 f1 h1
  exact (tR_ret h2).lst S2 rd hp
theorem sbBs_rel {vs : List V} {bs : List B} {A : List Addr} {sbs : List SB} (r : RBs C σ F H vs bs A) (e : sbBs bs = some sbs) : RTp C F H vs sbs A := by
  induction r generalizing sbs with
  | nil => cases e; exact .nil
  | cons r t ih =>
    unfold sbBs at e
    split at e
    · rename_i e1 e2
      cases e
      cases r with
      | sh r => cases e1; exact .sh r (ih e2)
      | ow r => cases e1; exact .ow r (ih e2)
      | pl q => cases e1
      | tp q r => cases e1
    · cases e
theorem sim_tp {es : List Expr} {ms : M (List B)} {x1} {pos : Pos} (h : SimA cl X es ms) : SimE cl X (.Tuple es x1 pos) (mTp ms) := fun W tk => PE.imp (pe_tup (h W tk)) fun σ H Q ⟨F, ρ, S, q⟩ => by
  refine tM_bind (R1 := RlL) S q fun vs bs A F1 H1 ρ1 T1 S1 r1 f1 n1 h1 => ?_
  obtain ⟨hf, h1⟩ := tR_if h1
  refine ⟨by rw [r1.length]; exact few_le hf, fun p hp => ?_⟩
  obtain ⟨sbs, es, h2⟩ := tR_lift h1
  have rt := sbBs_rel r1 es
  obtain ⟨S2, T2⟩ := new_sh (o := .tup vs) S1 hp
  exact tR_ret h2 _ A _ _ (T2.hand fun _ z => nomatch z) S2 (.tp (.inl (.inl upd_same)) (rt.mono T2.sub fun a m => f1.keep T2 m)) (f1.tr T2) fun a m => .inr (.inl (by rw [List.nil_append]; exact m))
theorem sim_dic0 {pos : Pos} : SimE cl X (.Dict [] [] pos) mDic0 := fun W _ => PE.imp pe_dnewK fun σ H Q ⟨F, ρ, S, h⟩ p hp => by
  obtain ⟨S1, T1, f, n⟩ := new_own (o := .dK []) S hp
  exact tR_ret h _ [p] _ _ (T1.hand fun _ z => nomatch z) S1 (.ow (.dicS upd_same .nil)) f n
/-! ### subscripts -/
theorem atI_eq {α : Type} (xs : List α) (i : Int) : L2.atI xs i = WF.atI xs i := by
  unfold L2.atI WF.atI ixN
  by_cases h0 : 0 ≤ i
  · rw [if_pos h0, if_pos h0]
    by_cases h1 : i < (xs.length : Int)
    · rw [if_pos h1]; rfl
    · rw [if_neg h1]
      exact (List.getElem?_eq_none (by omega)).symm
  · rw [if_neg h0, if_neg h0]
    by_cases h1 : -(xs.length : Int) ≤ i
    · rw [if_pos h1, if_pos (by omega), Int.add_comm]; rfl
    · rw [if_neg h1, if_neg (by omega)]; rfl
theorem reps_get {F : Hp} : ∀ {xs : List V} {ds : List D}, Reps C F xs ds → ∀ {j : Nat} {d : D}, ds[j]? = some d → ∃ v, xs[j]? = some v ∧ Rep C F v d
  | _, _, .nil, _, _, e => by simp at e
  | _, _, .cons r t, 0, _, e => by simp at e; subst e; exact ⟨_, rfl, r⟩
  | _, _, .cons r t, j + 1, _, e => by
    obtain ⟨v, h1, h2⟩ := reps_get t (j := j) (by simpa using e)
    exact ⟨v, by simpa using h1, h2⟩
theorem reps_at {F : Hp} {xs : List V} {ds : List D} (r : Reps C F xs ds) {i : Int} {d : D} (e : WF.atI ds i = some d) : ∃ v, L2.atI xs i = some v ∧ Rep C F v d := by
  rw [atI_eq]
  have hl := r.length
  unfold WF.atI at e ⊢
  rw [hl]
  split at e
  · rename_i h
    rw [if_pos h]; exact reps_get r e
  · rename_i h
    rw [if_neg h]
    split at e
    · rename_i h1
      rw [if_pos h1]; exact reps_get r e
    · cases e
theorem mkS_get (t : Txt) : (mkS t).cps.toList = t := by simp [mkS]
theorem mkS_one (c : Nat) : (⟨#[c]⟩ : Str) = mkS [c] := rfl
theorem rtp_at {xs : List V} {bs : List SB} {A : List Addr} (r : RTp C F H xs bs A) : ∀ {j : Nat} {b : SB}, bs[j]? = some b → ∃ v, xs[j]? = some v ∧ ((∃ d, b = .sh d ∧ Rep C F v d) ∨ ∃ a o, b = .ow o ∧ v = .ref a ∧ a ∈ A ∧ ROb C F H a o) := by
  induction r with
  | nil => intro j b e; simp at e
  | sh r t ih =>
    intro j b e
    cases j with
    | zero => simp at e; subst e; exact ⟨_, rfl, .inl ⟨_, rfl, r⟩⟩
    | succ j => obtain ⟨v, h1, h2⟩ := ih (j := j) (by simpa using e); exact ⟨v, by simpa using h1, h2⟩
  | ow r t ih =>
    intro j b e
    cases j with
    | zero => simp at e; subst e; exact ⟨_, rfl, .inr ⟨_, _, rfl, rfl, List.mem_cons_self, r⟩⟩
    | succ j =>
      obtain ⟨v, h1, h2⟩ := ih (j := j) (by simpa using e)
      refine ⟨v, by simpa using h1, h2.imp id fun ⟨a, o, e1, e2, m, q⟩ => ⟨a, o, e1, e2, List.mem_cons_of_mem _ m, q⟩⟩
theorem RTp.length {xs : List V} {bs : List SB} {A : List Addr} (r : RTp C F H xs bs A) : xs.length = bs.length := by
  induction r with
  | nil => rfl
  | sh r t ih => simp [ih]
  | ow r t ih => simp [ih]
theorem sim_ix {a b : Expr} {ma mb : M B} {pos : Pos} (hu : Hu X) (ha : SimE cl X a ma) (hb : SimE cl X b mb) (hs : PlainIx b) : SimE cl X (.Subscript a b pos) (mIx ma mb) := fun W tk => ⟨fun pins s σ H Q I ⟨F, ρ, S, h⟩ => by
  refine Subscript_ (thn ((ha W tk).run pins s σ H _ I ⟨F, ρ, S, tR_bind (R1 := RlB) h⟩) fun u s1 ⟨x, H1, I1, rx, ba, A, F1, ρ1, T1, S1, r1, f1, n1, h1⟩ => ?_)
  refine thn ((hb W tk).run pins s1 σ H1 _ I1 ⟨F1, ρ1, S1, tR_bind (R1 := RlB) h1⟩) fun w s2 ⟨y, H2, I2, ry, bb, A', F2, ρ2, T2, S2, r2, f2, n2, h2⟩ => ?_
  have r1' := r1.mono (F' := F2) (H' := H2) T2.sub fun z m => f1.keep T2 m
  have f := f1.append T2 f2 n2
  -- plain data
  have plain : ∀ d e, ba.dat ρ2 = some d → bb.dat ρ2 = some e → tR (cs cl X) RlB W ([] ++ A ++ A') F2 ρ2 (lift (iIx d e)) σ H2 Q → wpAny (model X.prog X.w) X.A (subscriptTail a b u w) (EP X pins σ Q) X.xe s2 := fun d e ed ee h4 => by
    obtain ⟨S3, T3⟩ := share S2 f
    have v := r1'.view S2 (sub_addF f) (fun z m o q => by rw [addF_in (List.mem_append_left _ m)]; exact q) ed
    have v' := r2.view S2 (sub_addF f) (fun z m o q => by rw [addF_in (List.mem_append_right _ m)]; exact q) ee
    obtain ⟨c, ec, q⟩ := tR_end h4
    have q := q.from_ (T3.hand fun a m => by rw [List.nil_append]; exact m) (A1 := []) (fun _ z => nomatch z)
    unfold iIx at ec
    split at ec
    · rename_i xs i
      obtain ⟨d', e1, rfl⟩ := Option.map_eq_some_iff.mp ec
      obtain ⟨p, vs, rfl, g, r⟩ := v.tup
      obtain rfl := v'.int
      obtain ⟨z, e2, rz⟩ := reps_at r e1
      exact ix_seq a b pins s2 σ H2 _ _ u w Q I2 rx ry (.inr (.inl ⟨p, vs, i, z, rfl, rfl, S3.sub.sqT g, e2, q.data S3 rz⟩)) (hs _ _)
    · rename_i xs i
      obtain ⟨d', e1, rfl⟩ := Option.map_eq_some_iff.mp ec
      obtain ⟨p, vs, rfl, g, r⟩ := v.lst S3.sub
      obtain rfl := v'.int
      obtain ⟨z, e2, rz⟩ := reps_at r e1
      exact ix_seq a b pins s2 σ H2 _ _ u w Q I2 rx ry (.inl ⟨p, vs, i, z, rfl, rfl, g, e2, q.data S3 rz⟩) (hs _ _)
    · rename_i t i
      obtain ⟨c', e1, rfl⟩ := Option.map_eq_some_iff.mp ec
      obtain ⟨rfl, o⟩ := v.str
      obtain rfl := v'.int
      have mc : c' ∈ t := by
        unfold WF.atI at e1
        split at e1
        · exact List.mem_of_getElem? e1
        · split at e1
          · exact List.mem_of_getElem? e1
          · cases e1
      refine ix_seq a b pins s2 σ H2 _ _ u w Q I2 rx ry (.inr (.inr ⟨mkS t, i, c', rfl, rfl, by rw [mkS_len, ← lim_eq]; exact o.2, by rw [mkS_get, atI_eq]; exact e1, ?_⟩)) (hs _ _)
      rw [mkS_one]
      exact q.data S3 (.str _ ⟨fun z m => by rw [List.mem_singleton.mp m]; exact o.1 _ mc, by simp [LIM]⟩)
    · rename_i t kvs k
      split at ec
      · rename_i hk
        obtain ⟨d', e1, rfl⟩ := Option.map_eq_some_iff.mp ec
        have g := dic_get hu I2 S3.sub (Q := EP X pins σ Q) (E := X.xe) rx ry v v' hk e1 fun z u' s' I' rz rp => ⟨z, H2, I', rz, q.data S3 rp⟩
        exact tail_any g.1 PySem.F.slot_dict_getitem.lookup g.2 (hs _ _)
      · cases ec
    · cases ec
  have other : tR (cs cl X) RlB W ([] ++ A ++ A') F2 ρ2 (bind (dat ba) fun d => bind (dat bb) fun e => lift (iIx d e)) σ H2 Q → wpAny (model X.prog X.w) X.A (subscriptTail a b u w) (EP X pins σ Q) X.xe s2 := fun h2 => by
    obtain ⟨d, ed, h3⟩ := tR_dat h2
    obtain ⟨e, ee, h4⟩ := tR_dat h3
    exact plain d e ed ee h4
  cases ba with
  | sh d => exact other h2
  | ow o => exact other h2
  | pl i => exact other h2
  | tp bs =>
    obtain ⟨e, ee, h3⟩ := tR_dat h2
    cases e <;> first | exact tR_stuck h3 | skip
    rename_i j
    cases r1' with
    | @tp p xs _ _ g r =>
        have ry' : Rep (cs cl X) H2 y (.int j) := r2.dat S2 ee
        cases ry'
        have go : ∀ (z : V) (q : Q z H2), L2.atI xs j = some z → wpAny (model X.prog X.w) X.A (subscriptTail a b u w) (EP X pins σ Q) X.xe s2 := fun z q e => ix_seq a b pins s2 σ H2 _ _ u w Q I2 rx ry (.inr (.inl ⟨p, xs, j, z, rfl, rfl, S2.sub.sqT g, e, q⟩)) (hs _ _)
        have at_ : ∀ (c : SB), WF.atI bs j = some c → ∃ v, L2.atI xs j = some v ∧ ((∃ d, c = .sh d ∧ Rep (cs cl X) F2 v d) ∨ ∃ a o, c = .ow o ∧ v = .ref a ∧ a ∈ A ∧ ROb (cs cl X) F2 H2 a o) := fun c ec => by
          rw [atI_eq]
          have hl := r.length
          unfold WF.atI at ec ⊢
          rw [hl]
          split at ec
          · rename_i h0
            rw [if_pos h0]; exact rtp_at r ec
          · rename_i h0
            rw [if_neg h0]
            split at ec
            · rename_i h1'
              rw [if_pos h1']; exact rtp_at r ec
            · cases ec
        cases ec : WF.atI bs j with
        | none =>
          have h3 : tR (cs cl X) RlB W ([] ++ A ++ A') F2 ρ2 (match WF.atI bs j with | some (.sh d) => ret (.sh d) | some (.ow o) => ret (.ow o) | _ => stuck) σ H2 Q := h3
          rw [ec] at h3
          exact tR_stuck h3
        | some c =>
          have h3 : tR (cs cl X) RlB W ([] ++ A ++ A') F2 ρ2 (match WF.atI bs j with | some (.sh d) => ret (.sh d) | some (.ow o) => ret (.ow o) | _ => stuck) σ H2 Q := h3
          rw [ec] at h3
          obtain ⟨v, e1, q⟩ := at_ _ ec
          rcases q with ⟨d', rfl, rd⟩ | ⟨a', o', rfl, rfl, m, ro⟩
          · exact go v ((tR_ret h3).data S2 rd) e1
          · refine go _ (tR_ret h3 _ [a'] F2 H2 Tr.refl S2 (.ow ro) ⟨by simp, fun z mz => ?_, fun z mz => ?_, fun z mz => ?_⟩ fun z mz => ?_) e1
            · rw [List.mem_singleton.mp mz]; exact f.left.nf _ m
            · rw [List.mem_singleton.mp mz]; exact f.left.no _ m
            · rw [List.mem_singleton.mp mz]; exact f.left.th _ m
            · rw [List.mem_singleton.mp mz]; exact .inr (.inl (List.mem_append_left _ (List.mem_append_right _ m)))⟩
end
end WF

set_option Elab.async false
set_option linter.all false
set_option maxRecDepth 100000
set_option maxHeartbeats 4000000
/-! WFI: slices, chains, built-in functions and methods, a display of one pair. -/
namespace WF
open PySem PySem.Spec PyProof.Rows L2

section
variable {cl : Nat → Addr} {X : Cx} {C : Cs} {σ : St} {F H : Hp} {ρ : Env} {A A0 : List Addr}
/-! ### slices -/
theorem reps_take {F : Hp} : ∀ {xs : List V} {ds : List D} (n : Nat), Reps C F xs ds → Reps C F (xs.take n) (ds.take n)
  | _, _, 0, _ => .nil
  | _, _, _ + 1, .nil => .nil
  | _, _, n + 1, .cons r t => .cons r (reps_take n t)
theorem reps_drop {F : Hp} : ∀ {xs : List V} {ds : List D} (n : Nat), Reps C F xs ds → Reps C F (xs.drop n) (ds.drop n)
  | _, _, 0, r => r
  | _, _, _ + 1, .nil => .nil
  | _, _, n + 1, .cons _ t => reps_drop n t
theorem reps_rev {F : Hp} : ∀ {xs : List V} {ds : List D}, Reps C F xs ds → Reps C F xs.reverse ds.reverse
  | _, _, .nil => .nil
  | _, _, .cons r t => by
    rw [List.reverse_cons, List.reverse_cons]
    exact (reps_rev t).append (.cons r .nil)
abbrev RlO : Rl (Option Int) (Option Int) := ⟨fun _ _ _ _ v b A => v = b ∧ A = []⟩
/-- the part of a slice: not written, or an int -/
inductive SimO (cl : Nat → Addr) (X : Cx) : Option Expr → Option (M B) → Prop
  | none : SimO cl X none none
  | some {e : Expr} {m : M B} : SimE cl X e m → SimO cl X (some e) (some m)
theorem SimO.po {e : Option Expr} {m : Option (M B)} (h : SimO cl X e m) {W : WX} (tk : Takes X W) : PO X e (tM (cs cl X) RlO W (mEnd m)) := by
  cases h with
  | none => exact ⟨fun pins s σ H Q I ⟨F, ρ, S, h⟩ => po_none.run pins s σ H Q I (tR_ret h Option.none [] F H Tr.refl S ⟨rfl, rfl⟩ Fp.nil New.nil)⟩
  | some ha => exact ⟨fun pins s σ H Q I ⟨F, ρ, S, h⟩ => (po_some (ha W tk)).run pins s σ H Q I (one_bind S h fun x d F2 H2 ρ2 S2 v q => by
      cases d with
      | int i => exact ⟨i, v.int, tR_ret q (Option.some i) [] F2 H2 Tr.refl S2 ⟨rfl, rfl⟩ Fp.nil New.nil⟩
      | _ => exact tR_stuck q)⟩
def rSlD (K : PySem.W.Frag) : V → Option Int → Option Int → Hp → VK → Prop := fun x lo hi H Q => rSlL K x lo hi H Q ∨ rSlA K x lo hi H Q ∨ rSlS x lo hi H Q
theorem sl_D : SlR X (rSlD X.K) := sl_list.or (sl_tupA.or sl_str)
theorem six_eq (n d : Nat) (o : Option Int) : HT.sIx n d o = endI n d o := by cases o <;> rfl
theorem okT_cut {t : Txt} (o : okT t) (a b : Nat) : okT (cutL t a b) := by
  unfold cutL
  refine ⟨fun c m => o.1 c (List.mem_of_mem_drop (List.mem_of_mem_take m)), ?_⟩
  rw [List.length_take, List.length_drop]
  have := o.2
  omega
theorem cutL_all {α : Type} (xs : List α) : cutL xs 0 xs.length = xs := by
  unfold cutL
  simp
/-- what the rules of slices want, from the mirror -/
theorem sl_fin {x : V} {d : D} {lo hi : Option Int} {b : B} {Q : VK} (S : Stt C F H σ ρ) (v : Vw C F H x d) (e : iSl d lo hi = some b) (q : Fin C RlB A0 F ρ σ H Q b) : rSlD C.K x lo hi H Q := by
  unfold iSl at e
  split at e
  · rename_i xs
    cases e
    obtain ⟨p, vs, rfl, g, r⟩ := v.tup
    have hl := r.length
    refine .inr (.inl ⟨p, vs, rfl, S.sub.sqT g, fun w => ?_, fun w p' hp => ?_⟩)
    · rw [six_eq, six_eq, hl] at w
      rw [w.1, w.2, cutL_all] at q
      exact q.data S (.tup g r)
    · have := q.tup S (reps_take (endI xs.length xs.length hi - endI xs.length 0 lo) (reps_drop (endI xs.length 0 lo) r)) hp
      unfold cutV
      rw [six_eq, six_eq, hl]
      exact this
  · rename_i xs
    cases e
    obtain ⟨p, vs, rfl, g, r⟩ := v.lst S.sub
    have hl := r.length
    refine .inl ⟨p, vs, rfl, g, fun p' hp => ?_⟩
    have := q.lst S (reps_take (endI xs.length xs.length hi - endI xs.length 0 lo) (reps_drop (endI xs.length 0 lo) r)) hp
    unfold cutV
    rw [six_eq, six_eq, hl]
    exact this
  · rename_i xs
    cases e
    obtain ⟨rfl, o⟩ := v.str
    refine .inr (.inr ⟨mkS xs, rfl, by rw [mkS_len, ← lim_eq]; exact o.2, ?_⟩)
    have e1 : cutS (mkS xs) lo hi = mkS (cutL xs (endI xs.length 0 lo) (endI xs.length xs.length hi)) := by
      unfold cutS
      rw [six_eq, six_eq, mkS_get, mkS_len]; rfl
    rw [e1]
    exact q.data S (.str _ (okT_cut o _ _))
  · cases e
theorem sim_sl {a : Expr} {lo hi : Option Expr} {ma : M B} {ml mh : Option (M B)} {p2 pos : Pos} (ha : SimE cl X a ma) (hl : SimO cl X lo ml) (hh : SimO cl X hi mh) : SimE cl X (.Subscript a (.Slice lo hi none p2) pos) (mSl ma ml mh) := fun W tk =>
  PE.imp (pe_slice sl_D (ha W tk) (hl.po tk) (hh.po tk)) fun σ H Q ⟨F, ρ, S, h⟩ => by
    refine tM_bind (R1 := RlB) S h fun x a A F1 H1 ρ1 T1 S1 r1 f1 n1 h1 => ?_
    refine tM_bind (R1 := RlO) S1 h1 fun y l A2 F2 H2 ρ2 T2 S2 r2 f2 n2 h2 => ?_
    refine tM_bind (R1 := RlO) S2 h2 fun z u A3 F3 H3 ρ3 T3 S3 r3 f3 n3 h3 => ?_
    obtain ⟨rfl, rfl⟩ := r2
    obtain ⟨rfl, rfl⟩ := r3
    obtain ⟨d, ed, h4⟩ := tR_dat h3
    obtain ⟨b, eb, q⟩ := tR_end h4
    have r1' := (r1.mono (F' := F2) (H' := H2) T2.sub fun z m => f1.keep T2 m).mono (F' := F3) (H' := H3) T3.sub fun z m => (f1.tr T2).keep T3 m
    have f := (f1.tr T2).tr T3
    obtain ⟨S4, T4⟩ := share S3 f
    have v := r1'.view S3 (sub_addF f) (fun z m o q => by rw [addF_in m]; exact q) ed
    exact sl_fin S4 v eb (q.from_ (T4.hand fun a m => by simpa using m) (A1 := []) (fun _ z => nomatch z))
/-! ### a <= b <= c -/
theorem le_fin {x y : V} {d e : D} {b : B} (v : Vw C F H x d) (w : Vw C F H y e) (h : iLe d e = some b) : ∃ i j, x = .int i ∧ y = .int j ∧ d = .int i ∧ e = .int j ∧ b = boo (decide (i ≤ j)) := by
  unfold iLe at h
  split at h <;> cases h
  exact ⟨_, _, v.int, w.int, rfl, rfl, rfl⟩
theorem lele_core {ma mb mc : M B} {W : WX} {Q : VK} (h : tM C RlB W (mLeLe ma mb mc) σ H Q) : tChain (rI0 fun i j => .bl (decide (i ≤ j))) (rI0 fun i j => .bl (decide (i ≤ j))) (tM C RlB W ma) (tM C RlB W mb) (tM C RlB W mc) σ H Q := by
    obtain ⟨F, ρ, S, h⟩ := h
    refine two_bind S h fun x y d e F2 H2 ρ2 S2 v w q => ?_
    obtain ⟨r, er, q⟩ := tR_lift q
    obtain ⟨i, j, rfl, rfl, rfl, rfl, rfl⟩ := le_fin v w er
    refine ⟨i, j, rfl, rfl, decide (i ≤ j), rfl, ?_⟩
    cases hij : decide (i ≤ j) with
    | true =>
      rw [hij] at q
      refine iteT (one_bind S2 (tR_up q) fun z g F3 H3 ρ3 S3 v3 q3 => ?_)
      obtain ⟨b, eb, q3⟩ := tR_end q3
      obtain ⟨i', j', e1, rfl, e2, rfl, rfl⟩ := le_fin (F := F3) (H := H3) (x := .int j) (.sc (.int j)) v3 eb
      cases e1
      exact ⟨_, _, rfl, rfl, q3.data S3 (.bl _)⟩
    | false =>
      rw [hij] at q
      exact iteF ((tR_ret q).data S2 (.bl _))
theorem sim_lele {a b c : Expr} {ma mb mc : M B} {pos : Pos} (ha : SimE cl X a ma) (hb : SimE cl X b mb) (hc : SimE cl X c mc) : SimE cl X (.Compare a [.LtE, .LtE] [b, c] pos) (mLeLe ma mb mc) := fun W tk =>
  PE.imp (pe_chain op_le op_le (ha W tk) (hb W tk) (hc W tk) (hm := by show behindInMarks .LtE c = false; exact nomark c)) fun σ H Q h => lele_core h
theorem onlyB_lele {ma mb mc : M B} : OnlyB (mLeLe ma mb mc) := fun ρ b ρ' h => by
  obtain ⟨_, _, _, h⟩ := bind_ok h
  obtain ⟨_, _, _, h⟩ := bind_ok h
  obtain ⟨_, _, _, h⟩ := bind_ok h
  obtain ⟨_, _, _, h⟩ := bind_ok h
  obtain ⟨_, _, _, h⟩ := bind_ok h
  split at h
  · obtain ⟨_, _, _, h⟩ := bind_ok h
    obtain ⟨_, _, _, h⟩ := bind_ok h
    have h := lift_ok h
    unfold iLe at h
    split at h <;> cases h
    exact ⟨_, rfl⟩
  · cases h; exact ⟨_, rfl⟩
  · cases h
/-- a truth value as a test -/
theorem test_of {m : M B} {W : WX} {Q : Bool → Hp → Prop} (ob : OnlyB m) (h : tM C RlT W (tV m) σ H Q) : tM C RlB W m σ H fun x H1 => ∃ k, x = .bl k ∧ Q k H1 := by
  obtain ⟨F, ρ, S, r, ρ', e, q⟩ := h
  unfold tV bind at e
  split at e
  · cases e
  · rename_i c p ρ1 em
    cases e
    exact ⟨F, ρ, S, _, _, em, q⟩
  · rename_i b ρ1 em
    obtain ⟨c, rfl⟩ := ob _ _ _ em
    cases e
    refine ⟨F, ρ, S, _, _, em, fun v A F' H' T' S' rl fp nw => ?_⟩
    cases rl with
    | sh rl => cases rl; exact ⟨c, rfl, q c [] F' H' T' S' ⟨rfl, rfl⟩ Fp.nil New.nil⟩
theorem sim_leleT {a b c : Expr} {ma mb mc : M B} {pos : Pos} (ha : SimE cl X a ma) (hb : SimE cl X b mb) (hc : SimE cl X c mc) : SimT cl X (.Compare a [.LtE, .LtE] [b, c] pos) (tV (mLeLe ma mb mc)) := fun W tk =>
  PT.imp (pt_chain op_le op_le (ha W tk) (hb W tk) (hc W tk) (hm := by show behindInMarks .LtE c = false; exact nomark c)) fun σ H Q h => lele_core (test_of onlyB_lele h)
/-! ### built-ins of one value -/
def Od1 (C : Cs) (r : List V → Hp → VK → Prop) (f : D → Option B) : Prop := ∀ {σ : St} {F H : Hp} {ρ : Env} {A0 : List Addr} {x : V} {d : D} {b : B} {Q : VK}, Stt C F H σ ρ → Vw C F H x d → f d = some b → Fin C RlB A0 F ρ σ H Q b → r [x] H Q
theorem tM_un {r : List V → Hp → VK → Prop} {f : D → Option B} {m : M B} {W : WX} {Q : VK} (o : Od1 C r f) (h : tM C RlB W (mUn f m) σ H Q) : tCB r (tCons (tM C RlB W m) tNil) σ H Q := by
  obtain ⟨F, ρ, S, h⟩ := h
  exact one_bind S h fun x d F2 H2 ρ2 S2 v q => let ⟨b, eb, q⟩ := tR_end q; o S2 v eb q
theorem sim_b1 {x : Str} {id : String} {e : Expr} {p pos : Pos} {r : List V → Hp → VK → Prop} {f : D → Option B} {m : M B} (hc : CallR X (.builtin id) r) (o : Od1 (cs cl X) r f) (hg : Gl X x) (hm : X.mg x = none) (hv : bootBuiltins x = some (.builtin id))
    (ha : SimE cl X e m) (hn : x ≠ "__name__") (hdb : (x == ("__debug__" : Str)) = false) (he : starEach [e] X.env = (false, eval e X.env) :: starEach [] X.env) : SimE cl X (.Call (.Name x p) [e] [] pos) (mUn f m) :=
  fun W tk => PE.imp (pe_callB hc hg hm hv (pa_cons (ha W tk) pa_nil he) hn hdb he rfl) fun σ H Q h => tM_un o h
theorem sim_c1 {x : Str} {T : String} {e : Expr} {p pos : Pos} {r : List V → Hp → VK → Prop} {f : D → Option B} {m : M B} (hc : CallR X (.type T) r) (o : Od1 (cs cl X) r f) (hg : Gl X x) (hm : X.mg x = none) (hv : bootBuiltins x = some (.type T))
    (ha : SimE cl X e m) (hn : x ≠ "__name__") (hdb : (x == ("__debug__" : Str)) = false) (he : starEach [e] X.env = (false, eval e X.env) :: starEach [] X.env) : SimE cl X (.Call (.Name x p) [e] [] pos) (mUn f m) :=
  fun W tk => PE.imp (pe_callTy hc hg hm hv (pa_cons (ha W tk) pa_nil he) hn hdb he rfl) fun σ H Q h => tM_un o h
/-! len -/
theorem call_lenT : CallR X (.builtin "len") (fun xs H Q => ∃ (a : Addr) (F : Hp) (zs : List XT) (kvs : List (D × D)), xs = [.ref a] ∧ H a = some (dkT (cs cl X) a zs) ∧ RepT (cs cl X) F zs kvs ∧ Sub F H ∧ Q (.int zs.length) H) := by
  intro pins s σ H xs us Q I r h
  obtain ⟨a, F, zs, kvs, rfl, e, rt, sb, q⟩ := h
  obtain ⟨u, rfl, rx⟩ := vals1 r
  cases rx
  obtain ⟨ys, rel, dd, hz, hd, _⟩ := dk_at I e rt sb
  have hm : s.heap.DictKeyed (nestedKind X.prog X.w) a (pairsH ys) := ⟨ys, dd, rfl⟩
  have hl : (pairsH ys).length = zs.length := by
    rw [pairsH_length]
    have := congrArg List.length (relT_fst rel)
    simpa using this
  have hs : sizeLine = 16777216 := sizeLine_eq
  refine PyProof.Rows.call_len_slot (n := zs.length) hm.typeIs PySem.F.slot_dict_len (fun Q' hq => len_keyed hd hm ?_) (by omega) (by omega) ?_
  · rw [hl]; exact hq
  · exact ⟨.int zs.length, H, I.tok _, ⟨_, rfl⟩, q⟩
theorem CallR.or {f : Value} {r r' : List V → Hp → VK → Prop} (h : CallR X f r) (h' : CallR X f r') : CallR X f (fun xs H Q => r xs H Q ∨ r' xs H Q) := by
  intro pins s σ H xs us Q I rr q
  rcases q with q | q
  · exact h pins s σ H xs us Q I rr q
  · exact h' pins s σ H xs us Q I rr q

def rLen (cl : Nat → Addr) (X : Cx) : List V → Hp → VK → Prop := fun xs H Q => (∃ x n, xs = [x] ∧ LenV X.K x H n ∧ Q (.int n) H) ∨ (∃ a kvs, xs = [V.ref a] ∧ H a = some (.dK kvs) ∧ Q (.int kvs.length) H) ∨
  ∃ (a : Addr) (F : Hp) (zs : List XT) (kvs : List (D × D)), xs = [.ref a] ∧ H a = some (dkT (cs cl X) a zs) ∧ RepT (cs cl X) F zs kvs ∧ Sub F H ∧ Q (.int zs.length) H
theorem call_lenA : CallR X (.builtin "len") (rLen cl X) := call_len.or (call_lenD.or call_lenT)
theorem od_len : Od1 (cs cl X) (rLen cl X) iLen := by
  intro σ F H ρ A0 x d b Q S v e q
  unfold iLen dLen at e
  obtain ⟨n, e, rfl⟩ := Option.map_eq_some_iff.mp e
  split at e
  · cases e
    obtain ⟨a, xs, rfl, g, r⟩ := v.tup
    exact .inl ⟨_, _, rfl, .inr ⟨xs, S.sub.sqT g, r.length.symm⟩, q.data S (.int _)⟩
  · cases e
    obtain ⟨a, xs, rfl, g, r⟩ := v.lst S.sub
    exact .inl ⟨_, _, rfl, .inl ⟨xs, g, r.length.symm⟩, q.data S (.int _)⟩
  · cases e
    obtain ⟨rfl, o⟩ := v.str
    exact .inl ⟨_, _, rfl, ⟨by rw [mkS_len, ← lim_eq]; exact o.2, (mkS_len _).symm⟩, q.data S (.int _)⟩
  · rename_i t kvs _
    cases e
    cases t with
    | false =>
      obtain ⟨a, xs, rfl, g, r⟩ := v.dicS S.sub
      refine .inr (.inl ⟨a, xs, rfl, g, ?_⟩)
      rw [r.length]
      exact q.data S (.int _)
    | true =>
      obtain ⟨a, xs, rfl, g, r⟩ := v.dicT S.sub
      refine .inr (.inr ⟨a, F, xs, kvs, rfl, g, r, S.sub, ?_⟩)
      rw [r.length]
      exact q.data S (.int _)
  · cases e
/-- a built-in's name: free in the text -/
structure Bn (X : Cx) (x : Str) : Prop where
  gl : Gl X x
  mg : X.mg x = none
theorem sim_len {e : Expr} {p pos : Pos} {m : M B} (b : Bn X "len") (ha : SimE cl X e m) (he : starEach [e] X.env = (false, eval e X.env) :: starEach [] X.env) : SimE cl X (.Call (.Name "len" p) [e] [] pos) (mLen m) :=
  sim_b1 call_lenA od_len b.gl b.mg boot_len ha (by decide) (by decide) he
theorem od_int1 : Od1 C (fun xs H Q => (∃ i, xs = [.int i] ∧ Q (.int i) H) ∨ ∃ k, xs = [.bl k] ∧ Q (.int (if k then 1 else 0)) H) iInt := by
  intro σ F H ρ A0 x d b Q S v e q
  unfold iInt at e
  split at e
  · cases e
    exact .inl ⟨_, by rw [v.int], q.data S (.int _)⟩
  · cases e
    exact .inr ⟨_, by rw [v.bl], q.data S (.int _)⟩
  · cases e
theorem sim_int1 {e : Expr} {p pos : Pos} {m : M B} (b : Bn X "int") (ha : SimE cl X e m) (he : starEach [e] X.env = (false, eval e X.env) :: starEach [] X.env) : SimE cl X (.Call (.Name "int" p) [e] [] pos) (mInt m) :=
  sim_c1 call_int1 od_int1 b.gl b.mg (by decide +kernel) ha (by decide) (by decide) he
def rTupO (K : PySem.W.Frag) : List V → Hp → VK → Prop := fun xs H Q => ∃ p ys, xs = [.ref p] ∧ ((SqL K H p ys ∧ ∀ l, H l = none → Q (.ref l) (upd H l (.tup ys))) ∨ (SqT K H p ys ∧ Q (.ref p) H))
theorem od_tuple : Od1 C (rTupO C.K) iTuple := by
  intro σ F H ρ A0 x d b Q S v e q
  unfold iTuple at e
  split at e
  · cases e
    obtain ⟨a, xs, rfl, g, r⟩ := v.tup
    exact ⟨a, xs, rfl, .inr ⟨S.sub.sqT g, q.data S (.tup g r)⟩⟩
  · cases e
    obtain ⟨a, xs, rfl, g, r⟩ := v.lst S.sub
    exact ⟨a, xs, rfl, .inl ⟨g, fun l hl => q.tup S r hl⟩⟩
  · cases e
theorem sim_tuple {e : Expr} {p pos : Pos} {m : M B} (b : Bn X "tuple") (ha : SimE cl X e m) (he : starEach [e] X.env = (false, eval e X.env) :: starEach [] X.env) : SimE cl X (.Call (.Name "tuple" p) [e] [] pos) (mTuple m) :=
  sim_c1 call_tuple_of od_tuple b.gl b.mg (by decide +kernel) ha (by decide) (by decide) he
theorem bools_of {F : Hp} : ∀ {xs : List V} {ds : List D}, Reps C F xs ds → ∀ {bs : List Bool}, bools ds = some bs → xs = bs.map V.bl
  | _, _, .nil, bs, e => by cases e; rfl
  | _, d :: ds, .cons r t, bs, e => by
    cases d with
    | bl b =>
      obtain ⟨cs, e1, rfl⟩ := Option.map_eq_some_iff.mp (show (bools ds).map (fun bs => b :: bs) = some bs from e)
      cases r
      rw [bools_of t e1]; rfl
    | _ => cases e
theorem od_all : Od1 C (rAll C.K) iAll := by
  intro σ F H ρ A0 x d b Q S v e q
  unfold iAll at e
  split at e
  · obtain ⟨bs, e', rfl⟩ := Option.map_eq_some_iff.mp e
    obtain ⟨a, xs, rfl, g, r⟩ := v.lst S.sub
    have := bools_of r e'
    subst this
    exact ⟨a, bs, rfl, g, q.data S (.bl _)⟩
  · cases e
theorem od_any : Od1 C (rAny C.K) iAny := by
  intro σ F H ρ A0 x d b Q S v e q
  unfold iAny at e
  split at e
  · obtain ⟨bs, e', rfl⟩ := Option.map_eq_some_iff.mp e
    obtain ⟨a, xs, rfl, g, r⟩ := v.lst S.sub
    have := bools_of r e'
    subst this
    exact ⟨a, bs, rfl, g, q.data S (.bl _)⟩
  · cases e
theorem sim_all {e : Expr} {p pos : Pos} {m : M B} (b : Bn X "all") (hc : X.calm = true) (ha : SimE cl X e m) (he : starEach [e] X.env = (false, eval e X.env) :: starEach [] X.env) : SimE cl X (.Call (.Name "all" p) [e] [] pos) (mAll m) :=
  sim_b1 (cr_all hc) od_all b.gl b.mg (by decide +kernel) ha (by decide) (by decide) he
theorem sim_any {e : Expr} {p pos : Pos} {m : M B} (b : Bn X "any") (hc : X.calm = true) (ha : SimE cl X e m) (he : starEach [e] X.env = (false, eval e X.env) :: starEach [] X.env) : SimE cl X (.Call (.Name "any" p) [e] [] pos) (mAny m) :=
  sim_b1 (cr_any hc) od_any b.gl b.mg (by decide +kernel) ha (by decide) (by decide) he
/-! isinstance -/
def tyN : Ty → String | .bool => "bool" | .int => "int" | .str => "str" | .tuple => "tuple" | .list => "list"
theorem tyx_of {v : V} {d : D} (S : Sub F H) (h : Vw C F H v d) (n : ∀ t kvs, d ≠ .dic t kvs) : ∃ T : String, TyX C.K H v (.type T) ∧ ∀ t, PySem.W.kitOne C.K (.type T) (.type (tyN t)) = some (isA d t) := by
  cases d with
  | non => rw [h.non]; exact ⟨_, .base .non, fun t => by cases t <;> (simp only [isA, tyN]; exact kit_ty (by decide +kernel))⟩
  | bl b => rw [h.bl]; exact ⟨_, .base (.bl b), fun t => by cases t <;> (simp only [isA, tyN]; exact kit_ty (by decide +kernel))⟩
  | int i => rw [h.int]; exact ⟨_, .base (.int i), fun t => by cases t <;> (simp only [isA, tyN]; exact kit_ty (by decide +kernel))⟩
  | str s => rw [h.str.1]; exact ⟨_, .base (.str _), fun t => by cases t <;> (simp only [isA, tyN]; exact kit_ty (by decide +kernel))⟩
  | tup xs =>
    obtain ⟨a, vs, rfl, q, r⟩ := h.tup
    refine ⟨"tuple", ?_, fun t => by cases t <;> (simp only [isA, tyN]; exact kit_ty (by decide +kernel))⟩
    rcases S.sqT q with (q | ⟨o, q⟩) | ⟨o, its, n, e, c, _⟩
    · exact .base (.tup q)
    · exact .fTuple q
    · exact .kTuple e c
  | lst xs =>
    obtain ⟨a, vs, rfl, q, r⟩ := h.lst S
    refine ⟨"list", ?_, fun t => by cases t <;> (simp only [isA, tyN]; exact kit_ty (by decide +kernel))⟩
    rcases q with (q | ⟨o, q⟩) | ⟨o, its, n, e, c, _⟩
    · exact .base (.lst q)
    · exact .base (.frz q)
    · exact .kList e c
  | dic t kvs => exact absurd rfl (n t kvs)
theorem sim_isA {e : Expr} {p p2 pos : Pos} {m : M B} (t : Ty) {tn : Str} (htn : tn = Str.ofString (tyN t)) (b : Bn X "isinstance") (bt : Bn X tn) (hv : bootBuiltins tn = some (.type (tyN t))) (hn : tn ≠ "__name__") (hdb : (tn == ("__debug__" : Str)) = false) (ha : SimE cl X e m)
    (he : starEach [e, .Name tn p2] X.env = (false, eval e X.env) :: starEach [.Name tn p2] X.env) (he2 : starEach [.Name tn p2] X.env = (false, eval (.Name tn p2) X.env) :: starEach [] X.env) (hpl : (backTo pos (starEach [.Name tn p2] X.env)).any (·.1) = false) : SimE cl X (.Call (.Name "isinstance" p) [e, .Name tn p2] [] pos) (mIsA t m) :=
  fun W tk => PE.imp (pe_callB call_isi b.gl b.mg (by decide +kernel) (pa_cons (ha W tk) (pa_cons (pe_bltn (v := .ty (tyN t)) bt.gl bt.mg hv rfl hn hdb) pa_nil he2) he) (by decide) (by decide) he hpl) fun σ H Q ⟨F, ρ, S, h⟩ => by
    refine one_bind S h fun x d F2 H2 ρ2 S2 v q => ?_
    obtain ⟨c, ec, q⟩ := tR_end q
    have n : ∀ t kvs, d ≠ .dic t kvs := fun t' kvs z => by subst z; cases ec
    have ec' : c = boo (isA d t) := by
      cases d with
      | dic t' kvs => cases ec
      | _ => cases ec; rfl
    subst ec'
    obtain ⟨T, ty, k⟩ := tyx_of S2.sub v n
    exact ⟨x, .ty (tyN t), .type T, .type (tyN t), isA d t, rfl, .ty _, ty, k t, q.data S2 (.bl _)⟩
end
end WF

set_option Elab.async false
set_option linter.all false
set_option maxRecDepth 100000
set_option maxHeartbeats 4000000
/-! WFJ: statements. -/
namespace WF
open PySem PySem.Spec PyProof.Rows L2

/-- what is wanted behind a statement, from the state F ρ with A0 in hand -/
def tSR (C : Cs) (W : WX) (A0 : List Addr) (F : Hp) (ρ : Env) (m : S) (D : Ends) (σ : St) (H : Hp) : Prop := ∃ r ρ', m ρ = some (r, ρ') ∧
  match r with
  | .ok .nx => ∀ σ' F' H', Tr A0 σ F H ρ σ' F' H' ρ' → Stt C F' H' σ' ρ' → D.nx σ' H'
  | .ok .bk => ∀ σ' F' H', Tr A0 σ F H ρ σ' F' H' ρ' → Stt C F' H' σ' ρ' → D.bk σ' H'
  | .ok .ct => ∀ σ' F' H', Tr A0 σ F H ρ σ' F' H' ρ' → Stt C F' H' σ' ρ' → D.ct σ' H'
  | .ok (.rt b) => ∀ v A σ' F' H', Tr A0 σ F H ρ σ' F' H' ρ' → Stt C F' H' σ' ρ' → noPl b = true → RB C σ' F' H' v b A → Fp σ' F' H' ρ' A → New A0 σ H ρ A → D.rt v H'
  | .exc c p => ∀ cls d σ' F' H', Tr A0 σ F H ρ σ' F' H' ρ' → Stt C F' H' σ' ρ' → REx C F' c p cls d H' → W cls d σ' H'
def tS (C : Cs) (W : WX) (m : S) : TS := fun D σ H => ∃ F ρ, Stt C F H σ ρ ∧ tSR C W [] F ρ m D σ H
section
variable {C : Cs} {W : WX} {A0 A1 : List Addr} {F F1 H H1 : Hp} {ρ ρ1 : Env} {σ σ1 : St} {D : Ends} {m : S}
/-- the same from a later state -/
theorem tSR_from (T : Tr A0 σ F H ρ σ1 F1 H1 ρ1) (n : New A0 σ H ρ A1) (e : m ρ = m ρ1) (h : tSR C W A0 F ρ m D σ H) : tSR C W A1 F1 ρ1 m D σ1 H1 := by
  obtain ⟨r, ρ', e', h⟩ := h
  have up : ∀ {x : Addr}, x ∈ A1 → x ∈ A0 ++ A1 := fun z => List.mem_append_right _ z
  refine ⟨r, ρ', e ▸ e', ?_⟩
  cases r with
  | ok f =>
    cases f with
    | nx => exact fun σ' F' H' T' S => h σ' F' H' (T.trans n (T'.hand fun _ => up)) S
    | bk => exact fun σ' F' H' T' S => h σ' F' H' (T.trans n (T'.hand fun _ => up)) S
    | ct => exact fun σ' F' H' T' S => h σ' F' H' (T.trans n (T'.hand fun _ => up)) S
    | rt b => exact fun v A σ' F' H' T' S np rl fp nw => h v A σ' F' H' (T.trans n (T'.hand fun _ => up)) S np rl fp (New.trans T n fun x z => (nw x z).imp id fun q => q.imp up id)
  | exc c p => exact fun cls d σ' F' H' T' S x => h cls d σ' F' H' (T.trans n (T'.hand fun _ => up)) S x
theorem tSR_up (h : tSR C W A0 F ρ m D σ H) : tSR C W [] F ρ m D σ H := tSR_from Tr.refl (fun _ z => nomatch z) rfl h
theorem tSR_stuck {P : Prop} (h : tSR C W A0 F ρ (stuck : S) D σ H) : P := by
  obtain ⟨r, ρ', e, h⟩ := h
  cases e
/-- through an expression -/
theorem tSR_bind {α β : Type} {R : Rl β α} {e : M α} {k : α → S} {P : β → Hp → Prop} (S0 : Stt C F H σ ρ) (h : tSR C W A0 F ρ (bind e k) D σ H)
    (i : ∀ v a A F1 H1 ρ1, Tr [] σ F H ρ σ F1 H1 ρ1 → Stt C F1 H1 σ ρ1 → R.rel C σ F1 H1 v a A → Fp σ F1 H1 ρ1 A → New [] σ H ρ A → tSR C W (A0 ++ A) F1 ρ1 (k a) D σ H1 → P v H1) : tM C R W e σ H P := by
  obtain ⟨r, ρ', e', h⟩ := h
  have up : ∀ {A : List Addr}, New [] σ H ρ A → New A0 σ H ρ A := fun n a z => (n a z).imp id fun q => q.elim (fun q => nomatch q) .inr
  unfold bind at e'
  split at e'
  · cases e'
  · rename_i c p ρ1 em
    cases e'
    exact ⟨F, ρ, S0, _, _, em, fun cls d F' H' T S x => h cls d σ F' H' (T.hand fun _ z => nomatch z) S x⟩
  · rename_i a ρ1 em
    refine ⟨F, ρ, S0, _, _, em, fun v A F1 H1 T S rl fp nw => i v a A F1 H1 ρ1 T S rl fp nw ⟨r, ρ', e', ?_⟩⟩
    have T0 : Tr A0 σ F H ρ σ F1 H1 ρ1 := T.hand fun _ z => nomatch z
    cases r with
    | ok f =>
      cases f with
      | nx => exact fun σ' F' H' T' S => h σ' F' H' (T0.trans (up nw) T') S
      | bk => exact fun σ' F' H' T' S => h σ' F' H' (T0.trans (up nw) T') S
      | ct => exact fun σ' F' H' T' S => h σ' F' H' (T0.trans (up nw) T') S
      | rt b => exact fun v A σ' F' H' T' S np rl fp nw' => h v A σ' F' H' (T0.trans (up nw) T') S np rl fp (New.trans T0 (up nw) nw')
    | exc c p => exact fun cls d σ' F' H' T' S x => h cls d σ' F' H' (T0.trans (up nw) T') S x
/-- a step that neither fails nor turns anything -/
theorem tSR_step {α : Type} {e : M α} {k : α → S} (h : tSR C W A0 F ρ (bind e k) D σ H) (p : ∀ r ρ', e ρ = some (r, ρ') → ρ' = ρ ∧ ∃ a, r = .ok a) : ∃ a, e ρ = some (.ok a, ρ) ∧ tSR C W A0 F ρ (k a) D σ H := by
  obtain ⟨r, ρ', e', h⟩ := h
  unfold bind at e'
  split at e'
  · cases e'
  · rename_i c q ρ1 em
    obtain ⟨_, a, z⟩ := p _ _ em
    cases z
  · rename_i a ρ1 em
    obtain ⟨z, _⟩ := p _ _ em
    subst z
    exact ⟨a, em, r, ρ', e', h⟩
theorem tSR_nx (h : tSR C W A0 F ρ (ret .nx : S) D σ H) : ∀ σ' F' H', Tr A0 σ F H ρ σ' F' H' ρ → Stt C F' H' σ' ρ → D.nx σ' H' := by
  obtain ⟨r, ρ', e, h⟩ := h
  cases e
  exact h
end

section
variable (cl : Nat → Addr) (X : Cx)
/-- the statement st does what m does -/
def SimS (st : Stmt) (m : S) : Prop := ∀ W, Takes X W → PS X st (tS (cs cl X) W m)
def SimB (st : List Stmt) (m : S) : Prop := ∀ W, Takes X W → PSs X st (tS (cs cl X) W m)
end
theorem PS.imp {X : Cx} {st : Stmt} {t t' : TS} (h : PS X st t) (i : ∀ D σ H, t' D σ H → t D σ H) : PS X st t' := ⟨fun pins s σ H D I q => h.run pins s σ H D I (i D σ H q)⟩
theorem PSs.imp {X : Cx} {st : List Stmt} {t t' : TS} (h : PSs X st t) (i : ∀ D σ H, t' D σ H → t D σ H) : PSs X st t' := ⟨fun pins s σ H D I q => h.run pins s σ H D I (i D σ H q)⟩
section
variable {cl : Nat → Addr} {X : Cx} {C : Cs} {σ : St} {F H : Hp} {ρ : Env} {A A0 : List Addr}
theorem seq_imp {a b : S} {D : Ends} {W : WX} (h : tS C W (sSeq a b) D σ H) : tSeq (tS C W a) (tS C W b) D σ H := by
  obtain ⟨F, ρ, S0, r, ρ', e, h⟩ := h
  refine ⟨F, ρ, S0, ?_⟩
  unfold sSeq bind at e
  split at e
  · cases e
  · rename_i c p ρ1 em
    cases e
    exact ⟨_, _, em, h⟩
  · rename_i f ρ1 em
    refine ⟨_, _, em, ?_⟩
    cases f with
    | nx =>
      refine fun σ1 F1 H1 T1 S1 => ⟨F1, ρ1, S1, r, ρ', e, ?_⟩
      cases r with
      | ok f =>
        cases f with
        | nx => exact fun σ' F' H' T' S => h σ' F' H' (T1.trans0 T') S
        | bk => exact fun σ' F' H' T' S => h σ' F' H' (T1.trans0 T') S
        | ct => exact fun σ' F' H' T' S => h σ' F' H' (T1.trans0 T') S
        | rt b => exact fun v A σ' F' H' T' S np rl fp nw => h v A σ' F' H' (T1.trans0 T') S np rl fp (New.trans T1 (A1 := []) (fun _ z => nomatch z) nw)
      | exc c p => exact fun cls d σ' F' H' T' S x => h cls d σ' F' H' (T1.trans0 T') S x
    | bk => cases e; exact h
    | ct => cases e; exact h
    | rt b => cases e; exact h
theorem sim_seq {st : Stmt} {rest : List Stmt} {a b : S} (h1 : SimS cl X st a) (h2 : SimB cl X rest b) : SimB cl X (st :: rest) (sSeq a b) := fun W tk => PSs.imp (pss_cons (h1 W tk) (h2 W tk)) fun D σ H h => seq_imp h
theorem sim_one {st : Stmt} {a : S} (h1 : SimS cl X st a) : SimB cl X [st] a := fun W tk => pss_one (h1 W tk)
theorem sim_pnil : SimB cl X [] sPass := fun W _ => PSs.imp pss_nil fun D σ H ⟨F, ρ, S, h⟩ => tSR_nx h σ F H Tr.refl S
theorem sim_pass {pos : Pos} : SimS cl X (.Pass pos) sPass := fun W _ => PS.imp ps_pass fun D σ H ⟨F, ρ, S, h⟩ => tSR_nx h σ F H Tr.refl S
theorem sim_drop {e : Expr} {m : M B} {pos : Pos} (ha : SimE cl X e m) (hs : swapsWith e none pos.line X.env = pure false) : SimS cl X (.Expr e pos) (sDrop m) := fun W tk => PS.imp (ps_expr (ha W tk) hs) fun D σ H ⟨F, ρ, S, h⟩ =>
  tSR_bind (R := RlB) S h fun v a A F1 H1 ρ1 T S1 rl fp nw q => tSR_nx q σ F1 H1 Tr.refl S1
theorem sim_ifS {c : Expr} {a b : List Stmt} {t : M Bool} {ma mb : S} {pos : Pos} (hc : SimT cl X c t) (ha : SimB cl X a ma) (hb : SimB cl X b mb) : SimS cl X (.If c a b pos) (sIf t ma mb) := fun W tk => PS.imp (ps_if (hc W tk) (ha W tk) (hb W tk)) fun D σ H ⟨F, ρ, S, h⟩ =>
  tSR_bind (R := RlT) S h fun v a A F1 H1 ρ1 T S1 rl fp nw q => by
    obtain ⟨rfl, rfl⟩ := rl
    cases v with
    | true => exact iteT ⟨F1, ρ1, S1, tSR_up q⟩
    | false => exact iteF ⟨F1, ρ1, S1, tSR_up q⟩
theorem RB.chg {σ' : St} {v : V} {b : B} (h : RB C σ F H v b A) (n : noPl b = true) : RB C σ' F H v b A := by
  cases h with
  | sh r => exact .sh r
  | ow r => exact .ow r
  | pl q => cases n
  | tp q r => exact .tp q r
theorem sim_ret {e : Expr} {m : M B} {pos : Pos} (ha : SimE cl X e m) : SimS cl X (.Return (some e) pos) (sRet m) := fun W tk => PS.imp (ps_ret (ha W tk)) fun D σ H ⟨F, ρ, S, h⟩ =>
  tSR_bind (R := RlB) S h fun v a A F1 H1 ρ1 T S1 rl fp nw q => by
    have go : noPl a = true → tSR (cs cl X) W ([] ++ A) F1 ρ1 (ret (.rt a)) D σ H1 → D.rt v H1 := fun n q => by
      obtain ⟨r, ρ', e, q⟩ := q
      cases e
      exact q v A σ F1 H1 Tr.refl S1 n rl fp fun z m => .inr (.inl (by rw [List.nil_append]; exact m))
    cases a with
    | pl i => exact tSR_stuck q
    | sh d => exact go rfl q
    | ow o => exact go rfl q
    | tp bs => exact go rfl q

/-! ### names bound -/
theorem put_at_set {ρ ρ1 : Env} {i : Nat} {b : SB} (h : putS ρ i b = some ρ1) : i < ρ.length ∧ (∀ o, ρ.at i ≠ some (.io o)) ∧ ρ1 = ρ.set i (some b) := by
  unfold putS at h
  split at h
  · rename_i hl
    split at h
    · cases h
    · rename_i n
      cases h
      exact ⟨hl, fun o e => n o e, rfl⟩
  · cases h
/-- a name is bound to a value: data, or a new object -/
theorem bind_slot {i : Nat} {b : SB} {v : V} {ρ1 : Env} (S : Stt C F H σ ρ) (h : putS ρ i b = some ρ1) (nio : ∀ o, b ≠ .io o) (r : RSB C F H v b) (f : ∀ a, b.obj.isSome = true → v = .ref a → ¬ Owns σ ρ a ∧ a ∈ A ∧ H a ≠ none) :
    Stt C F H (σ.set i (some v)) ρ1 ∧ Tr A σ F H ρ (σ.set i (some v)) F H ρ1 := by
  obtain ⟨hl, n, rfl⟩ := put_at_set h
  have hlσ : i < σ.length := by rw [← S.len]; exact hl
  have sig : ∀ {j : Nat} {c : SB}, Env.at (ρ.set i (some b)) j = some c → (j = i ∧ c = b) ∨ (j ≠ i ∧ ρ.at j = some c ∧ (σ.set i (some v))[j]? = σ[j]?) := fun {j c} e => by
    rcases at_set e with ⟨rfl, e1, _⟩ | ⟨nj, e1⟩
    · cases e1; exact .inl ⟨rfl, rfl⟩
    · exact .inr ⟨nj, e1, List.getElem?_set_ne (Ne.symm nj)⟩
  have own : ∀ {a : Addr}, Owns (σ.set i (some v)) (ρ.set i (some b)) a → Owns σ ρ a ∨ (b.obj.isSome = true ∧ v = .ref a) := fun {a} ⟨j, c, h1, h2, h3⟩ => by
    rcases sig h1 with ⟨rfl, rfl⟩ | ⟨nj, e1, e2⟩
    · rw [List.getElem?_set_self hlσ] at h3
      cases h3
      exact .inr ⟨h2, rfl⟩
    · rw [e2] at h3
      exact .inl ⟨j, c, e1, h2, h3⟩
  refine ⟨⟨S.sub, by rw [List.length_set, List.length_set]; exact S.len, fun j c e => ?_, fun j k c d a h1 h2 h3 h4 h5 h6 => ?_⟩, ⟨Sub.refl _, fun a o e _ _ => e, fun a _ _ _ z => z, fun a e => e, fun a q => ?_, fun j o q => ?_, fun j o q => ?_⟩⟩
  · rcases sig e with ⟨rfl, rfl⟩ | ⟨nj, e1, e2⟩
    · exact ⟨v, List.getElem?_set_self hlσ, r⟩
    · rw [e2]; exact S.sl j c e1
  · rcases sig h1 with ⟨rfl, rfl⟩ | ⟨nj, e1, e2⟩
    · rw [List.getElem?_set_self hlσ] at h5
      cases h5
      rcases sig h3 with ⟨rfl, rfl⟩ | ⟨nk, e3, e4⟩
      · rfl
      · rw [e4] at h6
        exact absurd ⟨k, d, e3, h4, h6⟩ (f a h2 rfl).1
    · rw [e2] at h5
      rcases sig h3 with ⟨rfl, rfl⟩ | ⟨nk, e3, e4⟩
      · rw [List.getElem?_set_self hlσ] at h6
        cases h6
        exact absurd ⟨j, c, e1, h2, h5⟩ (f a h4 rfl).1
      · rw [e4] at h6
        exact S.dis j k c d a e1 h2 e3 h4 h5 h6
  · rcases own q with z | ⟨z1, z2⟩
    · exact .inl z
    · exact .inr (.inl (f a z1 z2).2.1)
  · by_cases e : i = j
    · subst e; exact absurd q (n o)
    · refine ⟨⟨o, by rw [at_set_ne e]; exact q⟩, List.getElem?_set_ne e⟩
  · rcases sig q with ⟨rfl, e⟩ | ⟨nj, e1, e2⟩
    · exact absurd e.symm (nio o)
    · exact ⟨o, e1⟩
/-- what a name is bound to, from what an expression gives -/
theorem own_rel {v : V} {x : B} {b : SB} {ρ2 : Env} (S : Stt C F H σ ρ) (rl : RB C σ F H v x A) (fp : Fp σ F H ρ A) (e : ownB x ρ = some (.ok b, ρ2)) :
    ρ2 = ρ ∧ ∃ F1, Stt C F1 H σ ρ ∧ Tr A σ F H ρ σ F1 H ρ ∧ RSB C F1 H v b ∧ (∀ o, b ≠ .io o) ∧ ∀ a, b.obj.isSome = true → v = .ref a → ¬ Owns σ ρ a ∧ a ∈ A ∧ H a ≠ none := by
  cases x with
  | sh d =>
    cases e
    cases rl with
    | sh r => exact ⟨rfl, F, S, Tr.refl, .sh r, fun o z => (nomatch z), fun a z => (nomatch z)⟩
  | ow o =>
    cases e
    cases rl with
    | ow r => exact ⟨rfl, F, S, Tr.refl, .ow r (fp.nf _ (by simp)), fun o z => (nomatch z), fun a _ z => by cases z; exact ⟨fp.no _ (by simp), by simp, fp.th _ (by simp)⟩⟩
  | pl i => cases e
  | tp bs =>
    obtain ⟨z, _⟩ := lift_pure e
    subst z
    have e := lift_ok e
    obtain ⟨ds, e1, rfl⟩ := Option.map_eq_some_iff.mp e
    obtain ⟨S1, T1⟩ := share S fp
    cases rl with
    | tp q r =>
      exact ⟨rfl, _, S1, T1, .sh (.tup ((sub_addF fp).sqT q) (rtp_in r (sub_addF fp) (fun a m o q => by rw [addF_in m]; exact q) e1)), fun o z => (nomatch z), fun a z => (nomatch z)⟩
theorem bindS_go {W : WX} {D : Ends} {i : Nat} {b : SB} {v : V} (S0 : Stt C F H σ ρ) (h : tSR C W A0 F ρ (bindS i b) D σ H) (nio : ∀ o, b ≠ .io o) (r : RSB C F H v b) (f : ∀ a, b.obj.isSome = true → v = .ref a → ¬ Owns σ ρ a ∧ a ∈ A0 ∧ H a ≠ none) : D.nx (σ.set i (some v)) H := by
  obtain ⟨r', ρ', e, h⟩ := h
  unfold bindS at e
  split at e
  · rename_i ρ1 e1
    cases e
    obtain ⟨S1, T1⟩ := bind_slot S0 e1 nio r f
    exact h _ F H T1 S1
  · cases e
theorem sim_set {i : Nat} {x : Str} {e : Expr} {m : M B} {pos pos' : Pos} (hN : X.N.Nodup) (hi : X.N[i]? = some x) (hx : Loc X.env.scope x) (ha : SimE cl X e m) (hs : swapsWith e (some (.Name x pos')) pos.line X.env = pure false) (hf : X.fn x = true ∨ X.env.scope.names.lookup x = some .local) :
    SimS cl X (.Assign [.Name x pos'] e pos) (sSet i m) := fun W tk => PS.imp (ps_set hN hi hx (ha W tk) hs hf) fun D σ H ⟨F, ρ, S, h⟩ =>
  tSR_bind (R := RlB) S h fun v a A F1 H1 ρ1 T S1 rl fp nw q => by
    obtain ⟨b, eb, q⟩ := tSR_step q fun r ρ' e => by
      cases a with
      | pl i => cases e
      | sh d => cases e; exact ⟨rfl, _, rfl⟩
      | ow o => cases e; exact ⟨rfl, _, rfl⟩
      | tp bs => exact lift_pure e
    obtain ⟨_, F2, S2, T2, r, nio, f⟩ := own_rel S1 rl fp eb
    exact bindS_go (A0 := A) S2 (tSR_from (T2.hand fun z m => by rw [List.nil_append]; exact m) (fun z m => .inr (.inl (by rw [List.nil_append]; exact m))) rfl q) nio r f
end
end WF

set_option Elab.async false
set_option linter.all false
set_option maxRecDepth 100000
set_option maxHeartbeats 4000000
/-! WFK: defs and their calls. -/
namespace WF
open PySem PySem.Spec PyProof.Rows L2

def isIns : B → Bool | .ow (.ins _ _) => true | _ => false
section
variable {cl : Nat → Addr} {X : Cx} {C : Cs} {σ : St} {F H F' H' : Hp} {ρ : Env} {A A0 : List Addr} {vs : List V} {bs : List B} {sbs : List SB} {os : Env}
/-- arguments: data and new data (A1); new instances (A2) -/
structure Split (C : Cs) (σ : St) (F H : Hp) (vs : List V) (bs : List B) (A A1 A2 : List Addr) : Prop where
  mem : ∀ a, a ∈ A ↔ a ∈ A1 ∨ a ∈ A2
  dj : A.Nodup → A1.Nodup ∧ ∀ a ∈ A2, a ∉ A1
  ins : ∀ (j : Nat) b v, bs[j]? = some b → vs[j]? = some v → isIns b = true → ∃ a o, v = .ref a ∧ b = .ow o ∧ a ∈ A2 ∧ ROb C F H a o
  oth : ∀ (j : Nat) b v, bs[j]? = some b → vs[j]? = some v → isIns b = false → ∃ Aj, (∀ a ∈ Aj, a ∈ A1) ∧ RB C σ F H v b Aj
  uni : A.Nodup → ∀ (j k : Nat) b c a, bs[j]? = some b → bs[k]? = some c → isIns b = true → isIns c = true → vs[j]? = some (.ref a) → vs[k]? = some (.ref a) → j = k
theorem split_of (r : RBs C σ F H vs bs A) : ∃ A1 A2, Split C σ F H vs bs A A1 A2 := by
  induction r with
  | nil => exact ⟨[], [], fun a => by simp, fun _ => by simp, fun j b v e => by simp at e, fun j b v e => by simp at e, fun _ j k b c a e => by simp at e⟩
  | @cons v b vs bs A A' r t ih =>
    obtain ⟨A1, A2, S⟩ := ih
    cases hi : isIns b with
    | false =>
      refine ⟨A ++ A1, A2, fun a => ?_, fun nd => ?_, fun j c u e1 e2 e3 => ?_, fun j c u e1 e2 e3 => ?_, fun nd j k c c' a e1 e2 e3 e4 e5 e6 => ?_⟩
      · rw [List.mem_append, List.mem_append, S.mem a, or_assoc]
      · obtain ⟨n1, n2, n3⟩ := List.nodup_append.mp nd
        obtain ⟨m1, m2⟩ := S.dj n2
        refine ⟨List.nodup_append.mpr ⟨n1, m1, fun a h b h' => n3 a h b ((S.mem b).mpr (.inl h'))⟩, fun a h h' => ?_⟩
        rcases List.mem_append.mp h' with z | z
        · exact n3 a z a ((S.mem a).mpr (.inr h)) rfl
        · exact m2 a h z
      · cases j with
        | zero => simp at e1; subst e1; rw [hi] at e3; cases e3
        | succ j => exact S.ins j c u (by simpa using e1) (by simpa using e2) e3
      · cases j with
        | zero =>
          simp at e1 e2
          subst e1; subst e2
          exact ⟨A, fun a m => List.mem_append_left _ m, r⟩
        | succ j =>
          obtain ⟨Aj, h1, h2⟩ := S.oth j c u (by simpa using e1) (by simpa using e2) e3
          exact ⟨Aj, fun a m => List.mem_append_right _ (h1 a m), h2⟩
      · cases j with
        | zero => simp at e1; subst e1; rw [hi] at e3; cases e3
        | succ j =>
          cases k with
          | zero => simp at e2; subst e2; rw [hi] at e4; cases e4
          | succ k => rw [S.uni (List.nodup_append.mp nd).2.1 j k c c' a (by simpa using e1) (by simpa using e2) e3 e4 (by simpa using e5) (by simpa using e6)]
    | true =>
      cases r with
      | sh r => cases hi
      | pl r => cases hi
      | tp q r => cases hi
      | @ow a0 o r =>
      refine ⟨A1, a0 :: A2, fun a => ?_, fun nd => ?_, fun j c u e1 e2 e3 => ?_, fun j c u e1 e2 e3 => ?_, fun nd j k c c' a e1 e2 e3 e4 e5 e6 => ?_⟩
      · rw [List.mem_append, S.mem a, List.mem_singleton, List.mem_cons]
        constructor
        · rintro (z | z | z)
          · exact .inr (.inl z)
          · exact .inl z
          · exact .inr (.inr z)
        · rintro (z | z | z)
          · exact .inr (.inl z)
          · exact .inl z
          · exact .inr (.inr z)
      · obtain ⟨n1, n2, n3⟩ := List.nodup_append.mp nd
        obtain ⟨m1, m2⟩ := S.dj n2
        refine ⟨m1, fun a h h' => ?_⟩
        rcases List.mem_cons.mp h with z | z
        · subst z; exact n3 a (by simp) a ((S.mem a).mpr (.inl h')) rfl
        · exact m2 a z h'
      · cases j with
        | zero =>
          simp at e1 e2
          subst e1; subst e2
          exact ⟨a0, o, rfl, rfl, List.mem_cons_self, r⟩
        | succ j =>
          obtain ⟨a, o, h1, h2, h3, h4⟩ := S.ins j c u (by simpa using e1) (by simpa using e2) e3
          exact ⟨a, o, h1, h2, List.mem_cons_of_mem _ h3, h4⟩
      · cases j with
        | zero => simp at e1; subst e1; rw [hi] at e3; cases e3
        | succ j => exact S.oth j c u (by simpa using e1) (by simpa using e2) e3
      · obtain ⟨n1, n2, n3⟩ := List.nodup_append.mp nd
        have no : ∀ (j : Nat) b, bs[j]? = some b → isIns b = true → vs[j]? = some (V.ref a0) → False := fun j b e1 e2 e3 => by
          obtain ⟨a', o', h1, h2, h3, h4⟩ := S.ins j b _ e1 e3 e2
          cases h1
          exact n3 a0 (by simp) a0 ((S.mem a0).mpr (.inr h3)) rfl
        cases j with
        | zero =>
          cases k with
          | zero => rfl
          | succ k =>
            simp at e5
            subst e5
            exact (no k c' (by simpa using e2) e4 (by simpa using e6)).elim
        | succ j =>
          cases k with
          | zero =>
            simp at e6
            subst e6
            exact (no j c (by simpa using e1) e3 (by simpa using e5)).elim
          | succ k => rw [S.uni n2 j k c c' a (by simpa using e1) (by simpa using e2) e3 e4 (by simpa using e5) (by simpa using e6)]
theorem handL_get : ∀ {bs : List B} {sbs : List SB}, handL ρ bs = some sbs → sbs.length = bs.length ∧ ∀ (j : Nat) x, sbs[j]? = some x → ∃ b, bs[j]? = some b ∧ handB ρ b = some x
  | [], sbs, e => by cases e; exact ⟨rfl, fun j x e => by simp at e⟩
  | b :: r, sbs, e => by
    unfold handL at e
    split at e
    · rename_i x xs e1 e2
      cases e
      obtain ⟨l, h⟩ := handL_get e2
      refine ⟨by simp [l], fun j y ey => ?_⟩
      cases j with
      | zero => simp at ey; subst ey; exact ⟨b, rfl, e1⟩
      | succ j => obtain ⟨c, h1, h2⟩ := h j y (by simpa using ey); exact ⟨c, by simpa using h1, h2⟩
    · cases e
theorem handB_dat {b : B} {x : SB} (h : handB ρ b = some x) (n : noPl b = true) (i : isIns b = false) : ∃ d, x = .sh d ∧ b.dat ρ = some d := by
  cases b with
  | sh d => cases h; exact ⟨_, rfl, rfl⟩
  | ow o =>
    cases o with
    | ins c fs => cases i
    | lst xs => cases h; exact ⟨_, rfl, rfl⟩
    | dic t kvs => cases h; exact ⟨_, rfl, rfl⟩
  | pl i => cases n
  | tp bs =>
    obtain ⟨ds, e, rfl⟩ := Option.map_eq_some_iff.mp (show (sbsD bs).map (fun ds => SB.sh (.tup ds)) = some x from h)
    refine ⟨_, rfl, ?_⟩
    show (match sbsD bs with | some ds => some (D.tup ds) | none => none) = _
    rw [e]
theorem handB_io {b : B} {x : SB} (h : handB ρ b = some x) : (∃ d, x = .sh d) ∨ ∃ o, x = .io o := by
  cases b with
  | sh d => cases h; exact .inl ⟨_, rfl⟩
  | ow o =>
    cases o with
    | ins c fs => cases h; exact .inr ⟨_, rfl⟩
    | lst xs => cases h; exact .inl ⟨_, rfl⟩
    | dic t kvs => cases h; exact .inl ⟨_, rfl⟩
  | pl i =>
    have h : (match ρ.at i with | some (.sh d) => some (SB.sh d) | some (.ow o) => some (.io o) | some (.io o) => some (.io o) | none => none) = some x := h
    split at h <;> cases h
    · exact .inl ⟨_, rfl⟩
    · exact .inr ⟨_, rfl⟩
    · exact .inr ⟨_, rfl⟩
  | tp bs =>
    obtain ⟨ds, e, rfl⟩ := Option.map_eq_some_iff.mp (show (sbsD bs).map (fun ds => SB.sh (.tup ds)) = some x from h)
    exact .inl ⟨_, rfl⟩
theorem lent_of : ∀ {bs : List B} {j i : Nat}, bs[j]? = some (.pl i) → i ∈ lent bs
  | [], j, i, e => by simp at e
  | b :: r, 0, i, e => by simp at e; subst e; exact List.mem_cons_self
  | b :: r, j + 1, i, e => by
    have := lent_of (bs := r) (j := j) (i := i) (by simpa using e)
    cases b <;> first | exact List.mem_cons_of_mem _ this | exact this
theorem nodupN_cons {a : Nat} {r : List Nat} (h : nodupN (a :: r) = true) : a ∉ r ∧ nodupN r = true := by
  have h : (!(r.elem a) && nodupN r) = true := h
  rw [Bool.and_eq_true] at h
  refine ⟨fun m => ?_, h.2⟩
  have : r.elem a = true := List.elem_eq_true_of_mem m
  rw [this] at h
  exact absurd h.1 (by decide)
theorem lent_tail {b : B} {r : List B} (h : nodupN (lent (b :: r)) = true) : nodupN (lent r) = true := by
  cases b <;> first | exact (nodupN_cons h).2 | exact h
theorem lent_inj : ∀ {bs : List B}, nodupN (lent bs) = true → ∀ {j k i : Nat}, bs[j]? = some (.pl i) → bs[k]? = some (.pl i) → j = k
  | [], _, j, k, i, e, _ => by simp at e
  | b :: r, h, 0, 0, i, _, _ => rfl
  | b :: r, h, 0, k + 1, i, e, e' => by simp at e; subst e; exact absurd (lent_of (bs := r) (j := k) (by simpa using e')) (nodupN_cons h).1
  | b :: r, h, j + 1, 0, i, e, e' => by simp at e'; subst e'; exact absurd (lent_of (bs := r) (j := j) (by simpa using e)) (nodupN_cons h).1
  | b :: r, h, j + 1, k + 1, i, e, e' => by rw [lent_inj (bs := r) (lent_tail h) (j := j) (k := k) (i := i) (by simpa using e) (by simpa using e')]
theorem at_map {sbs : List SB} {i : Nat} {b : SB} : Env.at (sbs.map some) i = some b ↔ sbs[i]? = some b := by
  show (sbs.map some).getD i none = some b ↔ _
  rw [List.getD_eq_getElem?_getD, List.getElem?_map]
  cases sbs[i]? <;> simp
theorem get_map {vs : List V} {i : Nat} {v : V} : ((vs.map some : St)[i]? = some (some v)) ↔ vs[i]? = some v := by
  rw [List.getElem?_map]
  cases vs[i]? <;> simp
/-! ### what comes back -/
theorem backB_ne {b : B} {o : Option SB} {i : Nat} (h : b ≠ .pl i) : (backB ρ b o).at i = ρ.at i := by
  cases b with
  | pl k =>
    show (Env.at (match ρ.at k, o with | some c, some (.io o) => ρ.set k (some (c.put o)) | _, _ => ρ) i) = _
    split
    · exact at_set_ne fun z => h (by rw [z])
    · rfl
  | _ => rfl
theorem backL_ne : ∀ {bs : List B} {os ρ : Env} {i : Nat}, i ∉ lent bs → (backL ρ bs os).at i = ρ.at i
  | [], _, _, _, _ => by unfold backL; rfl
  | _ :: _, [], _, _, _ => rfl
  | b :: r, o :: os, ρ, i, h => by
    have h1 : b ≠ .pl i := fun e => by subst e; exact h List.mem_cons_self
    have h2 : i ∉ lent r := fun m => h (by cases b <;> first | exact List.mem_cons_of_mem _ m | exact m)
    show (backL (backB ρ b o) r os).at i = _
    rw [backL_ne h2, backB_ne h1]
theorem backB_io {o : O} {i : Nat} {c : SB} (h : ρ.at i = some c) : (backB ρ (.pl i) (some (.io o))).at i = some (c.put o) := by
  show (Env.at (match ρ.at i, some (SB.io o) with | some c, some (.io o) => ρ.set i (some (c.put o)) | _, _ => ρ) i) = _
  rw [h]
  exact at_set_same (get_of_at h).1
theorem backB_no {o : Option SB} {i : Nat} (h : ∀ u, o ≠ some (.io u)) : backB ρ (.pl i) o = ρ := by
  show (match ρ.at i, o with | some c, some (.io o) => ρ.set i (some (c.put o)) | _, _ => ρ) = _
  split
  · exact absurd rfl (h _)
  · rfl
theorem backL_io : ∀ {bs : List B} {os ρ : Env}, nodupN (lent bs) = true → ∀ {j i : Nat} {o : O} {c : SB}, bs[j]? = some (.pl i) → os[j]? = some (some (.io o)) → ρ.at i = some c → (backL ρ bs os).at i = some (c.put o)
  | [], _, _, _, j, i, o, c, e, _, _ => by simp at e
  | _ :: _, [], _, _, j, i, o, c, _, e, _ => by simp at e
  | b :: r, u :: os, ρ, nd, 0, i, o, c, e1, e2, e3 => by
    simp at e1 e2
    subst e1; subst e2
    show (backL (backB ρ (.pl i) (some (.io o))) r os).at i = _
    rw [backL_ne (nodupN_cons nd).1, backB_io e3]
  | b :: r, u :: os, ρ, nd, j + 1, i, o, c, e1, e2, e3 => by
    have e1 : r[j]? = some (.pl i) := by simpa using e1
    have hb : b ≠ .pl i := fun e => by subst e; exact (nodupN_cons nd).1 (lent_of e1)
    show (backL (backB ρ b u) r os).at i = _
    exact backL_io (lent_tail nd) e1 (by simpa using e2) (by rw [backB_ne hb]; exact e3)
theorem backL_no : ∀ {bs : List B} {os ρ : Env}, nodupN (lent bs) = true → ∀ {j i : Nat}, bs[j]? = some (.pl i) → (∀ u, os[j]? ≠ some (some (.io u))) → (backL ρ bs os).at i = ρ.at i
  | [], _, _, _, j, i, e, _ => by simp at e
  | _ :: _, [], _, _, j, i, _, e => rfl
  | b :: r, u :: os, ρ, nd, 0, i, e1, e2 => by
    simp at e1
    subst e1
    show (backL (backB ρ (.pl i) u) r os).at i = _
    rw [backL_ne (nodupN_cons nd).1, backB_no fun o z => e2 o (by simp [z])]
  | b :: r, u :: os, ρ, nd, j + 1, i, e1, e2 => by
    have e1 : r[j]? = some (.pl i) := by simpa using e1
    have hb : b ≠ .pl i := fun e => by subst e; exact (nodupN_cons nd).1 (lent_of e1)
    show (backL (backB ρ b u) r os).at i = _
    rw [backL_no (lent_tail nd) e1 (fun o => by simpa using e2 o), backB_ne hb]
theorem backB_len {b : B} {o : Option SB} : (backB ρ b o).length = ρ.length := by
  cases b with
  | pl k =>
    show List.length (match ρ.at k, o with | some c, some (.io o) => ρ.set k (some (c.put o)) | _, _ => ρ) = _
    split
    · rw [List.length_set]
    · rfl
  | _ => rfl
theorem backL_len : ∀ {bs : List B} {os ρ : Env}, (backL ρ bs os).length = ρ.length
  | [], _, _ => by unfold backL; rfl
  | _ :: _, [], _ => rfl
  | b :: r, o :: os, ρ => by
    show (backL (backB ρ b o) r os).length = _
    rw [backL_len, backB_len]
theorem mem_lent : ∀ {bs : List B} {i : Nat}, i ∈ lent bs → ∃ j : Nat, bs[j]? = some (.pl i)
  | [], i, h => nomatch h
  | b :: r, i, h => by
    have go : i ∈ lent r → ∃ j : Nat, (b :: r)[j]? = some (.pl i) := fun m => let ⟨j, e⟩ := mem_lent m; ⟨j + 1, by simpa using e⟩
    cases b with
    | pl k =>
      rcases List.mem_cons.mp h with z | z
      · subst z; exact ⟨0, rfl⟩
      · exact go z
    | _ => exact go h
end

/-! ### over to the callee, and back -/
structure Back (C : Cs) (σ : St) (F H : Hp) (ρ : Env) (A : List Addr) (vs : List V) (sbs : List SB) (bs : List B) (F' H' : Hp) (os : Env) : Prop where
  tr : Tr A σ F H ρ σ F' H' (backL ρ bs os)
  st : Stt C F' H' σ (backL ρ bs os)
  new : ∀ A2, Fp (vs.map some) F' H' os A2 → New [] (vs.map some) H (sbs.map some) A2 → Fp σ F' H' (backL ρ bs os) A2 ∧ New A σ H ρ A2
section
variable {C : Cs} {σ : St} {F H : Hp} {ρ : Env} {A : List Addr} {vs : List V} {bs : List B} {sbs : List SB}
theorem hand_over (S : Stt C F H σ ρ) (r : RBs C σ F H vs bs A) (f : Fp σ F H ρ A) (nd : nodupN (lent bs) = true) (hl : handL ρ bs = some sbs) :
    ∃ F1, Stt C F1 H (vs.map some) (sbs.map some) ∧ ∀ F' H' os, Tr [] (vs.map some) F1 H (sbs.map some) (vs.map some) F' H' os → Stt C F' H' (vs.map some) os → Back C σ F H ρ A vs sbs bs F' H' os := by
  obtain ⟨A1, A2, P⟩ := split_of r
  obtain ⟨lenB, get⟩ := handL_get hl
  have lenV := r.length
  have fp1 : Fp σ F H ρ A1 := ⟨(P.dj f.nd).1, fun a m => f.nf a ((P.mem a).mpr (.inl m)), fun a m => f.no a ((P.mem a).mpr (.inl m)), fun a m => f.th a ((P.mem a).mpr (.inl m))⟩
  obtain ⟨S1, T1⟩ := share S fp1
  -- an argument with an object: of a slot, or a new instance
  have objs : ∀ (j : Nat) x a, sbs[j]? = some x → x.obj.isSome = true → vs[j]? = some (V.ref a) → (∃ i c, bs[j]? = some (.pl i) ∧ ρ.at i = some c ∧ c.obj.isSome = true ∧ σ[i]? = some (some (.ref a))) ∨ ∃ b, bs[j]? = some b ∧ isIns b = true ∧ a ∈ A2 := fun j x a ex ox ev => by
    obtain ⟨b, eb, hb⟩ := get j x ex
    cases hi : isIns b with
    | true =>
      obtain ⟨a', o, e1, e2, e3, e4⟩ := P.ins j b _ eb ev hi
      cases e1
      exact .inr ⟨b, eb, hi, e3⟩
    | false =>
      cases b with
      | pl i =>
        obtain ⟨Aj, m, rb⟩ := P.oth j _ _ eb ev hi
        cases rb with
        | pl q =>
          have hb : (match ρ.at i with | some (.sh d) => some (SB.sh d) | some (.ow o) => some (.io o) | some (.io o) => some (.io o) | none => none) = some x := hb
          split at hb <;> cases hb
          · cases ox
          · rename_i o ho; exact .inl ⟨i, _, eb, ho, rfl, q⟩
          · rename_i o ho; exact .inl ⟨i, _, eb, ho, rfl, q⟩
      | sh d => obtain ⟨d, rfl, _⟩ := handB_dat hb rfl hi; cases ox
      | ow o => obtain ⟨d, rfl, _⟩ := handB_dat hb rfl hi; cases ox
      | tp bs => obtain ⟨d, rfl, _⟩ := handB_dat hb rfl hi; cases ox
  have own0 : ∀ a, Owns (vs.map some) (sbs.map some) a → Owns σ ρ a ∨ a ∈ A2 := fun a ⟨j, x, h1, h2, h3⟩ => by
    rcases objs j x a (at_map.mp h1) h2 (get_map.mp h3) with ⟨i, c, _, e1, e2, e3⟩ | ⟨b, _, _, m⟩
    · exact .inl ⟨i, c, e1, e2, e3⟩
    · exact .inr m
  have inA : ∀ a, a ∈ A2 → a ∈ A := fun a m => (P.mem a).mpr (.inr m)
  refine ⟨addF F H A1, ⟨S1.sub, by simp [lenB, lenV], fun j x e => ?_, fun j k x y a h1 h2 h3 h4 h5 h6 => ?_⟩, fun F' H' os T S' => ?_⟩
  · have e := at_map.mp e
    obtain ⟨b, eb, hb⟩ := get j x e
    have jl : j < vs.length := by
      have := (List.getElem?_eq_some_iff.mp eb).1
      omega
    obtain ⟨v, ev⟩ : ∃ v, vs[j]? = some v := ⟨_, List.getElem?_eq_getElem jl⟩
    refine ⟨v, get_map.mpr ev, ?_⟩
    cases hi : isIns b with
    | true =>
      obtain ⟨a, o, rfl, rfl, m, ro⟩ := P.ins j b v eb ev hi
      have ex : x = .io o := by
        cases o with
        | ins c fs => cases hb; rfl
        | lst xs => cases hi
        | dic t kvs => cases hi
      subst ex
      exact .io (ro.mono T1.sub fun _ z => z) (by rw [addF_out ((P.dj f.nd).2 a m)]; exact f.nf a (inA a m))
    | false =>
      obtain ⟨Aj, m, rb⟩ := P.oth j b v eb ev hi
      have plain : noPl b = true → RSB C (addF F H A1) H v x := fun np => by
        obtain ⟨d, rfl, ed⟩ := handB_dat hb np hi
        exact .sh (rb.in_ (sub_addF fp1) (fun a q o z => by rw [addF_in (m a q)]; exact z) np ed)
      cases b with
      | pl i =>
        cases rb with
        | pl q =>
          have hb : (match ρ.at i with | some (.sh d) => some (SB.sh d) | some (.ow o) => some (.io o) | some (.io o) => some (.io o) | none => none) = some x := hb
          split at hb
          · rename_i d hd
            cases hb
            obtain ⟨v', e1, r1⟩ := S1.sl i _ hd
            rw [q] at e1; cases e1
            cases r1 with | sh r1 => exact .sh r1
          · rename_i o hd
            cases hb
            obtain ⟨v', e1, r1⟩ := S1.sl i _ hd
            rw [q] at e1; cases e1
            cases r1 with | ow r1 g => exact .io r1 g
          · rename_i o hd
            cases hb
            obtain ⟨v', e1, r1⟩ := S1.sl i _ hd
            rw [q] at e1; cases e1
            cases r1 with | io r1 g => exact .io r1 g
          · cases hb
      | sh d => exact plain rfl
      | ow o => exact plain rfl
      | tp bs => exact plain rfl
  · rcases objs j x a (at_map.mp h1) h2 (get_map.mp h5) with ⟨i, c, q1, q2, q3, q4⟩ | ⟨b, q1, q2, q3⟩
    · rcases objs k y a (at_map.mp h3) h4 (get_map.mp h6) with ⟨i', c', p1, p2, p3, p4⟩ | ⟨b', p1, p2, p3⟩
      · have := S.dis i i' c c' a q2 q3 p2 p3 q4 p4
        subst this
        exact lent_inj nd q1 p1
      · exact absurd ⟨i, c, q2, q3, q4⟩ (f.no a (inA a p3))
    · rcases objs k y a (at_map.mp h3) h4 (get_map.mp h6) with ⟨i', c', p1, p2, p3, p4⟩ | ⟨b', p1, p2, p3⟩
      · exact absurd ⟨i', c', p2, p3, p4⟩ (f.no a (inA a q3))
      · exact P.uni f.nd j k b b' a q1 p1 q2 p2 (get_map.mp h5) (get_map.mp h6)
  · -- each slot behind the call
    have slot : ∀ i c', (backL ρ bs os).at i = some c' → ρ.at i = some c' ∧ (i ∈ lent bs → ∃ d, c' = .sh d) ∨ ∃ j c o, bs[j]? = some (.pl i) ∧ ρ.at i = some c ∧ c.obj.isSome = true ∧ os.at j = some (.io o) ∧ c' = c.put o := fun i c' e => by
      by_cases hm : i ∈ lent bs
      · obtain ⟨j, ej⟩ := mem_lent hm
        by_cases hu : ∃ u, os[j]? = some (some (.io u))
        · obtain ⟨u, eu⟩ := hu
          have hat : os.at j = some (.io u) := at_of_get eu
          obtain ⟨u0, h0⟩ := T.oi j u hat
          have h0 := at_map.mp h0
          obtain ⟨b, eb, hb⟩ := get j _ h0
          rw [ej] at eb; cases eb
          have hb : (match ρ.at i with | some (.sh d) => some (SB.sh d) | some (.ow o) => some (.io o) | some (.io o) => some (.io o) | none => none) = some (.io u0) := hb
          split at hb
          · cases hb
          · rename_i o ho
            rw [backL_io nd ej eu ho] at e
            cases e
            exact .inr ⟨j, _, u, ej, ho, rfl, hat, rfl⟩
          · rename_i o ho
            rw [backL_io nd ej eu ho] at e
            cases e
            exact .inr ⟨j, _, u, ej, ho, rfl, hat, rfl⟩
          · cases hb
        · have hu : ∀ u, os[j]? ≠ some (some (.io u)) := fun u z => hu ⟨u, z⟩
          rw [backL_no nd ej hu] at e
          refine .inl ⟨e, fun _ => ?_⟩
          -- the slot held data: else it had come back
          have jl : j < sbs.length := by
            have := (List.getElem?_eq_some_iff.mp ej).1
            omega
          obtain ⟨x, ex⟩ : ∃ x, sbs[j]? = some x := ⟨_, List.getElem?_eq_getElem jl⟩
          obtain ⟨b, eb, hb⟩ := get j x ex
          rw [ej] at eb; cases eb
          have io : ∀ o, x = .io o → False := fun o z => by
            subst z
            obtain ⟨⟨o', h'⟩, _⟩ := T.io j o (at_map.mpr ex)
            exact hu o' (get_of_at h').2
          have hb : (match ρ.at i with | some (.sh d) => some (SB.sh d) | some (.ow o) => some (.io o) | some (.io o) => some (.io o) | none => none) = some x := hb
          rw [e] at hb
          cases c' with
          | sh d => exact ⟨d, rfl⟩
          | ow o => cases hb; exact (io _ rfl).elim
          | io o => cases hb; exact (io _ rfl).elim
      · rw [backL_ne hm] at e
        exact .inl ⟨e, fun z => absurd z hm⟩
    have put_io : ∀ (c : SB) o u, c.put o = .io u → ∃ u', c = .io u' := fun c o u e => by cases c <;> cases e; exact ⟨_, rfl⟩
    have obj_put : ∀ (c : SB) o, (c.put o).obj.isSome = true → c.obj.isSome = true := fun c o h => by cases c <;> first | exact h | rfl
    have ownB : ∀ a, Owns σ (backL ρ bs os) a → Owns σ ρ a := fun a ⟨i, c, h1, h2, h3⟩ => by
      rcases slot i c h1 with ⟨e, _⟩ | ⟨j, c0, o, e1, e2, e3, e4, rfl⟩
      · exact ⟨i, c, e, h2, h3⟩
      · exact ⟨i, c0, e2, e3, h3⟩
    have nown0 : ∀ a, ¬ Owns σ ρ a → a ∉ A → ¬ Owns (vs.map some) (sbs.map some) a := fun a n m q => (own0 a q).elim n fun z => m (inA a z)
    -- where a lent slot's value stands
    have atj : ∀ (i j : Nat) (v : V), bs[j]? = some (B.pl i) → σ[i]? = some (some v) → vs[j]? = some v := fun i j v ej es => by
      have jl : j < vs.length := by
        have := (List.getElem?_eq_some_iff.mp ej).1
        omega
      obtain ⟨u, eu⟩ : ∃ u, vs[j]? = some u := ⟨_, List.getElem?_eq_getElem jl⟩
      obtain ⟨Aj, m, rb⟩ := P.oth j _ u ej eu rfl
      cases rb with
      | pl q =>
        rw [es] at q
        cases q
        exact eu
    refine ⟨⟨T1.sub.trans T.sub, fun a o e n m => T.keep a o e (nown0 a n m) (fun z => nomatch z), fun a e n m z => T.nofz a e (nown0 a n m) (fun z => nomatch z) ?_, T.there, fun a q => .inl (ownB a q), fun i o e => ⟨?_, rfl⟩, fun i o e => ?_⟩,
      ⟨S'.sub, by rw [backL_len]; exact S.len, fun i c e => ?_, fun i k b c a h1 h2 h3 h4 h5 h6 => ?_⟩, fun A3 fp nw => ⟨⟨fp.nd, fp.nf, fun a m q => ?_, fp.th⟩, fun a m => ?_⟩⟩
    · rw [addF_out fun q => m ((P.mem a).mpr (.inl q))]; exact z
    · -- lent stays lent
      by_cases hm : i ∈ lent bs
      · obtain ⟨j, ej⟩ := mem_lent hm
        by_cases hu : ∃ u, os[j]? = some (some (.io u))
        · obtain ⟨u, eu⟩ := hu
          exact ⟨u, by rw [backL_io nd ej eu e]; rfl⟩
        · exact ⟨o, by rw [backL_no nd ej fun u z => hu ⟨u, z⟩]; exact e⟩
      · exact ⟨o, by rw [backL_ne hm]; exact e⟩
    · rcases slot i _ e with ⟨e', _⟩ | ⟨j, c0, u, e1, e2, e3, e4, e5⟩
      · exact ⟨o, e'⟩
      · obtain ⟨u', rfl⟩ := put_io _ _ _ e5.symm
        exact ⟨u', e2⟩
    · rcases slot i c e with ⟨e', hs⟩ | ⟨j, c0, u, e1, e2, e3, e4, rfl⟩
      · obtain ⟨v, ev, rv⟩ := S1.sl i c e'
        refine ⟨v, ev, ?_⟩
        -- an object that was not lent
        have nol : ∀ a, v = .ref a → c.obj.isSome = true → ¬ Owns (vs.map some) (sbs.map some) a := fun a e1 oc ⟨j, x, h1, h2, h3⟩ => by
          subst e1
          rcases objs j x a (at_map.mp h1) h2 (get_map.mp h3) with ⟨i', c', q1, q2, q3, q4⟩ | ⟨b, q1, q2, q3⟩
          · have := S.dis i i' c c' a e' oc q2 q3 ev q4
            subst this
            obtain ⟨d, rfl⟩ := hs (lent_of q1)
            cases oc
          · exact f.no a (inA a q3) ⟨i, c, e', oc, ev⟩
        cases rv with
        | sh r => exact .sh (r.mono T.sub)
        | ow r g =>
          have n := nol _ rfl rfl
          obtain ⟨w, hw⟩ := r.some
          exact .ow (r.mono T.sub fun o z => T.keep _ o z n (fun z => nomatch z)) (T.nofz _ (by rw [hw]; simp) n (fun z => nomatch z) g)
        | io r g =>
          have n := nol _ rfl rfl
          obtain ⟨w, hw⟩ := r.some
          exact .io (r.mono T.sub fun o z => T.keep _ o z n (fun z => nomatch z)) (T.nofz _ (by rw [hw]; simp) n (fun z => nomatch z) g)
      · obtain ⟨v, ev, rv⟩ := S'.sl j _ e4
        cases rv with
        | io r g =>
          rename_i a
          obtain ⟨v0, ev0, rv0⟩ := S.sl i c0 e2
          have := atj i j v0 e1 ev0
          have ev := get_map.mp ev
          rw [this] at ev
          cases ev
          refine ⟨_, ev0, ?_⟩
          cases c0 with
          | sh d => cases e3
          | ow o0 => exact .ow r g
          | io o0 => exact .io r g
    · have up : ∀ i b, (backL ρ bs os).at i = some b → b.obj.isSome = true → ∃ b0, ρ.at i = some b0 ∧ b0.obj.isSome = true := fun i b e ob => by
        rcases slot i b e with ⟨e', _⟩ | ⟨j, c0, u, e1, e2, e3, e4, rfl⟩
        · exact ⟨b, e', ob⟩
        · exact ⟨c0, e2, e3⟩
      obtain ⟨b0, q1, q2⟩ := up i b h1 h2
      obtain ⟨c0, q3, q4⟩ := up k c h3 h4
      exact S.dis i k b0 c0 a q1 q2 q3 q4 h5 h6
    · rcases nw a m with z | z | z
      · obtain ⟨j, x, h1, h2, h3⟩ := z
        have ex := at_map.mp h1
        obtain ⟨b, eb, hb⟩ := get j x ex
        rcases handB_io hb with ⟨d, rfl⟩ | ⟨o, rfl⟩
        · cases h2
        · obtain ⟨⟨o', h'⟩, _⟩ := T.io j o h1
          exact fp.no a m ⟨j, _, h', rfl, h3⟩
      · exact nomatch z
      · exact S.own_some (ownB a q) z
    · rcases nw a m with z | z | z
      · exact (own0 a z).imp id fun q => .inl (inA a q)
      · exact nomatch z
      · exact .inr (.inr z)
end

/-! ### a def's promise -/
def FSp (C : Cs) (f : Fn) : Sp := fun vs H Q E => ∃ F sbs r os, f sbs = some (r, os) ∧ Stt C F H (vs.map some) (sbs.map some) ∧
  match r with
  | .ok b => ∀ v A F' H', Tr [] (vs.map some) F H (sbs.map some) (vs.map some) F' H' os → Stt C F' H' (vs.map some) os → noPl b = true → RB C (vs.map some) F' H' v b A → Fp (vs.map some) F' H' os A → New [] (vs.map some) H (sbs.map some) A → Q v H'
  | .exc c p => ∀ cls d F' H', Tr [] (vs.map some) F H (sbs.map some) (vs.map some) F' H' os → Stt C F' H' (vs.map some) os → REx C F' c p cls d H' → E cls d H'
section
variable {cl : Nat → Addr} {X : Cx} {C : Cs} {σ : St} {F H : Hp} {ρ : Env} {A A0 : List Addr} {W : WX} {Q : VK}
theorem call_sp {f : Fn} {args : M (List B)} (h : tM C RlB W (mCall f args) σ H Q) : tM C RlL W args σ H fun vs H1 => FSp C f vs H1 Q (WE W σ) := by
  obtain ⟨F, ρ, S, h⟩ := h
  refine tM_bind (R1 := RlL) S h fun vs bs A F1 H1 ρ1 T1 S1 r1 f1 n1 h1 => ?_
  obtain ⟨r, ρ', e, h1⟩ := h1
  unfold callF at e
  split at e
  · rename_i nd
    split at e
    · cases e
    · rename_i sbs hl
      split at e
      · cases e
      · rename_i r' os hf
        cases e
        obtain ⟨F2, S2, back⟩ := hand_over S1 r1 f1 nd hl
        refine ⟨F2, sbs, r, os, hf, S2, ?_⟩
        cases r with
        | ok b =>
          intro v A2 F' H' T S' np rb fp nw
          obtain ⟨tr, st, new⟩ := back F' H' os T S'
          obtain ⟨fp', nw'⟩ := new A2 fp nw
          exact h1 v A2 F' H' (tr.hand fun a m => by simpa using m) st (rb.chg np) fp' fun a m => (nw' a m).imp id fun z => z.imp (fun z => by simpa using z) id
        | exc c p =>
          intro cls d F' H' T S' x
          obtain ⟨tr, st, new⟩ := back F' H' os T S'
          exact h1 cls d F' H' (tr.hand fun a m => by simpa using m) st x
  · cases e
/-- f(e, ..) -/
theorem sim_call {f : Fn} {fa : Addr} {fd : FuncData} {k : Nat} {ps : List Str} {x : Str} {p pos : Pos} {e : Expr} {es : List Expr} {args : M (List B)} (F : FnOk X.prog X.w X.K X.mg X.base (L2.CX X.prog X.w) k fa fd ps (FSp (cs cl X) f)) (hr : Room k X.A) (hm : X.mg x = some (.ref fa))
    (hk : PySem.W.keepIn X.K (.ref fa) = true) (hb : Binds X.K fd ps []) (ha : SimA cl X (e :: es) args) (hg : Gl X x) (hdb : (x == ("__debug__" : Str)) = false) (he : starEach (e :: es) X.env = (false, eval e X.env) :: starEach es X.env)
    (hpl : (backTo pos (starEach es X.env)).any (·.1) = false) : SimE cl X (.Call (.Name x p) (e :: es) [] pos) (mCall f args) := fun W tk =>
  PE.imp (pe_callS F hr hg hm hk hb (fun σ => passAt tk σ) (ha W tk) hdb he hpl) fun σ H Q h => call_sp h
/-! ### a def, from its body -/
theorem start_map {N : List Str} {vs : List V} {j : Nat} {v : V} (h : (vs.map some : St)[j]? = some (some v)) : (start N vs)[j]? = some (some v) := by
  unfold L2.start
  rw [List.getElem?_append_left (List.getElem?_eq_some_iff.mp h).1]
  exact h
theorem start_rev {N : List Str} {vs : List V} {j : Nat} {v : V} (h : (start N vs)[j]? = some (some v)) : (vs.map some : St)[j]? = some (some v) := by
  unfold L2.start at h
  by_cases hl : j < (vs.map some : St).length
  · rw [List.getElem?_append_left hl] at h; exact h
  · rw [List.getElem?_append_right (by omega)] at h
    have := List.mem_replicate.mp (List.mem_of_getElem? h)
    cases this.2
theorem pad_at {sbs : List SB} {n j : Nat} {b : SB} : Env.at (sbs.map some ++ List.replicate n none) j = some b ↔ Env.at (sbs.map some) j = some b := by
  show (sbs.map some ++ List.replicate n none).getD j none = some b ↔ (sbs.map some).getD j none = some b
  rw [List.getD_eq_getElem?_getD, List.getD_eq_getElem?_getD]
  by_cases hl : j < (sbs.map (some : SB → Option SB)).length
  · rw [List.getElem?_append_left hl]
  · rw [List.getElem?_append_right (by omega), List.getElem?_eq_none (by omega : (sbs.map some).length ≤ j)]
    cases e : (List.replicate n (none : Option SB))[j - (sbs.map some).length]? with
    | none => exact Iff.rfl
    | some u =>
      have := (List.mem_replicate.mp (List.mem_of_getElem? e)).2
      subst this
      exact Iff.rfl
theorem outs_at {np j : Nat} {b : SB} {ρ : Env} : (outs np ρ).at j = some b ↔ j < np ∧ ∃ o, b = .io o ∧ ρ.at j = some (.io o) := by
  unfold outs
  show List.getD _ j none = some b ↔ _
  rw [List.getD_eq_getElem?_getD, List.getElem?_map]
  by_cases hj : j < np
  · rw [List.getElem?_range hj]
    rw [Option.map_some, Option.getD_some]
    generalize ρ.at j = u
    cases u with
    | none => exact ⟨fun h => (nomatch h), fun ⟨_, o, _, h⟩ => (nomatch h)⟩
    | some c =>
      cases c with
      | sh d => exact ⟨fun h => (nomatch h), fun ⟨_, o, _, h⟩ => (nomatch h)⟩
      | ow o => exact ⟨fun h => (nomatch h), fun ⟨_, o, _, h⟩ => (nomatch h)⟩
      | io o => exact ⟨fun h => by cases h; exact ⟨hj, _, rfl, rfl⟩, fun ⟨_, o', e, h⟩ => by cases h; rw [e]⟩
  · rw [List.getElem?_eq_none (by simp; omega)]
    simp [hj]
theorem fn_spec {np n : Nat} {N : List Str} {body : S} {vs : List V} {E : XK} (hN : N.length = n) (hnp : np ≤ n) (h : FSp C (mkFn np n body) vs H Q E) : vs.length = np ∧ tS C (fun cls d _ H' => E cls d H') body { nx := fun _ H' => Q .non H', rt := Q } (start N vs) H := by
  obtain ⟨F, sbs, r, os, hf, S, h⟩ := h
  have hl : sbs.length = vs.length := by simpa using S.len
  unfold mkFn at hf
  split at hf
  rotate_left
  · cases hf
  rename_i hnp'
  have hv : vs.length = np := by rw [← hl]; exact hnp'
  refine ⟨hv, F, sbs.map some ++ List.replicate (n - np) none, ?_, ?_⟩
  · refine ⟨S.sub, ?_, fun i b e => ?_, fun i k b c a h1 h2 h3 h4 h5 h6 => ?_⟩
    · unfold L2.start
      simp [hl, hv, hN]
    · obtain ⟨v, e1, r1⟩ := S.sl i b (pad_at.mp e)
      exact ⟨v, start_map e1, r1⟩
    · exact S.dis i k b c a (pad_at.mp h1) h2 (pad_at.mp h3) h4 (start_rev h5) (start_rev h6)
  · have own_up : ∀ a, Owns (start N vs) (sbs.map some ++ List.replicate (n - np) none) a ↔ Owns (vs.map some) (sbs.map some) a := fun a =>
      ⟨fun ⟨i, b, h1, h2, h3⟩ => ⟨i, b, pad_at.mp h1, h2, start_rev h3⟩, fun ⟨i, b, h1, h2, h3⟩ => ⟨i, b, pad_at.mpr h1, h2, start_map h3⟩⟩
    -- what the caller sees
    have seen : ∀ σ' F' H' ρ', Tr [] (start N vs) F H (sbs.map some ++ List.replicate (n - np) none) σ' F' H' ρ' → Stt C F' H' σ' ρ' →
        Tr [] (vs.map some) F H (sbs.map some) (vs.map some) F' H' (outs np ρ') ∧ Stt C F' H' (vs.map some) (outs np ρ') ∧ ∀ A, Fp σ' F' H' ρ' A → New [] (start N vs) H (sbs.map some ++ List.replicate (n - np) none) A → Fp (vs.map some) F' H' (outs np ρ') A ∧ New [] (vs.map some) H (sbs.map some) A := fun σ' F' H' ρ' T S' => by
      have len' : (outs np ρ').length = (vs.map some : St).length := by
        unfold outs
        simp [hv]
      -- a parameter that is lent
      have lentIn : ∀ j o, (outs np ρ').at j = some (.io o) → ρ'.at j = some (.io o) ∧ ∃ o0, Env.at (sbs.map some) j = some (.io o0) ∧ σ'[j]? = (vs.map some : St)[j]? := fun j o e => by
        obtain ⟨hj, o', e1, e2⟩ := outs_at.mp e
        cases e1
        obtain ⟨o0, h0⟩ := T.oi j o e2
        obtain ⟨_, h1⟩ := T.io j o0 h0
        refine ⟨e2, o0, pad_at.mp h0, h1.trans ?_⟩
        unfold L2.start
        rw [List.getElem?_append_left (by simp; omega)]
      have isio : ∀ j b, (outs np ρ').at j = some b → ∃ o, b = .io o := fun j b e => let ⟨_, o, e1, _⟩ := outs_at.mp e; ⟨o, e1⟩
      have ownO : ∀ a, Owns (vs.map some) (outs np ρ') a → Owns σ' ρ' a ∧ Owns (vs.map some) (sbs.map some) a := fun a ⟨j, b, h1, h2, h3⟩ => by
        obtain ⟨o, rfl⟩ := isio j b h1
        obtain ⟨e2, o0, e3, e4⟩ := lentIn j o h1
        exact ⟨⟨j, _, e2, rfl, e4.trans h3⟩, j, _, e3, rfl, h3⟩
      have nw0 : ∀ a, ¬ Owns (vs.map some) (sbs.map some) a → ¬ Owns (L2.start N vs) (sbs.map some ++ List.replicate (n - np) none) a := fun a n q => n ((own_up a).mp q)
      refine ⟨⟨T.sub, fun a o e n1 _ => T.keep a o e (nw0 a n1) (fun z => nomatch z), fun a e n1 _ z => T.nofz a e (nw0 a n1) (fun z => nomatch z) z, T.there, fun a q => .inl (ownO a q).2, fun j o e => ⟨?_, rfl⟩, fun j o e => ?_⟩,
        ⟨S'.sub, len', fun j b e => ?_, fun i k b c a h1 h2 h3 h4 h5 h6 => ?_⟩, fun A fp nw => ⟨⟨fp.nd, fp.nf, fun a m q => fp.no a m (ownO a q).1, fp.th⟩, fun a m => (nw a m).imp (own_up a).mp id⟩⟩
      · obtain ⟨⟨o', h'⟩, _⟩ := T.io j o (pad_at.mpr e)
        refine ⟨o', outs_at.mpr ⟨?_, o', rfl, h'⟩⟩
        have := (List.getElem?_eq_some_iff.mp (at_map.mp e)).1
        omega
      · obtain ⟨_, o0, e3, _⟩ := lentIn j o e
        exact ⟨o0, e3⟩
      · obtain ⟨o, rfl⟩ := isio j b e
        obtain ⟨e2, o0, e3, e4⟩ := lentIn j o e
        obtain ⟨v, h1, h2⟩ := S'.sl j _ e2
        exact ⟨v, by rw [← e4]; exact h1, h2⟩
      · obtain ⟨o, rfl⟩ := isio i b h1
        obtain ⟨o', rfl⟩ := isio k c h3
        obtain ⟨e2, _, _, e4⟩ := lentIn i o h1
        obtain ⟨p2, _, _, p4⟩ := lentIn k o' h3
        exact S'.dis i k _ _ a e2 rfl p2 rfl (e4.trans h5) (p4.trans h6)
    unfold tSR
    split at hf
    · cases hf
    · rename_i b ρ' hb
      cases hf
      refine ⟨_, _, hb, fun v A σ' F' H' T S' np rb fp nw => ?_⟩
      obtain ⟨t1, s1, x⟩ := seen σ' F' H' ρ' T S'
      obtain ⟨f1, n1⟩ := x A fp nw
      exact h v A F' H' t1 s1 np (rb.chg np) f1 n1
    · rename_i ρ' hb
      cases hf
      refine ⟨_, _, hb, fun σ' F' H' T S' => ?_⟩
      obtain ⟨t1, s1, x⟩ := seen σ' F' H' ρ' T S'
      exact h .non [] F' H' t1 s1 rfl (.sh .non) Fp.nil New.nil
    · cases hf
    · rename_i c p ρ' hb
      cases hf
      refine ⟨_, _, hb, fun cls d σ' F' H' T S' x => ?_⟩
      obtain ⟨t1, s1, _⟩ := seen σ' F' H' ρ' T S'
      exact h cls d F' H' t1 s1 x
/-- a def that may raise, its body done -/
theorem fn_ok {P : Program} {w : World} {K : PySem.W.Frag} {mg : Str → Option Value} {base : Heap} {x qual : Str} {st : Stmt} {f : Addr} {fd : FuncData} {N ps : List Str} {k np n : Nat} {body : S} (cl : Nat → Addr) (Fu : Fun K x qual st f fd) (Sc : FnScope N ps (defScope st)) (hN : N.length = n) (hps : ps.length = np) (hnp : np ≤ n)
    (hb : ∀ (cdv : Value) (A : Around) (outer : List PySem.Env) (s : Shared) (H : Hp) (E : XK), Room k (A.deeper (envOfC qual (defScope st) s.heap.objs.size f cdv)) → SimB cl (cxOf (L2.CX P w) P w K mg base N qual (defScope st) f cdv A outer s H E) (defBody st) body) :
    FnOk P w K mg base (L2.CX P w) (k + 1) f fd ps (FSp ⟨P, w, K, cl⟩ (mkFn np n body)) := by
  refine Fu.okX Sc (fun vs H Q E h => ?_) (fun cdv A outer s H vs Q E hr h => ⟨_, hb cdv A outer s H E hr (fun cls d _ H => E cls d H) (takes_of rfl rfl rfl rfl), ?_⟩)
  · rw [hps]; exact (fn_spec (N := N) hN hnp h).1
  · exact (fn_spec (N := N) hN hnp h).2
end
end WF

set_option Elab.async false
set_option linter.all false
set_option maxRecDepth 100000
set_option maxHeartbeats 4000000
/-! WFL: what is walked; targets; for, while; comprehensions. -/
namespace WF
open PySem PySem.Spec PyProof.Rows L2

/-- J brings the data ds, one by one, while F stands -/
structure Gives (C : Cs) (F : Hp) (J : It) (ds : List D) : Prop where
  goes : ∀ i H, i < ds.length → Sub F H → J.go i H
  stops : ∀ H, Sub F H → J.stop ds.length H
  yields : ∀ i H v H', i < ds.length → Sub F H → J.yld i H v H' → ∃ d, ds[i]? = some d ∧ ((H' = H ∧ Rep C F v d) ∨ ∃ (T : Addr) (xs : List V) (es : List D), v = .ref T ∧ H T = none ∧ H' = upd H T (.tup xs) ∧ d = .tup es ∧ Reps C F xs es)
abbrev RlI : Rl It (List D) := ⟨fun C _ F _ J ds A => Gives C F J ds ∧ A = []⟩
section
variable (cl : Nat → Addr) (X : Cx)
def SimI (tg iter : Expr) (m : M (List D)) : Prop := ∀ W, Takes X W → PI X tg iter (tM (cs cl X) RlI W m)
end
theorem PI.imp {X : Cx} {tg e : Expr} {t t' : TI} (h : PI X tg e t) (i : ∀ σ H R, t' σ H R → t σ H R) : PI X tg e t' := ⟨fun pins s σ H R I q => h.run pins s σ H R I (i σ H R q)⟩
section
variable {cl : Nat → Addr} {X : Cx} {C : Cs} {σ : St} {F H F1 : Hp} {ρ ρ1 : Env} {A A0 : List Addr} {W : WX}
/-- what J brings at turn i, shared -/
theorem Gives.take {J : It} {ds : List D} (g : Gives C F1 J ds) {i : Nat} {v : V} {H' : Hp} (hi : i < ds.length) (S : Stt C F H σ ρ) (s : Sub F1 F) (y : J.yld i H v H') :
    ∃ d F', ds[i]? = some d ∧ Stt C F' H' σ ρ ∧ Tr [] σ F H ρ σ F' H' ρ ∧ Rep C F' v d := by
  obtain ⟨d, ed, q⟩ := g.yields i H v H' hi (s.trans S.sub) y
  rcases q with ⟨rfl, r⟩ | ⟨T, xs, es, rfl, hT, rfl, rfl, r⟩
  · exact ⟨d, F, ed, S, Tr.refl, r.mono s⟩
  · obtain ⟨S1, T1⟩ := new_sh (o := .tup xs) S hT
    exact ⟨_, _, ed, S1, T1, .tup (.inl (.inl upd_same)) ((r.mono s).mono T1.sub)⟩
/-! ### lists, tuples -/
theorem len_idx {α : Type} {xs : List α} {n i : Nat} (h : xs.length = n) (hi : i < n) : ∃ x, xs[i]? = some x := ⟨_, List.getElem?_eq_getElem (by omega)⟩
theorem reps_idx {F : Hp} : ∀ {xs : List V} {ds : List D}, Reps C F xs ds → ∀ {j : Nat} {v : V}, xs[j]? = some v → ∃ d, ds[j]? = some d ∧ Rep C F v d
  | _, _, .nil, _, _, e => by simp at e
  | _, _, .cons r t, 0, _, e => by simp at e; subst e; exact ⟨_, rfl, r⟩
  | _, _, .cons r t, j + 1, _, e => by
    obtain ⟨d, h1, h2⟩ := reps_idx t (j := j) (by simpa using e)
    exact ⟨d, by simpa using h1, h2⟩
theorem gives_list {a : Addr} {xs : List V} {ds : List D} (h : SqL C.K F a xs) (r : Reps C F xs ds) : Gives C F (Itl C.K a) ds := by
  have hl := r.length
  refine ⟨fun i H hi s => ?_, fun H s => ?_, fun i H v H' hi s y => ?_⟩
  · obtain ⟨x, ex⟩ := len_idx hl hi
    exact ⟨xs, x, s.sqL h, ex⟩
  · exact ⟨xs, s.sqL h, by omega⟩
  · obtain ⟨rfl, q⟩ := y
    obtain ⟨d, e1, e2⟩ := reps_idx r (q xs (s.sqL h))
    exact ⟨d, e1, .inl ⟨rfl, e2⟩⟩
theorem gives_tup {a : Addr} {xs : List V} {ds : List D} (h : SqT C.K F a xs) (r : Reps C F xs ds) : Gives C F (Itt C.K a) ds := by
  have hl := r.length
  refine ⟨fun i H hi s => ?_, fun H s => ?_, fun i H v H' hi s y => ?_⟩
  · obtain ⟨x, ex⟩ := len_idx hl hi
    exact ⟨xs, x, s.sqT h, ex⟩
  · exact ⟨xs, s.sqT h, by omega⟩
  · obtain ⟨rfl, q⟩ := y
    obtain ⟨d, e1, e2⟩ := reps_idx r (q xs (s.sqT h))
    exact ⟨d, e1, .inl ⟨rfl, e2⟩⟩
theorem iter_l {pins : List (Addr × Obj)} {s : Shared} {tg : Expr} {E : Value → Shared → Prop} {R : It → Hp → Prop} {a : Addr} {xs : List V} (I : Inv X pins σ H s) (h : SqL X.K H a xs) (q : R (Itl X.K a) H) : wpAny (model X.prog X.w) X.A (pyIter (.ref a)) (PIE X pins σ tg R) E s := by
  obtain ⟨us, ru, is, _⟩ := I.list h
  refine wpAny_pyIter_list is.isList ⟨s.heap.objs.size, [s.heap.objs.size], _, _, H, rfl, I.kept (t' := s.toks) fun _ _ z => Heap.get?_push_of_some _ z, turn_list a _, ?_, fun c m => ?_, q⟩
  · exact ⟨_, Heap.get?_push_size _ rfl, rfl, rfl⟩
  · rw [List.mem_singleton.mp m]
    exact I.fpOk (Nat.le_refl _) (I.hok.fresh (Nat.le_refl _))
theorem iter_t {pins : List (Addr × Obj)} {s : Shared} {tg : Expr} {E : Value → Shared → Prop} {R : It → Hp → Prop} {a : Addr} {xs : List V} (I : Inv X pins σ H s) (h : SqT X.K H a xs) (q : R (Itt X.K a) H) : wpAny (model X.prog X.w) X.A (pyIter (.ref a)) (PIE X pins σ tg R) E s := by
  obtain ⟨us, ru, is, _⟩ := I.tuple h
  refine wpAny_pyIter_tuple (show s.heap.IsTuple a us.toArray from is) ⟨s.heap.objs.size, [s.heap.objs.size], _, _, H, rfl, I.kept (t' := s.toks) fun _ _ z => Heap.get?_push_of_some _ z, turn_tuple a _, ?_, fun c m => ?_, q⟩
  · exact ⟨_, Heap.get?_push_size _ rfl, rfl, rfl⟩
  · rw [List.mem_singleton.mp m]
    exact I.fpOk (Nat.le_refl _) (I.hok.fresh (Nat.le_refl _))
/-- a list or a tuple, walked -/
def rIt (K : PySem.W.Frag) (x : V) (H : Hp) (R : It → Hp → Prop) : Prop := ∃ a, x = .ref a ∧ ((∃ xs, SqL K H a xs) ∧ R (Itl K a) H ∨ (∃ xs, SqT K H a xs) ∧ R (Itt K a) H)
theorem pi_lt {tg l : Expr} {tl : TE} (hl : PE X l tl) : PI X tg l (fun σ H R => tl σ H fun x H1 => rIt X.K x H1 R) := ⟨fun pins s σ H R I h =>
  thn (hl.run pins s σ H _ I h) fun v s1 ⟨x, H1, I1, r1, a, e, q⟩ => by
    subst e
    cases r1
    rcases q with ⟨⟨xs, g⟩, q⟩ | ⟨⟨xs, g⟩, q⟩
    · exact iter_l I1 g q
    · exact iter_t I1 g q⟩
theorem kept1 {α β : Type} {R : Rl β α} {Q : β → Hp → Prop} {x : V} {b : B} {k : List D → M α} (S : Stt C F H σ ρ) (r : RB C σ F H x b A) (f : Fp σ F H ρ A) (h : tR C R W (A0 ++ A) F ρ (bind (kept [b]) k) σ H Q) :
    ∃ d F1, Stt C F1 H σ ρ ∧ Rep C F1 x d ∧ Sub F F1 ∧ tR C R W A0 F1 ρ (k [d]) σ H Q := by
  have rs : RBs C σ F H [x] [b] (A ++ []) := .cons r .nil
  obtain ⟨ds, F1, e, n, S1, rd, sb, h1⟩ := tR_kept S rs (by rw [List.append_nil]; exact f) (by rw [List.append_nil]; exact h)
  cases rd with
  | cons r1 t => cases t; exact ⟨_, F1, S1, r1, sb, h1⟩
theorem sim_items {tg l : Expr} {m : M B} (ha : SimE cl X l m) : SimI cl X tg l (items m) := fun W tk => PI.imp (pi_lt (ha W tk)) fun σ H R ⟨F, ρ, S, h⟩ =>
  tM_bind (R1 := RlB) S h fun x b A F1 H1 ρ1 T1 S1 r1 f1 n1 h1 => by
    obtain ⟨d, F2, S2, rd, sb, h2⟩ := kept1 S1 r1 f1 h1
    obtain ⟨ds, e, q⟩ := tR_end h2
    unfold dItems at e
    split at e
    · cases e
      cases rd with
      | tup g r => exact ⟨_, rfl, .inr ⟨⟨_, S2.sub.sqT g⟩, q _ [] F2 H1 Tr.refl S2 ⟨gives_tup g r, rfl⟩ Fp.nil New.nil⟩⟩
    · cases e
      cases rd with
      | lst g r => exact ⟨_, rfl, .inl ⟨⟨_, S2.sub.sqL g⟩, q _ [] F2 H1 Tr.refl S2 ⟨gives_list g r, rfl⟩ Fp.nil New.nil⟩⟩
    · cases e
/-! ### range -/
theorem gives_range {F : Hp} (lo : Int) (n : Nat) : Gives C F (Itr lo n) ((List.range n).map fun (i : Nat) => D.int (lo + i)) := by
  refine ⟨fun i H hi _ => ?_, fun H _ => ?_, fun i H v H' hi _ y => ?_⟩
  · show i < n
    simpa using hi
  · show n ≤ _
    simp
  · obtain ⟨rfl, rfl⟩ := y
    have hi : i < n := by simpa using hi
    exact ⟨.int (lo + i), by simp [hi], .inl ⟨rfl, .int _⟩⟩
theorem upto_eq (n : Nat) : upto n = (List.range n).map fun (i : Nat) => D.int (0 + i) := by
  unfold upto
  simp
theorem dec_and {p q : Prop} [Decidable p] [Decidable q] (h : (decide p && decide q) = true) : p ∧ q := by
  rw [Bool.and_eq_true] at h
  exact ⟨of_decide_eq_true h.1, of_decide_eq_true h.2⟩
theorem sim_range {tg a : Expr} {p pos : Pos} {m : M B} (b : Bn X "range") (ha : SimE cl X a m) (hs : starEach [a] X.env = [(false, eval a X.env)]) (he : starEach [a] X.env = (false, eval a X.env) :: starEach [] X.env) : SimI cl X tg (.Call (.Name "range" p) [a] [] pos) (itRange m) :=
  fun W tk => PI.imp (pi_range1 b.gl b.mg (pa_cons (ha W tk) pa_nil he) hs) fun σ H R ⟨F, ρ, S, h⟩ => one_bind S h fun x d F2 H2 ρ2 S2 v q => by
    cases d with
    | int n =>
      obtain ⟨hc, q⟩ := tR_if q
      obtain ⟨h1, h2⟩ := dec_and hc
      refine ⟨n, by rw [v.int], h2, h1, tR_ret q _ [] F2 H2 Tr.refl S2 ⟨?_, rfl⟩ Fp.nil New.nil⟩
      rw [upto_eq]
      exact gives_range 0 n.toNat
    | _ => exact tR_stuck q
theorem sim_range2 {tg a c : Expr} {p pos : Pos} {m mc : M B} (b : Bn X "range") (ha : SimE cl X a m) (hc : SimE cl X c mc) (hs : starEach [a, c] X.env = [(false, eval a X.env), (false, eval c X.env)]) (hs2 : starEach [c] X.env = [(false, eval c X.env)])
    (he : starEach [a, c] X.env = (false, eval a X.env) :: starEach [c] X.env) (he2 : starEach [c] X.env = (false, eval c X.env) :: starEach [] X.env) : SimI cl X tg (.Call (.Name "range" p) [a, c] [] pos) (itRange2 m mc) :=
  fun W tk => PI.imp (pi_range2 b.gl b.mg (pa_cons (ha W tk) (pa_cons (hc W tk) pa_nil he2) he) hs hs2) fun σ H R ⟨F, ρ, S, h⟩ => two_bind S h fun x y d e F2 H2 ρ2 S2 v w q => by
    cases d with
    | int l =>
      cases e with
      | int n =>
        obtain ⟨hc, q⟩ := tR_if q
        rw [Bool.and_eq_true, Bool.and_eq_true, Bool.and_eq_true] at hc
        have h1 := of_decide_eq_true hc.1.1.1
        have h2 := of_decide_eq_true hc.1.1.2
        have h3 := of_decide_eq_true hc.1.2
        have h4 := of_decide_eq_true hc.2
        exact ⟨l, n, by rw [v.int, w.int], ⟨h4, h3, h2, h1⟩, tR_ret q _ [] F2 H2 Tr.refl S2 ⟨gives_range l _, rfl⟩ Fp.nil New.nil⟩
      | _ => exact tR_stuck q
    | _ => exact tR_stuck q
/-! ### zip -/
theorem zipD_len : ∀ (xs ys : List D), (zipD xs ys).length = min xs.length ys.length
  | [], ys => by simp [zipD]
  | _ :: _, [] => by simp [zipD]
  | x :: xs, y :: ys => by simp [zipD, zipD_len xs ys]
theorem zipD_get : ∀ {xs ys : List D} {i : Nat} {x y : D}, xs[i]? = some x → ys[i]? = some y → (zipD xs ys)[i]? = some (.tup [x, y])
  | [], _, _, _, _, e, _ => by simp at e
  | _ :: _, [], _, _, _, _, e => by simp at e
  | a :: xs, b :: ys, 0, x, y, e1, e2 => by simp at e1 e2; subst e1; subst e2; rfl
  | a :: xs, b :: ys, i + 1, x, y, e1, e2 => zipD_get (xs := xs) (ys := ys) (i := i) (by simpa using e1) (by simpa using e2)
theorem gives_zip {F : Hp} {a b : Addr} {xs ys : List V} {ds es : List D} (h1 : SqL C.K F a xs) (h2 : SqL C.K F b ys) (r1 : Reps C F xs ds) (r2 : Reps C F ys es) : Gives C F (Itz C.K a b) (zipD ds es) := by
  have l1 := r1.length
  have l2 := r2.length
  refine ⟨fun i H hi s => ?_, fun H s => ?_, fun i H v H' hi s y => ?_⟩
  · rw [zipD_len] at hi
    obtain ⟨x, ex⟩ := len_idx (i := i) l1 (by omega)
    obtain ⟨z, ez⟩ := len_idx (i := i) l2 (by omega)
    exact ⟨xs, ys, x, z, s.sqL h1, s.sqL h2, ex, ez⟩
  · rw [zipD_len]
    exact ⟨xs, ys, s.sqL h1, s.sqL h2, by omega⟩
  · obtain ⟨T, x, z, e1, e2, e3, e4, e5⟩ := y
    obtain ⟨d, p1, p2⟩ := reps_idx r1 (e4 xs (s.sqL h1))
    obtain ⟨e, p3, p4⟩ := reps_idx r2 (e5 ys (s.sqL h2))
    exact ⟨_, zipD_get p1 p3, .inr ⟨T, [x, z], [d, e], e1, e2, e3, rfl, .cons p2 (.cons p4 .nil)⟩⟩
theorem gives_zipT {F : Hp} {a b : Addr} {xs ys : List V} {ds es : List D} (h1 : SqT C.K F a xs) (h2 : SqT C.K F b ys) (r1 : Reps C F xs ds) (r2 : Reps C F ys es) : Gives C F (RZ.ItzT C.K a b) (zipD ds es) := by
  have l1 := r1.length
  have l2 := r2.length
  refine ⟨fun i H hi s => ?_, fun H s => ?_, fun i H v H' hi s y => ?_⟩
  · rw [zipD_len] at hi
    obtain ⟨x, ex⟩ := len_idx (i := i) l1 (by omega)
    obtain ⟨z, ez⟩ := len_idx (i := i) l2 (by omega)
    exact ⟨xs, ys, x, z, s.sqT h1, s.sqT h2, ex, ez⟩
  · rw [zipD_len]
    exact ⟨xs, ys, s.sqT h1, s.sqT h2, by omega⟩
  · obtain ⟨T, x, z, e1, e2, e3, e4, e5⟩ := y
    obtain ⟨d, p1, p2⟩ := reps_idx r1 (e4 xs (s.sqT h1))
    obtain ⟨e, p3, p4⟩ := reps_idx r2 (e5 ys (s.sqT h2))
    exact ⟨_, zipD_get p1 p3, .inr ⟨T, [x, z], [d, e], e1, e2, e3, rfl, .cons p2 (.cons p4 .nil)⟩⟩
theorem kept2 {α β : Type} {R : Rl β α} {Q : β → Hp → Prop} {x y : V} {b c : B} {A' : List Addr} {k : List D → M α} (S : Stt C F H σ ρ) (r : RB C σ F H x b A) (r' : RB C σ F H y c A') (f : Fp σ F H ρ (A ++ A')) (h : tR C R W (A0 ++ (A ++ A')) F ρ (bind (kept [b, c]) k) σ H Q) :
    ∃ d e F1, Stt C F1 H σ ρ ∧ Rep C F1 x d ∧ Rep C F1 y e ∧ Sub F F1 ∧ tR C R W A0 F1 ρ (k [d, e]) σ H Q := by
  have rs : RBs C σ F H [x, y] [b, c] (A ++ (A' ++ [])) := .cons r (.cons r' .nil)
  obtain ⟨ds, F1, e, n, S1, rd, sb, h1⟩ := tR_kept S rs (by rw [List.append_nil]; exact f) (by rw [List.append_nil]; exact h)
  cases rd with
  | cons r1 t =>
    cases t with
    | cons r2 t => cases t; exact ⟨_, _, F1, S1, r1, r2, sb, h1⟩
theorem sim_zip {elts : List Expr} {kk : Nat} {tpos : Pos} {a c : Expr} {p pos : Pos} {m mc : M B} (b : Bn X "zip") (ha : SimE cl X a m) (hc : SimE cl X c mc) (hs : starEach [a, c] X.env = (false, eval a X.env) :: starEach [c] X.env) (he2 : starEach [c] X.env = (false, eval c X.env) :: starEach [] X.env)
    (hpl : (backTo pos (starEach [c] X.env)).any (·.1) = false) : SimI cl X (.Tuple elts kk tpos) (.Call (.Name "zip" p) [a, c] [] pos) (itZip m mc) :=
  fun W tk => PI.imp (RZ.pi_zipA b.gl b.mg (pa_cons (ha W tk) (pa_cons (hc W tk) pa_nil he2) hs) hs hpl) fun σ H R ⟨F, ρ, S, h⟩ => by
    refine tM_bind (R1 := RlB) S h fun x b A F1 H1 ρ1 T1 S1 r1 f1 n1 h1 => ?_
    refine tM_bind (R1 := RlB) S1 h1 fun y c A' F2 H2 ρ2 T2 S2 r2 f2 n2 h2 => ?_
    rw [List.append_assoc] at h2
    obtain ⟨d, e, F3, S3, rd, re, sb, h3⟩ := kept2 S2 (r1.mono (F' := F2) (H' := H2) T2.sub fun z m => f1.keep T2 m) r2 (f1.append T2 f2 n2) h2
    obtain ⟨zs, ez, q⟩ := tR_end h3
    unfold iZip2 at ez
    split at ez
    · cases ez
      cases rd with
      | tup g1 q1 => cases re with | tup g2 q2 => exact ⟨_, _, _, _, rfl, .inr ⟨S3.sub.sqT g1, S3.sub.sqT g2, q _ [] F3 H2 Tr.refl S3 ⟨gives_zipT g1 g2 q1 q2, rfl⟩ Fp.nil New.nil⟩⟩
    · cases ez
      cases rd with
      | lst g1 q1 => cases re with | lst g2 q2 => exact ⟨_, _, _, _, rfl, .inl ⟨S3.sub.sqL g1, S3.sub.sqL g2, q _ [] F3 H2 Tr.refl S3 ⟨gives_zip g1 g2 q1 q2, rfl⟩ Fp.nil New.nil⟩⟩
    · cases ez

/-! ### targets -/
structure SimG (C : Cs) (X : Cx) (tg : Expr) (t : Tg) : Prop where
  ex : ∃ g : TG, PG X tg g ∧ ∀ {σ : St} {F H : Hp} {ρ ρ1 : Env} {v : V} {d : D} {Q : St → Hp → Prop}, Stt C F H σ ρ → Rep C F v d → putTg ρ t d = some ρ1 →
    (∀ σ2, Stt C F H σ2 ρ1 → Tr [] σ F H ρ σ2 F H ρ1 → (∀ ks : List Nat, (∀ i ∈ t.slots, i ∈ ks) → wipe σ2 ks = wipe σ ks) → Q σ2 H) → g v σ H Q
theorem set_comm_none {σ : St} {i j : Nat} {v : Option V} : (σ.set i v).set j none = if i = j then σ.set j none else (σ.set j none).set i v := by
  by_cases e : i = j
  · subst e; rw [if_pos rfl, List.set_set]
  · rw [if_neg e, List.set_comm _ _ e]
theorem wipe_set {σ : St} {i : Nat} {v : Option V} : ∀ {ks : List Nat}, i ∈ ks → wipe (σ.set i v) ks = wipe σ ks
  | [], h => nomatch h
  | k :: ks, h => by
    have out : ∀ ks : List Nat, wipe (σ.set i v) ks = if i ∈ ks then wipe σ ks else (wipe σ ks).set i v := fun ks => by
      induction ks with
      | nil => simp [wipe]
      | cons k ks ih =>
        show (wipe (σ.set i v) ks).set k none = _
        rw [ih]
        by_cases m : i ∈ ks
        · rw [if_pos m, if_pos (List.mem_cons_of_mem _ m)]; rfl
        · rw [if_neg m, set_comm_none]
          by_cases e : i = k
          · subst e
            rw [if_pos rfl, if_pos List.mem_cons_self]; rfl
          · rw [if_neg e, if_neg (fun z => (List.mem_cons.mp z).elim e m)]; rfl
    rw [out, if_pos h]
theorem put_sh {i : Nat} {v : V} {d : D} (S : Stt C F H σ ρ) (r : Rep C F v d) (e : putS ρ i (.sh d) = some ρ1) : Stt C F H (σ.set i (some v)) ρ1 ∧ Tr [] σ F H ρ (σ.set i (some v)) F H ρ1 :=
  bind_slot (A := []) S e (fun o z => (nomatch z)) (.sh r) fun a z => (nomatch z)
theorem simG_one {i : Nat} {x : Str} {pos : Pos} (hN : X.N.Nodup) (hi : X.N[i]? = some x) (hx : Loc X.env.scope x) (hf : X.fn x = true ∨ X.env.scope.names.lookup x = some .local) : SimG C X (.Name x pos) (.one i) :=
  ⟨gName i, pg_name hN hi hx hf, fun {σ F H ρ ρ1 v d Q} S r e k => by
    obtain ⟨S1, T1⟩ := put_sh S r (show putS ρ i (.sh d) = some ρ1 from e)
    exact k _ S1 T1 fun ks h => wipe_set (h i (by simp [Tg.slots]))⟩
/-- names, one after another -/
def gSlots : List Nat → TGs
  | [] => gNil
  | i :: is => gCons (gName i) (gSlots is)
theorem pgs_one {i : Nat} {is : List Nat} {x : Str} {pos : Pos} {es : List Expr} (hN : X.N.Nodup) (hi : X.N[i]? = some x) (hx : Loc X.env.scope x) (hf : X.fn x = true ∨ X.env.scope.names.lookup x = some .local) (h : PGs X es (gSlots is))
    (hs : (assignEach (.Name x pos :: es) X.env).map (·.2) = assign (.Name x pos) X.env :: (assignEach es X.env).map (·.2)) : PGs X (.Name x pos :: es) (gSlots (i :: is)) := pgs_cons (pg_name hN hi hx hf) h hs
theorem slots_go {Q : St → Hp → Prop} : ∀ {is : List Nat} {vs : List V} {ds : List D} {σ : St} {ρ : Env}, Stt C F H σ ρ → Reps C F vs ds → putSs ρ is ds = some ρ1 →
    (∀ σ2, Stt C F H σ2 ρ1 → Tr [] σ F H ρ σ2 F H ρ1 → (∀ ks : List Nat, (∀ i ∈ is, i ∈ ks) → wipe σ2 ks = wipe σ ks) → Q σ2 H) → gSlots is vs σ H Q
  | [], _, _, σ, ρ, S, .nil, e, k => by
    cases e
    exact ⟨rfl, k _ S Tr.refl fun _ _ => rfl⟩
  | [], _, _, _, _, _, .cons _ _, e, _ => by cases e
  | _ :: _, _, _, _, _, _, .nil, e, _ => by cases e
  | i :: is, v :: vs, d :: ds, σ, ρ, S, .cons r t, e, k => by
    have e : (match putS ρ i (.sh d) with | some ρ2 => putSs ρ2 is ds | none => none) = some ρ1 := e
    split at e
    · rename_i ρ2 e2
      obtain ⟨S1, T1⟩ := put_sh S r e2
      refine ⟨v, vs, rfl, slots_go S1 t e fun σ2 S2 T2 w => k σ2 S2 (T1.trans (A1 := []) (fun _ z => nomatch z) T2) fun ks h => ?_⟩
      rw [w ks fun j m => h j (List.mem_cons_of_mem _ m), wipe_set (h i List.mem_cons_self)]
    · cases e
theorem simG_tup {is : List Nat} {es : List Expr} {kk : Nat} {pos : Pos} {n : Nat} (hc : X.calm = true) (h : PGs X es (gSlots is)) (hl : is.length = n) (hn : (assignEach es X.env).length = n) (hst : (assignEach es X.env).findIdx? (·.1) = none) (hK : C.K = X.K) : SimG C X (.Tuple es kk pos) (.tup is) :=
  ⟨_, pg_tup hc h hn hst, fun {σ F H ρ ρ1 v d Q} S r e k => by
    cases d with
    | tup ds =>
      have e : (if is.length = ds.length then putSs ρ is ds else none) = some ρ1 := e
      split at e
      · rename_i hl'
        cases r with
        | tup g rs => exact ⟨_, _, rfl, by rw [← hK]; exact S.sub.sqT g, by rw [rs.length, ← hl', hl], slots_go S rs e fun σ2 S2 T2 w => k σ2 S2 T2 fun ks hh => w ks hh⟩
      · cases e
    | _ => cases e⟩

/-! ### for, while -/
/-- the body of a loop, and what follows it -/
theorem loop_turn {body k : S} {D : Ends} (S : Stt C F H σ ρ) (h : tSR C W A0 F ρ (bind body (fun f => match f with | .nx => k | .ct => k | .bk => ret .nx | .rt b => ret (.rt b))) D σ H) {N : St → Hp → Prop}
    (hN : ∀ σ' F' H' ρ', Stt C F' H' σ' ρ' → Sub F F' → tSR C W [] F' ρ' k D σ' H' → N σ' H') : tS C W body { D with nx := N, ct := N, bk := D.nx } σ H := by
  obtain ⟨r, ρ', e, h⟩ := h
  refine ⟨F, ρ, S, ?_⟩
  have on : ∀ ρ1, k ρ1 = some (r, ρ') → ∀ σ1 F1 H1, Tr [] σ F H ρ σ1 F1 H1 ρ1 → Stt C F1 H1 σ1 ρ1 → N σ1 H1 := fun ρ1 e σ1 F1 H1 T1 S1 => by
    have T0 : Tr A0 σ F H ρ σ1 F1 H1 ρ1 := T1.hand fun _ z => nomatch z
    have nn : New A0 σ H ρ [] := fun _ z => nomatch z
    refine hN σ1 F1 H1 ρ1 S1 T1.sub ⟨r, ρ', e, ?_⟩
    cases r with
    | ok f =>
      cases f with
      | nx => exact fun σ' F' H' T' S' => h σ' F' H' (T0.trans nn (T'.hand fun _ z => nomatch z)) S'
      | bk => exact fun σ' F' H' T' S' => h σ' F' H' (T0.trans nn (T'.hand fun _ z => nomatch z)) S'
      | ct => exact fun σ' F' H' T' S' => h σ' F' H' (T0.trans nn (T'.hand fun _ z => nomatch z)) S'
      | rt b => exact fun v A σ' F' H' T' S' np rl fp nw => h v A σ' F' H' (T0.trans nn (T'.hand fun _ z => nomatch z)) S' np rl fp (New.trans T0 nn fun x z => (nw x z).imp id fun q => q.elim (fun z => nomatch z) .inr)
    | exc c p => exact fun cls d σ' F' H' T' S' x => h cls d σ' F' H' (T0.trans nn (T'.hand fun _ z => nomatch z)) S' x
  unfold bind at e
  split at e
  · cases e
  · rename_i c p ρ1 em
    cases e
    exact ⟨_, _, em, fun cls d σ' F' H' T' S' x => h cls d σ' F' H' (T'.hand fun _ z => nomatch z) S' x⟩
  · rename_i f ρ1 em
    refine ⟨_, _, em, ?_⟩
    cases f with
    | nx => exact fun σ1 F1 H1 T1 S1 => on ρ1 e σ1 F1 H1 T1 S1
    | ct => exact fun σ1 F1 H1 T1 S1 => on ρ1 e σ1 F1 H1 T1 S1
    | bk =>
      cases e
      exact fun σ1 F1 H1 T1 S1 => h σ1 F1 H1 (T1.hand fun _ z => nomatch z) S1
    | rt b =>
      cases e
      exact fun v A σ1 F1 H1 T1 S1 np rl fp nw => h v A σ1 F1 H1 (T1.hand fun _ z => nomatch z) S1 np rl fp fun x z => (nw x z).imp id fun q => q.elim (fun z => nomatch z) .inr
theorem sim_for {tg iter : Expr} {body : List Stmt} {pos : Pos} {t : Tg} {it : M (List D)} {mb : S} (hp : PassesOwn (model X.prog X.w) X.A X.env X.xe) (hc : X.calm = true) (hi : SimI cl X tg iter it) (hg : SimG (cs cl X) X tg t) (hb : SimB cl X body mb)
    (hs : ∀ x, foldedSetIterable iter X.env x = pure x) : SimS cl X (.For tg iter body [] pos) (sFor t it mb) := fun W tk => by
  obtain ⟨g, pg, hgo⟩ := hg.ex
  refine PS.imp (ps_for hp hc (hi W tk) pg (hb W tk) hs) fun D σ H ⟨F, ρ, S, h⟩ => ?_
  refine tSR_bind (R := RlI) S h fun J ds A F1 H1 ρ1 T1 S1 r1 f1 n1 q => ?_
  obtain ⟨gv, rfl⟩ := r1
  refine ⟨fun i m σ H => m = ds.length - i ∧ i ≤ ds.length ∧ ∃ F ρ, Stt (cs cl X) F H σ ρ ∧ Sub F1 F ∧ tSR (cs cl X) W [] F ρ (forGo t mb (ds.drop i)) D σ H, ⟨ds.length, by simp, Nat.zero_le _, F1, ρ1, S1, Sub.refl _, tSR_up q⟩, ?_⟩
  rintro i m σ H ⟨rfl, hi, F, ρ, S, sb, q⟩
  by_cases hlt : i < ds.length
  · refine .inr ⟨gv.goes i H hlt (sb.trans S.sub), fun σ' H' => ∃ F ρ, Stt (cs cl X) F H' σ' ρ ∧ Sub F1 F ∧ tSR (cs cl X) W [] F ρ (forGo t mb (ds.drop (i + 1))) D σ' H', fun σ' H' w => ⟨ds.length - (i + 1), by omega, rfl, hlt, w⟩, fun x H' y => ?_⟩
    obtain ⟨d, F2, ed, S2, T2, rd⟩ := gv.take hlt S sb y
    have q := tSR_from T2 (A1 := []) (fun _ z => nomatch z) rfl q
    rw [List.drop_eq_getElem_cons hlt] at q
    have ed' : ds[i] = d := Option.some.inj ((List.getElem?_eq_getElem hlt).symm.trans ed)
    rw [ed'] at q
    obtain ⟨r, ρ', e, h⟩ := q
    unfold forGo at e
    split at e
    · cases e
    · rename_i ρ3 ep
      refine hgo S2 rd ep fun σ2 S3 T3 _ => ?_
      have q : tSR (cs cl X) W [] F2 ρ (fun _ => bind mb (fun f => match f with | .nx => forGo t mb (ds.drop (i + 1)) | .ct => forGo t mb (ds.drop (i + 1)) | .bk => ret .nx | .rt b => ret (.rt b)) ρ3) D σ H' := ⟨r, ρ', e, h⟩
      have q : tSR (cs cl X) W [] F2 ρ3 (bind mb (fun f => match f with | .nx => forGo t mb (ds.drop (i + 1)) | .ct => forGo t mb (ds.drop (i + 1)) | .bk => ret .nx | .rt b => ret (.rt b))) D σ2 H' := by
        obtain ⟨r2, ρ'2, e2, h2⟩ := tSR_from (A1 := []) T3 (fun _ z => nomatch z) rfl q
        exact ⟨r2, ρ'2, e2, h2⟩
      exact loop_turn (A0 := []) S3 q fun σ' F' H'' ρ'' S4 s4 q4 => ⟨F', ρ'', S4, (sb.trans T2.sub).trans s4, q4⟩
  · have e : i = ds.length := by omega
    subst e
    rw [List.drop_length] at q
    exact .inl ⟨gv.stops H (sb.trans S.sub), tSR_nx q σ F H Tr.refl S⟩
theorem sim_while {c : Expr} {body : List Stmt} {pos : Pos} {t : M Bool} {mb : S} (hp : PassesOwn (model X.prog X.w) X.A X.env X.xe) (hc : SimT cl X c t) (hb : SimB cl X body mb) : SimS cl X (.While c body [] pos) (sWhile t mb) := fun W tk =>
  PS.imp (ps_while hp (hc W tk) (hb W tk)) fun D σ H ⟨F, ρ, S, h⟩ => by
    refine ⟨fun m σ H => ∃ F ρ, Stt (cs cl X) F H σ ρ ∧ tSR (cs cl X) W [] F ρ (whGo t mb m) D σ H, ⟨TURNS, F, ρ, S, h⟩, ?_⟩
    rintro m σ H ⟨F, ρ, S, q⟩
    cases m with
    | zero => exact tSR_stuck q
    | succ m =>
      refine tSR_bind (R := RlT) S q fun b b' A F1 H1 ρ1 T1 S1 r1 f1 n1 q => ?_
      obtain ⟨rfl, rfl⟩ := r1
      cases b with
      | false => exact iteF (tSR_nx q σ F1 H1 Tr.refl S1)
      | true => exact iteT ⟨fun σ' H' => ∃ F ρ, Stt (cs cl X) F H' σ' ρ ∧ tSR (cs cl X) W [] F ρ (whGo t mb m) D σ' H', fun σ' H' w => ⟨m, Nat.lt_succ_self m, w⟩, loop_turn S1 q fun σ' F' H'' ρ'' S4 s4 q4 => ⟨F', ρ'', S4, q4⟩⟩
end

/-! ### comprehensions -/
section
variable {cl : Nat → Addr} {X : Cx} {C : Cs} {σ : St} {F H F1 H1 : Hp} {ρ ρ1 : Env} {A A0 : List Addr} {is : List Nat}
theorem clr_len : ∀ {is : List Nat}, (clr ρ is).length = ρ.length
  | [] => rfl
  | i :: is => by show ((clr ρ is).set i none).length = _; rw [List.length_set, clr_len]
theorem clr_at {j : Nat} {b : SB} : ∀ {is : List Nat}, (clr ρ is).at j = some b ↔ j ∉ is ∧ ρ.at j = some b
  | [] => ⟨fun h => ⟨fun z => (nomatch z), h⟩, fun h => h.2⟩
  | i :: is => by
    constructor
    · intro h
      rcases at_set (show Env.at ((clr ρ is).set i none) j = some b from h) with ⟨_, e, _⟩ | ⟨n, e⟩
      · cases e
      · obtain ⟨m, e⟩ := clr_at.mp e
        exact ⟨fun z => (List.mem_cons.mp z).elim n m, e⟩
    · rintro ⟨m, e⟩
      show Env.at ((clr ρ is).set i none) j = some b
      rw [at_set_ne fun z => m (by rw [z]; exact List.mem_cons_self)]
      exact clr_at.mpr ⟨fun z => m (List.mem_cons_of_mem _ z), e⟩
theorem wipe_at {j : Nat} (h : j ∉ is) : (wipe σ is)[j]? = σ[j]? := wipe_out h
/-- the block's own names forgotten, none of them lent -/
theorem wipe_clr (S : Stt C F H σ ρ) (n : ∀ i ∈ is, ∀ o, ρ.at i ≠ some (.io o)) : Stt C F H (wipe σ is) (clr ρ is) ∧ Tr [] σ F H ρ (wipe σ is) F H (clr ρ is) := by
  have own : ∀ a, Owns (wipe σ is) (clr ρ is) a → Owns σ ρ a := fun a ⟨i, b, h1, h2, h3⟩ => by
    obtain ⟨m, e⟩ := clr_at.mp h1
    rw [wipe_at m] at h3
    exact ⟨i, b, e, h2, h3⟩
  refine ⟨⟨S.sub, by rw [clr_len, wipe_length]; exact S.len, fun i b e => ?_, fun i j b c a h1 h2 h3 h4 h5 h6 => ?_⟩, ⟨Sub.refl _, fun a o e _ _ => e, fun a _ _ _ z => z, fun a e => e, fun a q => .inl (own a q), fun i o e => ?_, fun i o e => ⟨o, (clr_at.mp e).2⟩⟩⟩
  · obtain ⟨m, e⟩ := clr_at.mp e
    rw [wipe_at m]
    exact S.sl i b e
  · obtain ⟨m, e⟩ := clr_at.mp h1
    obtain ⟨m', e'⟩ := clr_at.mp h3
    rw [wipe_at m] at h5
    rw [wipe_at m'] at h6
    exact S.dis i j b c a e h2 e' h4 h5 h6
  · have m : i ∉ is := fun m => n i m o e
    exact ⟨⟨o, clr_at.mpr ⟨m, e⟩⟩, wipe_at m⟩
theorem back_len {ρ1 : Env} : ∀ {is : List Nat}, (back ρ ρ1 is).length = ρ1.length
  | [] => rfl
  | i :: is => by show ((back ρ ρ1 is).set i _).length = _; rw [List.length_set, back_len]
theorem back_at {j : Nat} {b : SB} : ∀ {is : List Nat}, (∀ i ∈ is, i < ρ1.length) → ((back ρ ρ1 is).at j = some b ↔ (j ∈ is ∧ ρ.at j = some b) ∨ (j ∉ is ∧ ρ1.at j = some b))
  | [], _ => ⟨fun h => .inr ⟨fun z => (nomatch z), h⟩, fun h => h.elim (fun z => nomatch z.1) fun z => z.2⟩
  | i :: is, hl => by
    have ih := back_at (j := j) (b := b) (is := is) fun k m => hl k (List.mem_cons_of_mem _ m)
    have e0 : Env.at (back ρ ρ1 (i :: is)) j = Env.at ((back ρ ρ1 is).set i (ρ.at i)) j := rfl
    rw [e0]
    by_cases e : i = j
    · subst e
      rw [at_set_same (by rw [back_len]; exact hl i List.mem_cons_self)]
      exact ⟨fun h => .inl ⟨List.mem_cons_self, h⟩, fun h => h.elim (fun z => z.2) fun z => absurd List.mem_cons_self z.1⟩
    · rw [at_set_ne e, ih]
      refine ⟨fun h => h.imp (fun z => ⟨List.mem_cons_of_mem _ z.1, z.2⟩) fun z => ⟨fun m => (List.mem_cons.mp m).elim (fun q => e q.symm) z.1, z.2⟩, fun h => h.imp (fun z => ⟨(List.mem_cons.mp z.1).resolve_left fun q => e q.symm, z.2⟩) fun z => ⟨fun m => z.1 (List.mem_cons_of_mem _ m), z.2⟩⟩
theorem free_of (h : free ρ is = true) : ∀ i ∈ is, i < ρ.length ∧ (ρ.at i = none ∨ ∃ d, ρ.at i = some (.sh d)) := fun i m => by
  have := List.all_eq_true.mp h i m
  split at this
  · rename_i e; exact ⟨of_decide_eq_true this, .inl e⟩
  · rename_i d e; exact ⟨(get_of_at e).1, .inr ⟨d, e⟩⟩
  · cases this
/-- behind the block -/
theorem unwipe {F' H' : Hp} {ρ' : Env} (S : Stt C F H σ ρ) (h : free ρ is = true) (T : Tr [] (wipe σ is) F H (clr ρ is) (wipe σ is) F' H' (clr ρ' is)) (S' : Stt C F' H' (wipe σ is) (clr ρ' is)) :
    Tr [] σ F H ρ σ F' H' (back ρ ρ' is) ∧ Stt C F' H' σ (back ρ ρ' is) ∧ ∀ a, Owns σ (back ρ ρ' is) a → Owns (wipe σ is) (clr ρ' is) a := by
  have fr := free_of h
  have lenr : ρ'.length = ρ.length := by
    have := S'.len
    rw [clr_len, wipe_length] at this
    rw [this, S.len]
  have hl : ∀ i ∈ is, i < ρ'.length := fun i m => by rw [lenr]; exact (fr i m).1
  have noio : ∀ i ∈ is, ∀ b, ρ.at i = some b → b.obj = none := fun i m b e => by
    rcases (fr i m).2 with z | ⟨d, z⟩
    · rw [z] at e; cases e
    · rw [z] at e; cases e; rfl
  have look : ∀ i b, (back ρ ρ' is).at i = some b → (i ∈ is ∧ ρ.at i = some b) ∨ (i ∉ is ∧ (clr ρ' is).at i = some b) := fun i b e => ((back_at hl).mp e).imp id fun z => ⟨z.1, clr_at.mpr z⟩
  have obj : ∀ i b, (back ρ ρ' is).at i = some b → b.obj.isSome = true → i ∉ is ∧ (clr ρ' is).at i = some b := fun i b e o => by
    rcases look i b e with z | z
    · rw [noio i z.1 b z.2] at o; cases o
    · exact z
  have own' : ∀ a, Owns σ (back ρ ρ' is) a → Owns (wipe σ is) (clr ρ' is) a := fun a ⟨i, b, h1, h2, h3⟩ => by
    obtain ⟨m, e⟩ := obj i b h1 h2
    exact ⟨i, b, e, h2, by rw [wipe_at m]; exact h3⟩
  have own : ∀ a, Owns (wipe σ is) (clr ρ is) a ↔ Owns σ ρ a := fun a => ⟨fun ⟨i, b, h1, h2, h3⟩ => by
      obtain ⟨m, e⟩ := clr_at.mp h1
      rw [wipe_at m] at h3
      exact ⟨i, b, e, h2, h3⟩, fun ⟨i, b, h1, h2, h3⟩ => by
      have m : i ∉ is := fun m => by rw [noio i m b h1] at h2; cases h2
      exact ⟨i, b, clr_at.mpr ⟨m, h1⟩, h2, by rw [wipe_at m]; exact h3⟩⟩
  refine ⟨⟨T.sub, fun a o e n m => T.keep a o e (fun q => n ((own a).mp q)) m, fun a e n m z => T.nofz a e (fun q => n ((own a).mp q)) m z, T.there, fun a q => ?_, fun i o e => ?_, fun i o e => ?_⟩, ⟨S'.sub, by rw [back_len, lenr]; exact S.len, fun i b e => ?_, fun i j b c a h1 h2 h3 h4 h5 h6 => ?_⟩, own'⟩
  · exact (T.own a (own' a q)).imp (own a).mp id
  · have m : i ∉ is := fun m => by have := noio i m _ e; cases this
    obtain ⟨⟨o', h'⟩, _⟩ := T.io i o (clr_at.mpr ⟨m, e⟩)
    exact ⟨⟨o', (back_at hl).mpr (.inr ⟨m, (clr_at.mp h').2⟩)⟩, rfl⟩
  · obtain ⟨m, e⟩ := obj i _ e rfl
    obtain ⟨o', h'⟩ := T.oi i o e
    exact ⟨o', (clr_at.mp h').2⟩
  · rcases look i b e with ⟨m, e⟩ | ⟨m, e⟩
    · obtain ⟨v, e1, r1⟩ := S.sl i b e
      refine ⟨v, e1, ?_⟩
      have := noio i m b e
      cases r1 with
      | sh r => exact .sh (r.mono T.sub)
      | ow r g => cases this
      | io r g => cases this
    · obtain ⟨v, e1, r1⟩ := S'.sl i b e
      rw [wipe_at m] at e1
      exact ⟨v, e1, r1⟩
  · obtain ⟨m, e⟩ := obj i b h1 h2
    obtain ⟨m', e'⟩ := obj j c h3 h4
    exact S'.dis i j b c a e h2 e' h4 (by rw [wipe_at m]; exact h5) (by rw [wipe_at m']; exact h6)
/-- what a target's names hold is not lent -/
theorem putSs_at : ∀ {is : List Nat} {ds : List D} {ρ ρ1 : Env}, putSs ρ is ds = some ρ1 → ∀ i o, ρ1.at i = some (.io o) → i ∉ is ∧ ρ.at i = some (.io o)
  | [], [], ρ, ρ1, e, i, o, h => by cases e; exact ⟨fun z => (nomatch z), h⟩
  | [], _ :: _, _, _, e, _, _, _ => by cases e
  | _ :: _, [], _, _, e, _, _, _ => by cases e
  | k :: is, d :: ds, ρ, ρ1, e, i, o, h => by
    have e : (match putS ρ k (.sh d) with | some ρ2 => putSs ρ2 is ds | none => none) = some ρ1 := e
    split at e
    · rename_i ρ2 e2
      obtain ⟨m, h2⟩ := putSs_at e i o h
      obtain ⟨hl, _, rfl⟩ := put_at_set e2
      rcases at_set h2 with ⟨_, z, _⟩ | ⟨n, z⟩
      · cases z
      · exact ⟨fun q => (List.mem_cons.mp q).elim n m, z⟩
    · cases e
theorem putTg_at {t : Tg} {d : D} (e : putTg ρ t d = some ρ1) : ∀ i o, ρ1.at i = some (.io o) → i ∉ t.slots ∧ ρ.at i = some (.io o) := by
  cases t with
  | one k =>
    intro i o h
    obtain ⟨hl, _, rfl⟩ := put_at_set (show putS ρ k (.sh d) = some ρ1 from e)
    rcases at_set h with ⟨_, z, _⟩ | ⟨n, z⟩
    · cases z
    · exact ⟨fun q => n (by simpa [Tg.slots] using q), z⟩
  | tup is =>
    cases d with
    | tup ds =>
      have e : (if is.length = ds.length then putSs ρ is ds else none) = some ρ1 := e
      split at e
      · exact putSs_at e
      · cases e
    | _ => cases e
theorem wipe_wipe {ks : List Nat} : ∀ {is : List Nat}, (∀ i ∈ is, i ∈ ks) → wipe (wipe σ is) ks = wipe σ ks
  | [], _ => rfl
  | i :: is, h => by
    show wipe ((wipe σ is).set i none) ks = _
    rw [wipe_set (h i List.mem_cons_self), wipe_wipe fun j m => h j (List.mem_cons_of_mem _ m)]
/-- the new list of a comprehension, grown -/
theorem grow {p : Addr} {o : HO} (S : Stt C F H σ ρ) (f : F p = none) (n : ¬ Owns σ ρ p) (th : H p ≠ none) : Stt C F (upd H p o) σ ρ ∧ Tr [p] σ F H ρ σ F (upd H p o) ρ := by
  have ne : ∀ {a : Addr} {u : HO}, F a = some u → a ≠ p := fun e z => by rw [z, f] at e; cases e
  refine ⟨⟨fun a u e => by rw [upd_ne (ne e)]; exact S.sub _ _ e, S.len, fun i b e => ?_, S.dis⟩, ⟨Sub.refl _, fun a u e n1 m => ?_, fun a _ _ _ z => z, fun a e => ?_, fun a q => .inl q, fun i b q => ⟨⟨b, q⟩, rfl⟩, fun i b q => ⟨b, q⟩⟩⟩
  · obtain ⟨v, e1, r⟩ := S.sl i b e
    refine ⟨v, e1, ?_⟩
    have k : ∀ a, b.obj.isSome = true → v = .ref a → ∀ u, H a = some u → upd H p o a = some u := fun a ob ev u z => by
      subst ev
      rw [upd_ne fun q => n (by rw [← q]; exact ⟨i, b, e, ob, e1⟩)]; exact z
    cases r with
    | sh r => exact .sh r
    | ow r g => exact .ow (r.mono (Sub.refl _) (k _ rfl rfl)) g
    | io r g => exact .io (r.mono (Sub.refl _) (k _ rfl rfl)) g
  · rw [upd_ne fun q => m (by rw [q]; exact List.mem_cons_self)]; exact e
  · by_cases q : a = p
    · subst q; rw [upd_same]; simp
    · rw [upd_ne q]; exact e
theorem compGo_len {t : Tg} {c : M Bool} {e : M B} : ∀ {ds acc vs : List D} {ρ ρ' : Env}, compGo t c e ds acc ρ = some (.ok vs, ρ') → acc.length ≤ vs.length
  | [], acc, vs, ρ, ρ', h => by cases h; exact Nat.le_refl _
  | d :: ds, acc, vs, ρ, ρ', h => by
    unfold compGo at h
    split at h
    · cases h
    · obtain ⟨k, ρ2, _, h⟩ := bind_ok h
      cases k with
      | false => exact compGo_len h
      | true =>
        obtain ⟨x, ρ3, _, h⟩ := bind_ok h
        obtain ⟨v, ρ4, _, h⟩ := bind_ok h
        have := compGo_len h
        rw [List.length_append] at this
        omega
theorem kept_ok {bs : List B} {ds : List D} {ρ ρ' : Env} (h : kept bs ρ = some (.ok ds, ρ')) : ρ' = ρ ∧ bs.all noPl = true ∧ datsL ρ bs = some ds := by
  unfold kept at h
  split at h
  · rename_i n
    unfold dats at h
    split at h
    · cases h
    · rename_i e; cases h; exact ⟨rfl, n, e⟩
  · cases h
end
section
variable {cl : Nat → Addr} {X : Cx}
/-- the tests of a comprehension -/
def SimTs (cl : Nat → Addr) (X : Cx) (ifs : List Expr) (m : M Bool) : Prop := ∀ W, Takes X W → PTs X ifs (tM (cs cl X) RlT W m)
theorem PTs.imp {es : List Expr} {t t' : TT} (h : PTs X es t) (i : ∀ σ H Q, t' σ H Q → t σ H Q) : PTs X es t' := ⟨fun pins s σ H Q I q => h.run pins s σ H Q I (i σ H Q q)⟩
theorem simTs_nil : SimTs cl X [] yes := fun W _ => PTs.imp pts_nil fun σ H Q ⟨F, ρ, S, h⟩ => (tR_ret h).bool S
theorem simTs_one {e : Expr} {m : M Bool} (h : SimT cl X e m) : SimTs cl X [e] m := fun W tk => pts_one (h W tk)
abbrev blkX (X : Cx) (scope : Scope) (s : Shared) (H : Hp) (c : Addr) (cells : List (Str × Addr)) (fp : List Addr) : Cx := X.blk s H scope (compEnvC scope cells c X.env) fp
theorem no_takes {s : Shared} {H : Hp} {scope : Scope} {c : Addr} {cells : List (Str × Addr)} {fp : List Addr} : Takes (blkX X scope s H c cells fp) (fun _ _ _ _ => False) := takes0
theorem lc_read {C : Cs} {t : Tg} {it : M (List D)} {mc : M Bool} {me : M B} {g : TG} {W : WX} {σ : St} {H : Hp} {Q : VK} (hgo : ∀ {σ : St} {F H : Hp} {ρ ρ1 : Env} {v : V} {d : D} {Q : St → Hp → Prop}, Stt C F H σ ρ → Rep C F v d → putTg ρ t d = some ρ1 →
      (∀ σ2, Stt C F H σ2 ρ1 → Tr [] σ F H ρ σ2 F H ρ1 → (∀ ks : List Nat, (∀ i ∈ t.slots, i ∈ ks) → wipe σ2 ks = wipe σ ks) → Q σ2 H) → g v σ H Q) (h : tM C RlB W (mComp t it mc me) σ H Q) :
    tLc (tM C RlI W it) g (tM C RlT (fun _ _ _ _ => False) mc) (tM C RlB (fun _ _ _ _ => False) me) t.slots σ H Q := by
  obtain ⟨F, ρ, S, h⟩ := h
  refine tM_bind (R1 := RlI) S h fun J ds A F1 H1 ρ1 T1 S1 r1 f1 n1 q => ?_
  obtain ⟨gv, rfl⟩ := r1
  intro p hp
  obtain ⟨r, ρ', e, q⟩ := q
  have e : (if free ρ1 t.slots = true then match noExc (compGo t mc me ds []) ρ1 with
      | some (.ok vs, ρ2) => if vs.length ≤ LIM then some (Res.ok (B.ow (.lst vs)), back ρ1 ρ2 t.slots) else none
      | _ => none else none) = some (r, ρ') := e
  split at e
  rotate_left
  · cases e
  rename_i hfree
  split at e
  rotate_left
  · cases e
  rename_i vs ρe en
  split at e
  rotate_left
  · cases e
  rename_i hlen
  cases e
  -- all turns end well
  have en : compGo t mc me ds [] ρ1 = some (.ok vs, ρe) := by
    unfold noExc at en
    split at en
    · rename_i a ρa ea; cases en; exact ea
    · cases en
  have noio1 : ∀ i ∈ t.slots, ∀ o, ρ1.at i ≠ some (.io o) := fun i m o z => by
    rcases (free_of hfree i m).2 with q | ⟨d, q⟩
    · rw [q] at z; cases z
    · rw [q] at z; cases z
  obtain ⟨S1w, T1w⟩ := wipe_clr (is := t.slots) S1 noio1
  have Fp1 : F1 p = none := by
    cases z : F1 p with
    | none => rfl
    | some u => rw [S1.sub _ _ z] at hp; cases hp
  -- what holds ahead of turn i
  let Pv : Nat → Hp → Prop := fun i H => ∃ F ρ acc xs, Stt C F H (wipe σ t.slots) (clr ρ t.slots) ∧ Tr [] (wipe σ t.slots) F1 H1 (clr ρ1 t.slots) (wipe σ t.slots) F H (clr ρ t.slots) ∧ H p = some (.lst xs) ∧ F p = none ∧ ¬ Owns (wipe σ t.slots) (clr ρ t.slots) p ∧ Reps C F xs acc ∧
    compGo t mc me (ds.drop i) acc ρ = some (.ok vs, ρe)
  have notO : ¬ Owns (wipe σ t.slots) (clr ρ1 t.slots) p := fun z => S1w.own_some z hp
  have start : Pv 0 (upd H1 p (.lst [])) := by
    obtain ⟨Sn, Tn, fn, nn⟩ := new_own (o := .lst []) S1w hp
    exact ⟨F1, ρ1, [], [], Sn, Tn, upd_same, Fp1, notO, .nil, en⟩
  refine ⟨fun i m H => m = ds.length - i ∧ i ≤ ds.length ∧ Pv i H, ⟨ds.length, by simp, Nat.zero_le _, start⟩, ?_⟩
  rintro i m H ⟨rfl, hi, F, ρ, acc, xs, S2, T2, hpx, fpx, npx, rx, ec⟩
  by_cases hlt : i < ds.length
  · refine .inr ⟨gv.goes i H hlt (T2.sub.trans S2.sub), Pv (i + 1), fun H' w => ⟨ds.length - (i + 1), by omega, rfl, hlt, w⟩, fun x H' y => ?_⟩
    obtain ⟨d, F3, ed, S3, T3, rd⟩ := gv.take hlt S2 T2.sub y
    rw [List.drop_eq_getElem_cons hlt] at ec
    have ed' : ds[i] = d := Option.some.inj ((List.getElem?_eq_getElem hlt).symm.trans ed)
    rw [ed'] at ec
    unfold compGo at ec
    split at ec
    · cases ec
    rename_i ρ3 ep
    refine hgo S3 rd ep fun σ2 S4 T4 w => ?_
    have w : wipe σ2 t.slots = wipe σ t.slots := (w t.slots fun _ m => m).trans (wipe_wipe fun _ m => m)
    refine ⟨w, ?_⟩
    obtain ⟨k, ρ4, e4, ec⟩ := bind_ok ec
    have T24 : Tr [] (wipe σ t.slots) F H (clr ρ t.slots) σ2 F3 H' ρ3 := T3.trans (A1 := []) (fun _ z => nomatch z) T4
    have noio3 : ∀ i ∈ t.slots, ∀ o, ρ3.at i ≠ some (.io o) := fun i m o z => (putTg_at ep i o z).1 m
    -- the state behind an expression of the block
    have close : ∀ {F5 H5 ρ5}, Stt C F5 H5 σ2 ρ5 → Tr [] σ2 F3 H' ρ3 σ2 F5 H5 ρ5 → Stt C F5 H5 (wipe σ t.slots) (clr ρ5 t.slots) ∧ Tr [] (wipe σ t.slots) F H (clr ρ t.slots) (wipe σ t.slots) F5 H5 (clr ρ5 t.slots) := fun {F5 H5 ρ5} S5 T5 => by
      obtain ⟨S6, T6⟩ := wipe_clr (is := t.slots) S5 fun i m o z => by
        obtain ⟨o', z'⟩ := T5.oi i o z
        exact noio3 i m o' z'
      rw [w] at S6 T6
      exact ⟨S6, (T24.trans (A1 := []) (fun _ z => nomatch z) T5).trans (A1 := []) (fun _ z => nomatch z) T6⟩
    have stay : ∀ {F5 H5 ρ5}, Tr [] (wipe σ t.slots) F H (clr ρ t.slots) (wipe σ t.slots) F5 H5 (clr ρ5 t.slots) → H5 p = some (.lst xs) ∧ F5 p = none ∧ ¬ Owns (wipe σ t.slots) (clr ρ5 t.slots) p := fun {F5 H5 ρ5} T5 =>
      ⟨T5.keep p _ hpx npx (fun z => nomatch z), T5.nofz p (by rw [hpx]; simp) npx (fun z => nomatch z) fpx, fun z => by
        rcases T5.own p z with z | z | z
        · exact npx z
        · exact nomatch z
        · rw [hpx] at z; cases z⟩
    refine ⟨F3, ρ3, S4, .ok k, ρ4, e4, fun b A F4 H4 T5 S5 rl f5 n5 => ?_⟩
    obtain ⟨rfl, rfl⟩ := rl
    cases b with
    | false =>
      refine iteF ?_
      obtain ⟨S6, T6⟩ := close S5 T5
      obtain ⟨q1, q2, q3⟩ := stay T6
      exact ⟨F4, ρ4, acc, xs, S6, T2.trans (A1 := []) (fun _ z => nomatch z) T6, q1, q2, q3, rx.mono T6.sub, ec⟩
    | true =>
      refine iteT ?_
      obtain ⟨x5, ρ5, e5, ec⟩ := bind_ok ec
      obtain ⟨v5, ρ6, e6, ec⟩ := bind_ok ec
      obtain ⟨rfl, n6, e6⟩ := kept_ok e6
      refine ⟨F4, ρ4, S5, .ok x5, ρ6, e5, fun y A F5 H5 T6 S6 rb f6 n6' => ?_⟩
      obtain ⟨S7, T7⟩ := share S6 f6
      have T57 : Tr [] σ2 F3 H' ρ3 σ2 (addF F5 H5 A) H5 ρ6 := (T5.trans (A1 := []) (fun _ z => nomatch z) T6).trans (New.trans T5 (A1 := []) (fun _ z => nomatch z) n6') T7
      obtain ⟨S8, T8⟩ := close S7 T57
      obtain ⟨q1, q2, q3⟩ := stay T8
      have dv : ∃ d5, v5 = [d5] ∧ x5.dat ρ6 = some d5 := by
        have e6 : (match x5.dat ρ6, datsL ρ6 [] with | some d, some ds => some (d :: ds) | _, _ => none) = some v5 := e6
        split at e6
        · rename_i h1 h2; cases e6; cases h2; exact ⟨_, rfl, h1⟩
        · cases e6
      obtain ⟨d5, rfl, e7⟩ := dv
      have np5 : noPl x5 = true := by simpa using n6
      have ry : Rep C (addF F5 H5 A) y d5 := rb.in_ (sub_addF f6) (fun a m o z => by rw [addF_in m]; exact z) np5 e7
      have hl : xs.length < sizeLine := by
        have h1 := compGo_len ec
        rw [List.length_append] at h1
        have h2 := rx.length
        rw [← lim_eq]
        have : ([d5] : List D).length = 1 := rfl
        omega
      obtain ⟨S9, T9⟩ := grow (o := .lst (xs ++ [y])) S8 q2 q3 (by rw [q1]; simp)
      have T0 := T2.trans (A1 := []) (fun _ z => nomatch z) T8
      exact ⟨xs, q1, hl, addF F5 H5 A, ρ6, acc ++ [d5], xs ++ [y], S9, T0.trans (A1 := [p]) (fun a m => by rw [List.mem_singleton.mp m]; exact .inr (.inr hp)) T9, upd_same, q2, q3, (rx.mono T8.sub).append (.cons ry .nil), ec⟩
  · have e : i = ds.length := by omega
    subst e
    refine .inl ⟨gv.stops H (T2.sub.trans S2.sub), ?_⟩
    rw [List.drop_length] at ec
    cases ec
    obtain ⟨Te, Se, ow⟩ := unwipe (is := t.slots) S1 hfree T2 S2
    exact q (.ref p) [p] F H (Te.hand fun _ z => nomatch z) Se (.ow (.lst hpx rx)) ⟨by simp, fun a m => by rw [List.mem_singleton.mp m]; exact fpx, fun a m z => by rw [List.mem_singleton.mp m] at z; exact npx (ow _ z), fun a m => by rw [List.mem_singleton.mp m, hpx]; simp⟩ fun a m => by rw [List.mem_singleton.mp m]; exact .inr (.inr hp)
/-- [e for t in it if c] -/
theorem sim_comp {elt tg iter : Expr} {ifs : List Expr} {scope : Scope} {own : List (Str × Nat)} {pos : Pos} {t : Tg} {it : M (List D)} {mc : M Bool} {me : M B} (hc : X.calm = true) (hN : X.N.Nodup) (hi : SimI cl X tg iter it) (ok : BlkOk X.N X.env.scope scope own) (ho : own.map (·.2) = t.slots)
    (hg : ∃ g : TG, (∀ s H c cells fp, PG (blkX X scope s H c cells fp) tg g) ∧ ∀ {σ : St} {F H : Hp} {ρ ρ1 : Env} {v : V} {d : D} {Q : St → Hp → Prop}, Stt (cs cl X) F H σ ρ → Rep (cs cl X) F v d → putTg ρ t d = some ρ1 →
      (∀ σ2, Stt (cs cl X) F H σ2 ρ1 → Tr [] σ F H ρ σ2 F H ρ1 → (∀ ks : List Nat, (∀ i ∈ t.slots, i ∈ ks) → wipe σ2 ks = wipe σ ks) → Q σ2 H) → g v σ H Q)
    (ht : ∀ s H c cells fp, SimTs cl (blkX X scope s H c cells fp) ifs mc) (he : ∀ s H c cells fp, SimE cl (blkX X scope s H c cells fp) elt me) (hs : ∀ x, foldedSetIterable iter X.env x = pure x) : SimE cl X (.ListComp elt [⟨tg, iter, ifs, 0⟩] scope pos) (mComp t it mc me) := fun W tk => by
  obtain ⟨g, pg, hgo⟩ := hg
  refine PE.imp (pe_lc (own := own) (tt := tM (cs cl X) RlT (fun _ _ _ _ => False) mc) (te := tM (cs cl X) RlB (fun _ _ _ _ => False) me) hc hN (hi W tk) ok pg (fun s H c cells fp => ht s H c cells fp _ no_takes) (fun s H c cells fp => he s H c cells fp _ no_takes) hs) fun σ H Q h => ?_
  rw [ho]
  exact lc_read hgo h
end
end WF

set_option Elab.async false
set_option linter.all false
set_option maxRecDepth 100000
set_option maxHeartbeats 4000000
/-! WFM: more statements: several names, places set, append, raise, try. -/
namespace WF
open PySem PySem.Spec PyProof.Rows L2
section
variable {cl : Nat → Addr} {X : Cx} {C : Cs} {σ : St} {F H : Hp} {ρ ρ1 : Env} {A A0 : List Addr} {W : WX} {G : Ends}
theorem ownB_pure {x : B} {r : Res SB} {ρ' : Env} (e : ownB x ρ = some (r, ρ')) : ρ' = ρ ∧ ∃ b, r = .ok b := by
  cases x with
  | pl i => cases e
  | sh d => cases e; exact ⟨rfl, _, rfl⟩
  | ow o => cases e; exact ⟨rfl, _, rfl⟩
  | tp bs => exact lift_pure e
theorem set_core {i : Nat} {m : M B} (h : tS C W (sSet i m) G σ H) : tM C RlB W m σ H fun x H1 => gName i x σ H1 G.nx := by
  obtain ⟨F, ρ, S, h⟩ := h
  refine tSR_bind (R := RlB) S h fun v a A F1 H1 ρ1 T S1 rl fp nw q => ?_
  obtain ⟨b, eb, q⟩ := tSR_step q fun _ _ => ownB_pure
  obtain ⟨_, F2, S2, T2, r, nio, f⟩ := own_rel S1 rl fp eb
  exact bindS_go (A0 := A) S2 (tSR_from (T2.hand fun z m => by rw [List.nil_append]; exact m) (fun z m => .inr (.inl (by rw [List.nil_append]; exact m))) rfl q) nio r f
/-- x = [e for t in it if c] -/
theorem sim_setLc {i : Nat} {y : Str} {py : Pos} {elt tg iter : Expr} {ifs : List Expr} {scope : Scope} {own : List (Str × Nat)} {pos spos : Pos} {t : Tg} {it : M (List D)} {mc : M Bool} {me : M B} (hc : X.calm = true) (hN : X.N.Nodup) (hy : X.N[i]? = some y) (hyl : X.env.scope.names.lookup y = some .local)
    (hsw : swapsWith (.ListComp elt [⟨tg, iter, ifs, 0⟩] scope pos) (some (.Name y py)) spos.line X.env = pure true) (hi : SimI cl X tg iter it) (ok : BlkOk X.N X.env.scope scope own) (ho : own.map (·.2) = t.slots)
    (hg : ∃ g : TG, (∀ s H c cells fp, PG (blkX X scope s H c cells fp) tg g) ∧ ∀ {σ : St} {F H : Hp} {ρ ρ1 : Env} {v : V} {d : D} {Q : St → Hp → Prop}, Stt (cs cl X) F H σ ρ → Rep (cs cl X) F v d → putTg ρ t d = some ρ1 →
      (∀ σ2, Stt (cs cl X) F H σ2 ρ1 → Tr [] σ F H ρ σ2 F H ρ1 → (∀ ks : List Nat, (∀ i ∈ t.slots, i ∈ ks) → wipe σ2 ks = wipe σ ks) → Q σ2 H) → g v σ H Q)
    (ht : ∀ s H c cells fp, SimTs cl (blkX X scope s H c cells fp) ifs mc) (he : ∀ s H c cells fp, SimE cl (blkX X scope s H c cells fp) elt me) (hs : ∀ x, foldedSetIterable iter X.env x = pure x) :
    SimS cl X (.Assign [.Name y py] (.ListComp elt [⟨tg, iter, ifs, 0⟩] scope pos) spos) (sSet i (mComp t it mc me)) := fun W tk => by
  obtain ⟨g, pg, hgo⟩ := hg
  refine PS.imp (ps_setLc (own := own) (tt := tM (cs cl X) RlT (fun _ _ _ _ => False) mc) (te := tM (cs cl X) RlB (fun _ _ _ _ => False) me) hc hN hy hyl hsw (hi W tk) ok pg (fun s H c cells fp => ht s H c cells fp _ no_takes) (fun s H c cells fp => he s H c cells fp _ no_takes) hs) fun D σ H h => ?_
  show tLc _ _ _ _ _ σ H _
  rw [ho]
  exact lc_read hgo (set_core h)
/-! ### a name's own object changed -/
theorem put_own {i : Nat} {a : Addr} {u : HO} {c : SB} {o o' : O} (S : Stt C F H σ ρ) (hc : ρ.at i = some c) (ho : c.obj = some o) (hs : σ[i]? = some (some (.ref a))) (f : F a = none) (th : H a ≠ none) (r : ROb C F (upd H a u) a o') :
    Stt C F (upd H a u) σ (ρ.set i (some (c.put o'))) ∧ Tr [] σ F H ρ σ F (upd H a u) (ρ.set i (some (c.put o'))) := by
  have ow : Owns σ ρ a := ⟨i, c, hc, by rw [ho]; rfl, hs⟩
  have il := (get_of_at hc).1
  have obj : (c.put o').obj.isSome = true := by cases c <;> first | (cases ho; done) | rfl
  have sl : ∀ {j : Nat} {b : SB}, Env.at (ρ.set i (some (c.put o'))) j = some b → (j = i ∧ b = c.put o') ∨ (j ≠ i ∧ ρ.at j = some b) := fun {j b} e => by
    rcases at_set e with ⟨rfl, e1, _⟩ | z
    · cases e1; exact .inl ⟨rfl, rfl⟩
    · exact .inr z
  have ownB : ∀ x, Owns σ (ρ.set i (some (c.put o'))) x → Owns σ ρ x := fun x ⟨j, b, h1, h2, h3⟩ => by
    rcases sl h1 with ⟨rfl, rfl⟩ | ⟨n, e⟩
    · exact ⟨j, c, hc, by rw [ho]; rfl, h3⟩
    · exact ⟨j, b, e, h2, h3⟩
  have ne : ∀ {x : Addr} {w : HO}, F x = some w → x ≠ a := fun e z => by rw [z, f] at e; cases e
  refine ⟨⟨fun x w e => by rw [upd_ne (ne e)]; exact S.sub _ _ e, by rw [List.length_set]; exact S.len, fun j b e => ?_, fun j k b d x h1 h2 h3 h4 h5 h6 => ?_⟩, ⟨Sub.refl _, fun x w e n _ => ?_, fun _ _ _ _ z => z, fun x e => ?_, fun x q => .inl (ownB x q), fun j w e => ?_, fun j w e => ?_⟩⟩
  · rcases sl e with ⟨rfl, rfl⟩ | ⟨n, e⟩
    · refine ⟨_, hs, ?_⟩
      cases c with
      | sh d => cases ho
      | ow o0 => exact .ow r f
      | io o0 => exact .io r f
    · obtain ⟨v, e1, q⟩ := S.sl j b e
      refine ⟨v, e1, ?_⟩
      have k : ∀ x, v = .ref x → b.obj.isSome = true → ∀ w, H x = some w → upd H a u x = some w := fun x ev ob w z => by
        subst ev
        rw [upd_ne fun q => n (by rw [q] at e1; exact S.dis j i b c a e ob hc (by rw [ho]; rfl) e1 hs)]; exact z
      cases q with
      | sh q => exact .sh q
      | ow q g => exact .ow (q.mono (Sub.refl _) (k _ rfl rfl)) g
      | io q g => exact .io (q.mono (Sub.refl _) (k _ rfl rfl)) g
  · have back : ∀ {j : Nat} {b : SB}, Env.at (ρ.set i (some (c.put o'))) j = some b → b.obj.isSome = true → ∃ b0, ρ.at j = some b0 ∧ b0.obj.isSome = true := fun {j b} e ob => by
      rcases sl e with ⟨rfl, rfl⟩ | ⟨n, e⟩
      · exact ⟨c, hc, by rw [ho]; rfl⟩
      · exact ⟨b, e, ob⟩
    obtain ⟨b0, q1, q2⟩ := back h1 h2
    obtain ⟨d0, q3, q4⟩ := back h3 h4
    exact S.dis j k b0 d0 x q1 q2 q3 q4 h5 h6
  · rw [upd_ne fun q => n (by rw [q]; exact ow)]; exact e
  · by_cases q : x = a
    · subst q; rw [upd_same]; simp
    · rw [upd_ne q]; exact e
  · by_cases q : i = j
    · subst q
      rw [hc] at e
      cases e
      exact ⟨⟨o', by rw [at_set_same il]; rfl⟩, rfl⟩
    · exact ⟨⟨w, by rw [at_set_ne q]; exact e⟩, rfl⟩
  · rcases sl e with ⟨rfl, q⟩ | ⟨n, q⟩
    · cases c with
      | sh d => cases ho
      | ow o0 => cases q
      | io o0 => exact ⟨o0, hc⟩
    · exact ⟨w, q⟩
theorem has_pure {i : Nat} {r : Res O} {ρ' : Env} (e : mHas i ρ = some (r, ρ')) : ρ' = ρ ∧ ∃ o, r = .ok o := by
  unfold mHas at e
  split at e
  · split at e
    · cases e; exact ⟨rfl, _, rfl⟩
    · cases e
  · cases e
theorem has_of {i : Nat} {o : O} (S : Stt C F H σ ρ) (e : mHas i ρ = some (.ok o, ρ)) : ∃ a, σ[i]? = some (some (.ref a)) ∧ ROb C F H a o ∧ F a = none := by
  unfold mHas at e
  split at e
  · rename_i c hc
    split at e
    · rename_i o' ho
      cases e
      obtain ⟨v, e1, r⟩ := S.sl i c hc
      cases r with
      | sh r => cases ho
      | ow r f => cases ho; exact ⟨_, e1, r, f⟩
      | io r f => cases ho; exact ⟨_, e1, r, f⟩
    · cases e
  · cases e
theorem putO_ok {i : Nat} {f : O → Option O} {r : Res Unit} {ρ' : Env} (e : putO i f ρ = some (r, ρ')) : ∃ c o o1, ρ.at i = some c ∧ c.obj = some o ∧ f o = some o1 ∧ r = .ok () ∧ ρ' = ρ.set i (some (c.put o1)) := by
  unfold putO at e
  split at e
  · rename_i c hc
    split at e
    · rename_i o ho
      split at e
      · rename_i o1 h1
        cases e
        exact ⟨c, o, o1, hc, ho, h1, rfl, rfl⟩
      · cases e
    · cases e
  · cases e
/-- what is behind a change of a name's object -/
theorem put_go {i : Nat} {f : O → Option O} {a : Addr} {k : S} (S : Stt C F H σ ρ) (hs : σ[i]? = some (some (.ref a))) (h : tSR C W A0 F ρ (bind (putO i f) fun _ => k) G σ H) :
    ∃ o o1, ROb C F H a o ∧ F a = none ∧ f o = some o1 ∧ ∀ u, ROb C F (upd H a u) a o1 → ∃ ρ', Stt C F (upd H a u) σ ρ' ∧ Tr [] σ F H ρ σ F (upd H a u) ρ' ∧ tSR C W A0 F ρ' k G σ (upd H a u) := by
  obtain ⟨r, ρ', e, h⟩ := h
  unfold bind at e
  split at e
  · cases e
  · rename_i em
    obtain ⟨_, _, _, _, _, _, z, _⟩ := putO_ok em
    cases z
  · rename_i x ρ2 em
    obtain ⟨c, o, o1, hc, ho, hf, _, rfl⟩ := putO_ok em
    obtain ⟨v, e1, r1⟩ := S.sl i c hc
    rw [hs] at e1
    cases e1
    have rr : ROb C F H a o ∧ F a = none := by
      cases r1 with
      | sh q => cases ho
      | ow q g => cases ho; exact ⟨q, g⟩
      | io q g => cases ho; exact ⟨q, g⟩
    refine ⟨o, o1, rr.1, rr.2, hf, fun u ru => ?_⟩
    obtain ⟨w, hw⟩ := rr.1.some
    obtain ⟨S1, T1⟩ := put_own S hc ho hs rr.2 (by rw [hw]; simp) ru
    refine ⟨_, S1, T1, ?_⟩
    have q : tSR C W A0 F ρ (fun _ => k (ρ.set i (some (c.put o1)))) G σ H := ⟨r, ρ', e, h⟩
    obtain ⟨r2, ρ2, e2, h2⟩ := tSR_from (A1 := A0) (T1.hand fun _ z => nomatch z) (fun _ m => .inr (.inl m)) rfl q
    exact ⟨r2, ρ2, e2, h2⟩
theorem keyS_inv {k : D} (h : keyS k = true) : ∃ t, k = .str t := by
  cases k with
  | str t => exact ⟨t, rfl⟩
  | _ => cases h
theorem keyOf_str {k : D} (h : keyOf false k = true) : ∃ t, k = .str t := keyS_inv h
theorem reps_set {F : Hp} : ∀ {xs : List V} {ds : List D}, Reps C F xs ds → ∀ (j : Nat) {v : V} {d : D}, Rep C F v d → Reps C F (xs.set j v) (ds.set j d)
  | _, _, .nil, _, _, _, _ => .nil
  | _, _, .cons _ t, 0, _, _, r => .cons r t
  | _, _, .cons q t, j + 1, _, _, r => .cons q (reps_set t j r)
theorem tSR_kept2 {b c : B} {x y : V} {A A' : List Addr} {k : List D → S} (S : Stt C F H σ ρ) (r : RB C σ F H x b A) (r' : RB C σ F H y c A') (f : Fp σ F H ρ (A ++ A')) (h : tSR C W (A ++ A') F ρ (bind (kept [b, c]) k) G σ H) :
    ∃ d e F1, Stt C F1 H σ ρ ∧ Tr (A ++ A') σ F H ρ σ F1 H ρ ∧ Rep C F1 x d ∧ Rep C F1 y e ∧ tSR C W [] F1 ρ (k [d, e]) G σ H := by
  obtain ⟨ds, ek, h⟩ := tSR_step h fun r ρ' e => by
    unfold kept at e
    split at e
    · exact dats_pure e
    · cases e
  obtain ⟨_, n, ed⟩ := kept_ok ek
  obtain ⟨S1, T1⟩ := share S f
  have rs : RBs C σ F H [x, y] [b, c] (A ++ (A' ++ [])) := .cons r (.cons r' .nil)
  have rp := rs.in_ (sub_addF f) (fun a m o q => by rw [addF_in (by simpa using m)]; exact q) n ed
  cases rp with
  | cons r1 t =>
    cases t with
    | cons r2 t =>
      cases t
      exact ⟨_, _, _, S1, T1, r1, r2, tSR_from T1 (A1 := []) (fun _ z => nomatch z) rfl h⟩
theorem tSR_hand {m : S} {A1 : List Addr} (h : tSR C W A1 F ρ m G σ H) (n : New A0 σ H ρ A1) : True := trivial
/-- x[k] = e: a list, a dict of texts -/
theorem sim_ixset {i : Nat} {x : Str} {k e : Expr} {mk me : M B} {p p2 pos : Pos} (hu : Hu X) (hN : X.N[i]? = some x) (hv : Vis X.env.scope x) (hd : (x == ("__debug__" : Str)) = false) (hcd : (x == ("__classdict__" : Str)) = false) (ha : SimE cl X e me) (hk : SimE cl X k mk)
    (hs : swapsWithSole [.Subscript (.Name x p) k p2] e pos.line X.env = pure false) (hw : swappedStores [.Subscript (.Name x p) k p2] e X.env = pure none) (h1 : (assignEach [.Subscript (.Name x p) k p2] X.env).map (·.2) = [assign (.Subscript (.Name x p) k p2) X.env])
    (hx : ∀ v, assign (.Subscript (.Name x p) k p2) X.env v = (do
      let ov ← holding [v] (eval (.Name x p) X.env)
      let iv ← holding [v, ov] (eval k X.env)
      standAt p2
      holding [v, ov, iv] (setItem ov iv v)
      release [v, ov, iv] [])) : SimS cl X (.Assign [.Subscript (.Name x p) k p2] e pos) (sIxSet i mk me) := fun W tk => by
  have hset : PSet X (fun o i v H Q => rSetL o i v H Q ∨ ∃ a H', o = .ref a ∧ DPut H a i v H' ∧ Q H') := by
    intro pins s σ H o i v ov iv u Q I ro ri rv h
    rcases h with h | ⟨a, H', rfl, g, q⟩
    · exact set_list pins s σ H o i v ov iv u Q I ro ri rv h
    · obtain rfl : ov = Value.ref a := ro
      exact d_setItem (by have : X.A.units + 65 < cLine := hu; omega) I g ri rv fun s' I' => ⟨H', I', q⟩
  refine PS.imp (ps_asg (ha W tk) (pg_sub (pe_var hN hv hd hcd) (hk W tk) hset hx) hs hw h1) fun D σ H ⟨F, ρ, S, h⟩ => ?_
  refine tSR_bind (R := RlB) S h fun v b A F1 H1 ρ1 T1 S1 r1 f1 n1 q => ?_
  obtain ⟨o, eo, q⟩ := tSR_step q fun _ _ => has_pure
  obtain ⟨a, es, ro, fo⟩ := has_of S1 eo
  refine ⟨.ref a, es, ?_⟩
  refine tSR_bind (R := RlB) S1 q fun y c A' F2 H2 ρ2 T2 S2 r2 f2 n2 q => ?_
  rw [List.nil_append] at q
  obtain ⟨d, g, F3, S3, T3, rd, rg, q⟩ := tSR_kept2 S2 (r1.mono (F' := F2) (H' := H2) T2.sub fun z m => f1.keep T2 m) r2 (f1.append T2 f2 n2) q
  obtain ⟨o2, o3, ro2, fo2, hf, go⟩ := put_go (i := i) S3 es q
  have fin : ∀ u, ROb (cs cl X) F3 (upd H2 a u) a o3 → D.nx σ (upd H2 a u) := fun u ru => by
    obtain ⟨ρ', S4, T4, q4⟩ := go u ru
    exact tSR_nx q4 σ F3 _ Tr.refl S4
  unfold setAt at hf
  split at hf
  · split at hf
    · rename_i j
      split at hf
      · rename_i hj
        cases hf
        obtain ⟨h0, hj⟩ := dec_and hj
        cases rg
        cases ro2 with
        | @lst xs ds hH rx =>
          refine .inl ⟨a, xs, j, j.toNat, rfl, rfl, hH, ?_, fin _ (.lst upd_same (reps_set rx _ rd))⟩
          unfold ixN
          rw [rx.length, if_pos h0, if_pos (by omega)]
      · cases hf
    · cases hf
  · rename_i kvs
    split at hf
    · rename_i hl
      split at hf
      · rename_i hk
        cases hf
        obtain ⟨t, rfl⟩ := keyOf_str hk
        cases rg with
        | str _ ot =>
          cases ro2 with
          | @dicS xs _ hH rx =>
            exact .inr ⟨a, _, rfl, DPut.k (k := Sum.inr (mkS t)) hH (by rw [rx.length, ← lim_eq]; exact hl), fin _ (.dicS upd_same (repS_put rx ot rd))⟩
      · cases hf
    · cases hf
  · cases hf
  · cases hf

/-! ### append -/
theorem tR_put {i : Nat} {f : O → Option O} {a : Addr} {α β : Type} {R : Rl β α} {Q : β → Hp → Prop} {k : M α} (S : Stt C F H σ ρ) (hs : σ[i]? = some (some (.ref a))) (h : tR C R W A0 F ρ (bind (putO i f) fun _ => k) σ H Q) :
    ∃ o o1, ROb C F H a o ∧ F a = none ∧ f o = some o1 ∧ ∀ u, ROb C F (upd H a u) a o1 → ∃ ρ', Stt C F (upd H a u) σ ρ' ∧ Tr [] σ F H ρ σ F (upd H a u) ρ' ∧ tR C R W A0 F ρ' k σ (upd H a u) Q := by
  obtain ⟨r, ρ', e, h⟩ := h
  unfold bind at e
  split at e
  · cases e
  · rename_i em
    obtain ⟨_, _, _, _, _, _, z, _⟩ := putO_ok em
    cases z
  · rename_i x ρ2 em
    obtain ⟨c, o, o1, hc, ho, hf, _, rfl⟩ := putO_ok em
    obtain ⟨v, e1, r1⟩ := S.sl i c hc
    rw [hs] at e1
    cases e1
    have rr : ROb C F H a o ∧ F a = none := by
      cases r1 with
      | sh q => cases ho
      | ow q g => cases ho; exact ⟨q, g⟩
      | io q g => cases ho; exact ⟨q, g⟩
    refine ⟨o, o1, rr.1, rr.2, hf, fun u ru => ?_⟩
    obtain ⟨w, hw⟩ := rr.1.some
    obtain ⟨S1, T1⟩ := put_own S hc ho hs rr.2 (by rw [hw]; simp) ru
    refine ⟨_, S1, T1, r, ρ', e, ?_⟩
    have T0 : Tr A0 σ F H ρ σ F (upd H a u) (ρ.set i (some (c.put o1))) := T1.hand fun _ z => nomatch z
    have nn : New A0 σ H ρ A0 := fun _ m => .inr (.inl m)
    cases r with
    | ok b => exact fun v A F' H' T' S' rl fp nw => h v A F' H' (T0.trans nn (T'.hand fun _ m => List.mem_append_right _ m)) S' rl fp (New.trans T0 nn fun x z => (nw x z).imp id fun q => q.imp (List.mem_append_right _) id)
    | exc c p => exact fun cls d F' H' T' S' x => h cls d F' H' (T0.trans nn (T'.hand fun _ m => List.mem_append_right _ m)) S' x
theorem sim_app {i : Nat} {x : Str} {e : Expr} {me : M B} {p ap cp : Pos} (hN : X.N[i]? = some x) (hv : Vis X.env.scope x) (hd : (x == ("__debug__" : Str)) = false) (hcd : (x == ("__classdict__" : Str)) = false) (ha : SimE cl X e me)
    (hbase : attributeBase (.Name x p) "append" X.env (eval (.Name x p) X.env) = eval (.Name x p) X.env)
    (hfew : ((backTo cp (starEach [e] X.env)).all (fun x => !x.1) && (backToKw cp (keywordEach [] X.env)).all (fun x => x.1.isSome) && decide (([e] : List Expr).length + ([] : List Keyword).length + (if ([] : List Keyword).isEmpty then 0 else 1) < 30)) = true)
    (hline : (ap.endLine == cp.line) = true) (hs : starEach [e] X.env = (false, eval e X.env) :: starEach [] X.env) (hplain : (backTo cp (starEach [] X.env)).any (·.1) = false) : SimE cl X (.Call (.Attribute (.Name x p) "append" ap) [e] [] cp) (mApp i me) := fun W tk =>
  PE.imp (pe_bm PySem.F.plainAttrs_list PySem.F.slot_list_append PySem.F.type_list_append mt_append (pe_var hN hv hd hcd) (pa_cons (ha W tk) pa_nil hs) hbase hfew hline hs hplain) fun σ H Q ⟨F, ρ, S, h⟩ => by
    obtain ⟨o, eo, h⟩ := tR_step h fun _ _ => has_pure
    obtain ⟨a, es, ro, fo⟩ := has_of S eo
    obtain ⟨hl, h⟩ := tR_if h
    cases ro with
    | @lst xs ds hH rx =>
      refine ⟨.ref a, es, .inl ⟨rfl, xs, .inl (.inl hH)⟩, ?_⟩
      refine tM_bind (R1 := RlB) S h fun v b A F1 H1 ρ1 T1 S1 r1 f1 n1 q => ?_
      obtain ⟨d, F2, S2, rd, sb, q⟩ := kept1 S1 r1 f1 q
      obtain ⟨o, o1, ro2, fo2, hf, go⟩ := tR_put S2 es q
      unfold addAt at hf
      split at hf
      · split at hf
        · rename_i xs' hlen
          cases hf
          cases ro2 with
          | @lst ys _ hY ry =>
            refine ⟨a, ys, v, rfl, rfl, hY, by rw [ry.length, ← lim_eq]; exact hlen, ?_⟩
            obtain ⟨ρ', S3, T3, q⟩ := go (.lst (ys ++ [v])) (.lst upd_same (ry.append (.cons rd .nil)))
            exact (tR_ret q).data S3 .non
        · cases hf
      · cases hf
    | dicS h r => cases hl
    | dicT h r => cases hl
    | ins h r => cases hl
/-! ### several names -/
theorem own_rel2 {v : V} {x : B} {b : SB} {ρ2 : Env} (S : Stt C F H σ ρ) (rl : RB C σ F H v x A) (fp : Fp σ F H ρ A) (e : ownB x ρ = some (.ok b, ρ2)) :
    ρ2 = ρ ∧ ∃ F1, Stt C F1 H σ ρ ∧ Tr A σ F H ρ σ F1 H ρ ∧ RSB C F1 H v b ∧ (∀ o, b ≠ .io o) ∧ (∀ a, b.obj.isSome = true → v = .ref a → ¬ Owns σ ρ a ∧ a ∈ A ∧ H a ≠ none) ∧ ∀ a, a ∉ A → F1 a = F a := by
  cases x with
  | tp bs =>
    obtain ⟨z, _⟩ := lift_pure e
    subst z
    have e := lift_ok e
    obtain ⟨ds, e1, rfl⟩ := Option.map_eq_some_iff.mp e
    obtain ⟨S1, T1⟩ := share S fp
    cases rl with
    | tp q r =>
      exact ⟨rfl, _, S1, T1, .sh (.tup ((sub_addF fp).sqT q) (rtp_in r (sub_addF fp) (fun a m o q => by rw [addF_in m]; exact q) e1)), fun o z => (nomatch z), fun a z => (nomatch z), fun a m => addF_out m⟩
  | sh d =>
    cases e
    cases rl with
    | sh r => exact ⟨rfl, F, S, Tr.refl, .sh r, fun o z => (nomatch z), fun a z => (nomatch z), fun a _ => rfl⟩
  | ow o =>
    cases e
    cases rl with
    | ow r => exact ⟨rfl, F, S, Tr.refl, .ow r (fp.nf _ (by simp)), fun o z => (nomatch z), fun a _ z => by cases z; exact ⟨fp.no _ (by simp), by simp, fp.th _ (by simp)⟩, fun a _ => rfl⟩
  | pl i => cases e
/-- the bindings that values are given: their objects A are new -/
inductive RWs (C : Cs) (F H : Hp) : List V → List SB → List Addr → Prop
  | nil : RWs C F H [] [] []
  | sh {v : V} {d : D} {vs : List V} {bs : List SB} {A : List Addr} : Rep C F v d → RWs C F H vs bs A → RWs C F H (v :: vs) (.sh d :: bs) A
  | ow {a : Addr} {o : O} {vs : List V} {bs : List SB} {A : List Addr} : ROb C F H a o → RWs C F H vs bs A → RWs C F H (.ref a :: vs) (.ow o :: bs) (a :: A)
theorem RWs.of_tp {xs : List V} {bs : List SB} (r : RTp C F H xs bs A) : RWs C F H xs bs A := by
  induction r with
  | nil => exact .nil
  | sh r t ih => exact .sh r ih
  | ow r t ih => exact .ow r ih
theorem RWs.of_reps : ∀ {xs : List V} {ds : List D}, Reps C F xs ds → RWs C F H xs (ds.map SB.sh) []
  | _, _, .nil => .nil
  | _, _, .cons r t => .sh r (RWs.of_reps t)
theorem RWs.mono {F' H' : Hp} {xs : List V} {bs : List SB} (h : RWs C F H xs bs A) (s : Sub F F') (k : ∀ a ∈ A, ∀ o, H a = some o → H' a = some o) : RWs C F' H' xs bs A := by
  induction h with
  | nil => exact .nil
  | sh r t ih => exact .sh (r.mono s) (ih k)
  | ow r t ih => exact .ow (r.mono s (k _ List.mem_cons_self)) (ih fun a m => k a (List.mem_cons_of_mem _ m))
/-- names bound one after another -/
theorem bindSs_go {G : Ends} : ∀ {is : List Nat} {vs : List V} {bs : List SB} {A : List Addr} {σ : St} {ρ : Env}, Stt C F H σ ρ → RWs C F H vs bs A → Fp σ F H ρ A → tSR C W A F ρ (bindSs is bs) G σ H → gSlots is vs σ H G.nx
  | [], _, _, _, σ, ρ, S, .nil, fp, h => ⟨rfl, tSR_nx h σ F H Tr.refl S⟩
  | [], _, _, _, _, _, _, .sh _ _, _, h => tSR_stuck h
  | [], _, _, _, _, _, _, .ow _ _, _, h => tSR_stuck h
  | _ :: _, _, _, _, _, _, _, .nil, _, h => tSR_stuck h
  | i :: is, v :: vs, _, A, σ, ρ, S, .sh (d := d) (bs := bs) r t, fp, h => by
    have h : tSR C W A F ρ (sSeq (bindS i (.sh d)) (bindSs is bs)) G σ H := h
    obtain ⟨r', ρ', e, h⟩ := h
    unfold sSeq bind bindS at e
    cases ep : putS ρ i (.sh d) with
    | none => rw [ep] at e; cases e
    | some ρ2 =>
      rw [ep] at e
      obtain ⟨S1, T1⟩ := put_sh S r ep
      have q : tSR C W A F ρ (fun _ => bindSs is bs ρ2) G σ H := ⟨r', ρ', e, h⟩
      obtain ⟨r2, ρ2', e2, h2⟩ := tSR_from (A1 := A) (T1.hand fun _ z => nomatch z) (fun _ m => .inr (.inl m)) rfl q
      exact ⟨v, vs, rfl, bindSs_go S1 t (fp.tr T1) ⟨r2, ρ2', e2, h2⟩⟩
  | i :: is, _, _, _, σ, ρ, S, .ow (a := a) (o := o) (vs := vs) (bs := bs) (A := A) r t, fp, h => by
    have h : tSR C W (a :: A) F ρ (sSeq (bindS i (.ow o)) (bindSs is bs)) G σ H := h
    obtain ⟨r', ρ', e, h⟩ := h
    unfold sSeq bind bindS at e
    cases ep : putS ρ i (.ow o) with
    | none => rw [ep] at e; cases e
    | some ρ2 =>
      rw [ep] at e
      obtain ⟨nd1, nd2⟩ := List.nodup_cons.mp fp.nd
      obtain ⟨S1, T1⟩ := bind_slot (A := [a]) S ep (fun o z => (nomatch z)) (.ow r (fp.nf a List.mem_cons_self)) fun x _ z => by
        cases z; exact ⟨fp.no a List.mem_cons_self, List.mem_cons_self, fp.th a List.mem_cons_self⟩
      have q : tSR C W (a :: A) F ρ (fun _ => bindSs is bs ρ2) G σ H := ⟨r', ρ', e, h⟩
      obtain ⟨r2, ρ2', e2, h2⟩ := tSR_from (A1 := A) (T1.hand fun x m => by rw [List.mem_singleton.mp m]; exact List.mem_cons_self) (fun x m => .inr (.inl (List.mem_cons_of_mem _ m))) rfl q
      refine ⟨.ref a, vs, rfl, bindSs_go S1 t ⟨nd2, fun x m => fp.nf x (List.mem_cons_of_mem _ m), fun x m z => ?_, fun x m => fp.th x (List.mem_cons_of_mem _ m)⟩ ⟨r2, ρ2', e2, h2⟩⟩
      rcases T1.own x z with z | z | z
      · exact fp.no x (List.mem_cons_of_mem _ m) z
      · rw [List.mem_singleton.mp z] at m; exact nd1 m
      · exact fp.th x (List.mem_cons_of_mem _ m) z
/-- what several expressions give, as bindings -/
theorem ownBs_rel : ∀ {vs : List V} {bs : List B} {A : List Addr} {F : Hp} {sbs : List SB} {ρ2 : Env}, Stt C F H σ ρ → RBs C σ F H vs bs A → Fp σ F H ρ A → ownBs bs ρ = some (.ok sbs, ρ2) →
    ρ2 = ρ ∧ ∃ F1 A1, Stt C F1 H σ ρ ∧ Tr A σ F H ρ σ F1 H ρ ∧ RWs C F1 H vs sbs A1 ∧ Fp σ F1 H ρ A1 ∧ (∀ a ∈ A1, a ∈ A) ∧ ∀ a, a ∉ A → F1 a = F a
  | _, _, _, F, _, _, S, .nil, fp, e => by
    cases e
    exact ⟨rfl, F, [], S, Tr.refl, .nil, Fp.nil, fun a m => m, fun _ _ => rfl⟩
  | _, _, _, F, _, _, S, .cons (v := v) (b := b) (vs := vs) (bs := bs) (A := A) (A' := A') r t, fp, e => by
    obtain ⟨x, ρ3, e1, e'⟩ := bind_ok e
    obtain ⟨hρ, F1, S1, T1, r1, nio, f1, o1⟩ := own_rel2 S r fp.left e1
    rw [hρ] at e'
    obtain ⟨xs, ρ4, e2, e''⟩ := bind_ok e'
    cases e''
    obtain ⟨n1, n2, n3⟩ := List.nodup_append.mp fp.nd
    have fpr : Fp σ F1 H ρ A' := ⟨n2, fun a m => by rw [o1 a fun q => n3 a q a m rfl]; exact fp.right.nf a m, fp.right.no, fp.right.th⟩
    obtain ⟨hρ2, F2, A2, S2, T2, r2, f2, i2, o2⟩ := ownBs_rel S1 (t.mono T1.sub fun a _ o z => z) fpr e2
    have TT : Tr (A ++ A') σ F H ρ σ F2 H ρ := (T1.hand fun a m => List.mem_append_left _ m).trans (A1 := []) (fun _ z => nomatch z) (T2.hand fun a m => List.mem_append_left _ (List.mem_append_right _ m))
    have oo : ∀ a, a ∉ A ++ A' → F2 a = F a := fun a m => (o2 a fun q => m (List.mem_append_right _ q)).trans (o1 a fun q => m (List.mem_append_left _ q))
    cases r1 with
    | sh r1 => exact ⟨hρ2, F2, A2, S2, TT, .sh (r1.mono T2.sub) r2, f2, fun a m => List.mem_append_right _ (i2 a m), oo⟩
    | @ow a o r1 g1 =>
      obtain ⟨q1, q2, q3⟩ := f1 _ rfl rfl
      have na : a ∉ A' := fun m => n3 a q2 a m rfl
      refine ⟨hρ2, F2, a :: A2, S2, TT, .ow (r1.mono T2.sub fun _ z => z) r2, ⟨List.nodup_cons.mpr ⟨fun m => na (i2 a m), f2.nd⟩, fun x m => ?_, fun x m => ?_, fun x m => ?_⟩, fun x m => ?_, oo⟩
      · rcases List.mem_cons.mp m with rfl | m
        · rw [o2 x na]; exact g1
        · exact f2.nf x m
      · rcases List.mem_cons.mp m with rfl | m
        · exact q1
        · exact f2.no x m
      · rcases List.mem_cons.mp m with rfl | m
        · exact q3
        · exact f2.th x m
      · rcases List.mem_cons.mp m with rfl | m
        · exact List.mem_append_left _ q2
        · exact List.mem_append_right _ (i2 x m)
    | io r1 g1 => exact absurd rfl (nio _)
theorem bind_cases {α β : Type} {m : M α} {k : α → M β} {ρ : Env} {r : Res β} {ρ' : Env} (h : bind m k ρ = some (r, ρ')) : (∃ c p, m ρ = some (.exc c p, ρ') ∧ r = .exc c p) ∨ ∃ a ρ1, m ρ = some (.ok a, ρ1) ∧ k a ρ1 = some (r, ρ') := by
  unfold bind at h
  split at h
  · cases h
  · cases h; exact .inl ⟨_, _, by assumption, rfl⟩
  · exact .inr ⟨_, _, by assumption, h⟩
theorem ownBs_pure : ∀ {bs : List B} {ρ : Env} {r : Res (List SB)} {ρ' : Env}, ownBs bs ρ = some (r, ρ') → ρ' = ρ ∧ ∃ b, r = .ok b
  | [], ρ, r, ρ', e => by cases e; exact ⟨rfl, _, rfl⟩
  | b :: bs, ρ, r, ρ', e => by
    rcases bind_cases e with ⟨c, p, h, _⟩ | ⟨x, ρ1, h, e'⟩
    · obtain ⟨_, _, z⟩ := ownB_pure h
      cases z
    · obtain ⟨h1, _⟩ := ownB_pure h
      rcases bind_cases e' with ⟨c, p, h', _⟩ | ⟨xs, ρ2, h', e''⟩
      · obtain ⟨_, _, z⟩ := ownBs_pure h'
        cases z
      · obtain ⟨h3, _⟩ := ownBs_pure h'
        cases e''
        exact ⟨h3.trans h1, _, rfl⟩
/-- the values of a parallel assignment, then the names -/
theorem par_core {is : List Nat} {ms : M (List B)} {G : Ends} (h : tS C W (sPar is ms) G σ H) : tM C RlL W ms σ H fun vs H1 => ∃ F ρ A sbs, Stt C F H1 σ ρ ∧ RWs C F H1 vs sbs A ∧ Fp σ F H1 ρ A ∧ tSR C W A F ρ (bindSs is sbs) G σ H1 := by
  obtain ⟨F, ρ, S, h⟩ := h
  refine tSR_bind (R := RlL) S h fun vs bs A F1 H1 ρ1 T S1 rl fp nw q => ?_
  obtain ⟨sbs, eb, q⟩ := tSR_step q fun _ _ => ownBs_pure
  obtain ⟨_, F2, A2, S2, T2, r2, f2, i2, _⟩ := ownBs_rel S1 rl fp eb
  exact ⟨F2, ρ1, A2, sbs, S2, r2, f2, tSR_from (A1 := A2) (T2.hand fun z m => by rw [List.nil_append]; exact m) (fun z m => .inr (.inl (by rw [List.nil_append]; exact i2 z m))) rfl q⟩
theorem sim_par {i j : Nat} {x y : Str} {a b : Expr} {ms : M (List B)} {px py pt pos : Pos} {kt k2 pt2} (hc : X.calm = true) (hN : X.N.Nodup) (hi : X.N[i]? = some x) (hj : X.N[j]? = some y) (hij : i ≠ j) (hx : X.env.scope.names.lookup x = some .local) (hy : X.env.scope.names.lookup y = some .local)
    (ha : SimA cl X [a, b] ms) (hw : swappedStores [.Tuple [.Name x px, .Name y py] kt pt] (.Tuple [a, b] k2 pt2) X.env = pure (some [x, y])) (hs : swapsWithSole [.Tuple [.Name x px, .Name y py] kt pt] (.Tuple [a, b] k2 pt2) pos.line X.env = pure false) :
    SimS cl X (.Assign [.Tuple [.Name x px, .Name y py] kt pt] (.Tuple [a, b] k2 pt2) pos) (sPar [i, j] ms) := fun W tk => PS.imp (ps_par hc hN hi hj hij hx hy (ha W tk) hw hs) fun D σ H ⟨F, ρ, S, h⟩ => by
    obtain ⟨F0, ρ0, S0, r0⟩ := par_core ⟨F, ρ, S, h⟩
    refine ⟨F0, ρ0, S0, tR_mono r0 fun vs H1 ⟨F1, ρ1, A, sbs, S1, rw1, f1, q⟩ => ?_⟩
    obtain ⟨v, r, rfl, w, r2, rfl, rfl, q⟩ := bindSs_go S1 rw1 f1 q
    exact ⟨v, w, rfl, q⟩
/-- the same where a name is a cell: the tuple is made -/
theorem sim_parT {is : List Nat} {ts es : List Expr} {ms : M (List B)} {pt pos : Pos} {kt k2 pt2} {n : Nat} (hc : X.calm = true) (hl : is.length = n) (hlt : n ≤ 1000) (hg : PGs X ts (gSlots is)) (hn : (assignEach ts X.env).length = n) (hst : (assignEach ts X.env).findIdx? (·.1) = none)
    (ha : SimA cl X es ms) (hs : swapsWithSole [.Tuple ts kt pt] (.Tuple es k2 pt2) pos.line X.env = pure false) (hw : swappedStores [.Tuple ts kt pt] (.Tuple es k2 pt2) X.env = pure none) (h1 : (assignEach [.Tuple ts kt pt] X.env).map (·.2) = [assign (.Tuple ts kt pt) X.env]) :
    SimS cl X (.Assign [.Tuple ts kt pt] (.Tuple es k2 pt2) pos) (sPar is ms) := fun W tk => PS.imp (ps_asg (pe_tup (ha W tk)) (pg_tup hc hg hn hst) hs hw h1) fun D σ H ⟨F, ρ, S, h⟩ => by
    obtain ⟨F0, ρ0, S0, r0⟩ := par_core ⟨F, ρ, S, h⟩
    refine ⟨F0, ρ0, S0, tR_mono r0 fun vs H1 ⟨F1, ρ1, A, sbs, S1, rw1, f1, q⟩ => ?_⟩
    have lens : ∀ {is : List Nat} {vs : List V} {σ : St} {H : Hp} {Q : St → Hp → Prop}, gSlots is vs σ H Q → vs.length = is.length := fun {is} => by
      induction is with
      | nil => intro vs σ H Q h; obtain ⟨e, _⟩ := h; rw [e]; rfl
      | cons i is ih => intro vs σ H Q h; obtain ⟨v, r, rfl, h⟩ := h; simp [ih h]
    have hlen := lens (bindSs_go S1 rw1 f1 q)
    refine ⟨by rw [hlen, hl, sizeLine_eq]; omega, fun p hp => ⟨p, vs, rfl, .inl (.inl upd_same), by rw [hlen, hl], ?_⟩⟩
    obtain ⟨S2, T2, f2, n2⟩ := new_own (o := .tup vs) S1 hp
    have f3 := f1.tr T2
    exact bindSs_go S2 (rw1.mono T2.sub fun a m => f1.keep T2 m) f3 (tSR_from (A1 := A) (T2.hand fun _ z => nomatch z) (fun _ m => .inr (.inl m)) rfl q)
/-- a, b = e -/
theorem sim_unp {is : List Nat} {ts : List Expr} {e : Expr} {m : M B} {pt pos : Pos} {kt} {n : Nat} (hc : X.calm = true) (hl : is.length = n) (hg : PGs X ts (gSlots is)) (hn : (assignEach ts X.env).length = n) (hst : (assignEach ts X.env).findIdx? (·.1) = none)
    (ha : SimE cl X e m) (hs : swapsWithSole [.Tuple ts kt pt] e pos.line X.env = pure false) (hw : swappedStores [.Tuple ts kt pt] e X.env = pure none) (h1 : (assignEach [.Tuple ts kt pt] X.env).map (·.2) = [assign (.Tuple ts kt pt) X.env]) :
    SimS cl X (.Assign [.Tuple ts kt pt] e pos) (sUnp is m) := fun W tk => PS.imp (ps_asg (ha W tk) (pg_tup hc hg hn hst) hs hw h1) fun D σ H ⟨F, ρ, S, h⟩ => by
    refine tSR_bind (R := RlB) S h fun v b A F1 H1 ρ1 T S1 rl fp nw q => ?_
    have lens : ∀ {is : List Nat} {vs : List V} {σ : St} {H : Hp} {Q : St → Hp → Prop}, gSlots is vs σ H Q → vs.length = is.length := fun {is} => by
      induction is with
      | nil => intro vs σ H Q h; obtain ⟨e, _⟩ := h; rw [e]; rfl
      | cons i is ih => intro vs σ H Q h; obtain ⟨v, r, rfl, h⟩ := h; simp [ih h]
    have other : tSR (cs cl X) W ([] ++ A) F1 ρ1 (bind (kept [b]) fun ds => match ds with | [.tup vs] => bindSs is (vs.map SB.sh) | _ => stuck) D σ H1 → gTup X.K n (gSlots is) v σ H1 D.nx := fun q => by
      obtain ⟨ds, ek, q⟩ := tSR_step q fun r ρ' e => by
        unfold kept at e
        split at e
        · exact dats_pure e
        · cases e
      obtain ⟨_, nn, ed⟩ := kept_ok ek
      obtain ⟨S2, T2⟩ := share S1 fp
      have rs : RBs (cs cl X) σ F1 H1 [v] [b] (A ++ []) := .cons rl .nil
      have rp := rs.in_ (sub_addF fp) (fun a m o q => by rw [addF_in (by simpa using m)]; exact q) nn ed
      cases rp with
      | @cons _ _ d _ r1 t =>
        cases t
        cases d with
        | tup vs =>
          cases r1 with
          | tup g r =>
            have h := bindSs_go (A := []) S2 (RWs.of_reps r) Fp.nil (tSR_from (A1 := []) (T2.hand fun a m => by rw [List.nil_append]; exact m) (fun _ z => nomatch z) rfl q)
            exact ⟨_, _, rfl, S2.sub.sqT g, by rw [lens h, hl], h⟩
        | _ => exact tSR_stuck q
    cases b with
    | sh d => exact other q
    | ow o => exact other q
    | pl i => exact other q
    | tp bs =>
      cases rl with
      | tp g r =>
        have h := bindSs_go S1 (RWs.of_tp r) fp q
        exact ⟨_, _, rfl, S1.sub.sqT g, by rw [lens h, hl], h⟩
/-! ### errors -/
theorem sim_raise {e : Expr} {pos : Pos} {c : Nat} (hc : X.calm = true) (he : PMk X e (fun _ H Q => Q (.ref (cl c)) none H)) : SimS cl X (.Raise (some e) none pos) (sRaise c) := fun W tk => PS.imp (ps_raise hc tk he) fun D σ H ⟨F, ρ, S, r, ρ', e, h⟩ => by
  cases e
  exact h _ _ σ F H Tr.refl S ⟨rfl, rfl⟩
/-- the clauses of a try -/
inductive SimH (cl : Nat → Addr) (X : Cx) (n : Nat) : List ExceptHandler → List ((Nat → Bool) × WF.S) → Prop
  | nil : SimH cl X n [] []
  | cons {x : Str} {c : Value} {b₀ : Stmt} {suite : List Stmt} {np pos' : Pos} {hds : List ExceptHandler} {l : List ((Nat → Bool) × WF.S)} {t : Nat → Bool} {s : WF.S} (hc : Names X x c) (ht : ∀ k, k < n → PySem.W.exmOne X.K (.ref (cl k)) c = some (t k))
      (hsu : ∀ a pn, SimB cl (X.suite a pn) (b₀ :: suite) s) (r : SimH cl X n hds l) : SimH cl X n (.ExceptHandler (some (.Name x np)) none (b₀ :: suite) pos' :: hds) ((t, s) :: l)
inductive HdR (cl : Nat → Addr) (X : Cx) (n : Nat) : List ((Nat → Bool) × WF.S) → List (Value × (Addr → Value → Option Addr → TS)) → Prop
  | nil : HdR cl X n [] []
  | cons {c : Value} {t : Nat → Bool} {s : WF.S} {l l'} (ht : ∀ k, k < n → PySem.W.exmOne X.K (.ref (cl k)) c = some (t k)) (r : HdR cl X n l l') : HdR cl X n ((t, s) :: l) ((c, fun _ _ _ => tS (cs cl X) (fun _ _ _ _ => False) s) :: l')
theorem SimH.ok {n : Nat} {hds : List ExceptHandler} {l : List ((Nat → Bool) × WF.S)} (h : SimH cl X n hds l) : ∃ l', HdR cl X n l l' ∧ HdsOk X hds l' := by
  induction h with
  | nil => exact ⟨[], .nil, .nil⟩
  | cons hc ht hsu r ih =>
    obtain ⟨l', h1, h2⟩ := ih
    exact ⟨_, .cons ht h1, .cons hc (fun a oe cls d pn _ _ => hsu a _ _ takes0) h2⟩
/-- what a statement's outcome asks -/
def OutS (C : Cs) (W : WX) (F : Hp) (ρ : Env) (G : Ends) (σ : St) (H : Hp) (r : Res Fl) (ρ' : Env) : Prop := match r with
  | .ok .nx => ∀ σ' F' H', Tr [] σ F H ρ σ' F' H' ρ' → Stt C F' H' σ' ρ' → G.nx σ' H'
  | .ok .bk => ∀ σ' F' H', Tr [] σ F H ρ σ' F' H' ρ' → Stt C F' H' σ' ρ' → G.bk σ' H'
  | .ok .ct => ∀ σ' F' H', Tr [] σ F H ρ σ' F' H' ρ' → Stt C F' H' σ' ρ' → G.ct σ' H'
  | .ok (.rt b) => ∀ v A σ' F' H', Tr [] σ F H ρ σ' F' H' ρ' → Stt C F' H' σ' ρ' → noPl b = true → RB C σ' F' H' v b A → Fp σ' F' H' ρ' A → New [] σ H ρ A → G.rt v H'
  | .exc c p => ∀ cls d σ' F' H', Tr [] σ F H ρ σ' F' H' ρ' → Stt C F' H' σ' ρ' → REx C F' c p cls d H' → W cls d σ' H'
theorem outS_of {m : WF.S} (h : tSR C W [] F ρ m G σ H) : ∃ r ρ', m ρ = some (r, ρ') ∧ OutS C W F ρ G σ H r ρ' := h
theorem OutS.of {m : WF.S} {r : Res Fl} {ρ' : Env} (e : m ρ = some (r, ρ')) (h : OutS C W F ρ G σ H r ρ') : tSR C W [] F ρ m G σ H := ⟨r, ρ', e, h⟩
theorem OutS.late {r : Res Fl} {ρ' ρ1 : Env} {σ1 : St} {F1 H1 : Hp} (h : OutS C W F ρ G σ H r ρ') (T1 : Tr [] σ F H ρ σ1 F1 H1 ρ1) : OutS C W F1 ρ1 G σ1 H1 r ρ' := by
  cases r with
  | ok f =>
    cases f with
    | nx => exact fun σ' F' H' T' S' => h σ' F' H' (T1.trans0 T') S'
    | bk => exact fun σ' F' H' T' S' => h σ' F' H' (T1.trans0 T') S'
    | ct => exact fun σ' F' H' T' S' => h σ' F' H' (T1.trans0 T') S'
    | rt b => exact fun v A σ' F' H' T' S' np rl fp nw => h v A σ' F' H' (T1.trans0 T') S' np rl fp (New.trans T1 (A1 := []) (fun _ z => nomatch z) nw)
  | exc c p => exact fun cls d σ' F' H' T' S' x => h cls d σ' F' H' (T1.trans0 T') S' x
theorem OutS.ends {r : Fl} {ρ' : Env} {W' : WX} (h : OutS C W F ρ G σ H (.ok r) ρ') : OutS C W' F ρ G σ H (.ok r) ρ' := by
  cases r <;> exact h
theorem try_go {n c : Nat} {p : Option (Txt × D)} {cls : Value} {d : Option Addr} {r : Res Fl} {ρ' : Env} {σ1 : St} {F1 H1 : Hp} (hcn : c < n) (T1 : Tr [] σ F H ρ σ1 F1 H1 ρ1) (S1 : Stt (cs cl X) F1 H1 σ1 ρ1) (x : REx (cs cl X) F1 c p cls d H1) (h : OutS (cs cl X) W F ρ G σ H r ρ') {l l'} (hr : HdR cl X n l l') :
    tryGo c p l ρ1 = some (r, ρ') → wMany X.K W G l' cls d σ1 H1 := by
  induction hr with
  | nil =>
    intro e
    cases e
    exact h cls d σ1 F1 H1 T1 S1 x
  | @cons c' t s l l' ht hr ih =>
    intro e
    obtain ⟨rfl, x2⟩ := id x
    refine ⟨t c, ht c hcn, fun tc a ha => ?_, fun tc => ?_⟩
    · have e : (if t c then noExc s else tryGo c p l) ρ1 = some (r, ρ') := e
      rw [if_pos tc] at e
      unfold noExc at e
      split at e
      · rename_i f ρ2 es
        cases e
        exact ⟨F1, ρ1, S1, OutS.of es (h.late T1).ends⟩
      · cases e
    · have e : (if t c then noExc s else tryGo c p l) ρ1 = some (r, ρ') := e
      rw [if_neg (by rw [tc]; exact Bool.false_ne_true)] at e
      exact ih e
theorem sim_try {body : List Stmt} {h₀ : ExceptHandler} {hds : List ExceptHandler} {pos : Pos} {n : Nat} {mb : WF.S} {l : List ((Nat → Bool) × WF.S)} (hs : X.stack = X.env :: X.outer) (hf : X.env.frame = some X.env.locals)
    (hb : ∀ pn xe, PassesOwn (model X.prog X.w) X.A X.env xe → SimB cl (X.tr pn xe) body mb) (hh : SimH cl X n (h₀ :: hds) l) : SimS cl X (.Try body (h₀ :: hds) [] [] pos) (sTry n mb l) := fun W tk => by
  obtain ⟨l', hr, ok⟩ := hh.ok
  refine PS.imp (ps_try_many (tb := fun W => tS (cs cl X) W mb) hs hf tk (fun W pn xe tk' po => hb pn xe po W tk') ok) fun D σ H ⟨F, ρ, S, h⟩ => ?_
  obtain ⟨r, ρ', e, h⟩ := outS_of h
  refine ⟨F, ρ, S, ?_⟩
  unfold sTry at e
  split at e
  · rename_i c p ρ1 em
    split at e
    · rename_i hcn
      exact OutS.of em fun cls d σ1 F1 H1 T1 S1 x => try_go hcn T1 S1 x h hr e
    · cases e
  · rename_i f ρ1 em
    cases e
    exact OutS.of em h.ends
  · cases e
end
end WF

set_option Elab.async false
set_option linter.all false
set_option maxRecDepth 100000
set_option maxHeartbeats 4000000
/-! WFN: the rules in short forms, for a program that prints them. -/
namespace WF
open PySem PySem.Spec PyProof.Rows L2

/-- a name that is nothing special -/
structure Nm (x : Str) : Prop where
  d : (x == ("__debug__" : Str)) = false
  c : (x == ("__classdict__" : Str)) = false
def nmB (x : Str) : Bool := !(x == ("__debug__" : Str)) && !(x == ("__classdict__" : Str))
theorem nm_of {x : Str} (h : nmB x = true) : Nm x := by
  unfold nmB at h
  rw [Bool.and_eq_true, Bool.not_eq_true', Bool.not_eq_true'] at h
  exact ⟨h.1, h.2⟩
def plainE : Expr → Bool
  | .Starred _ _ => false
  | _ => true
theorem star_cons {e : Expr} {es : List Expr} {env : PySem.Env} (h : plainE e = true) : starEach (e :: es) env = (false, eval e env) :: starEach es env := by
  cases e <;> first | rfl | cases h
def allP : List Expr → Bool
  | [] => true
  | e :: es => plainE e && allP es
theorem star_any {pos : Pos} {env : PySem.Env} : ∀ {es : List Expr}, allP es = true → (backTo pos (starEach es env)).any (·.1) = false
  | [], _ => rfl
  | e :: es, h => by
    have h : (plainE e && allP es) = true := h
    rw [Bool.and_eq_true] at h
    rw [star_cons h.1]
    have ih := star_any (pos := pos) (env := env) h.2
    unfold backTo at ih ⊢
    rw [List.any_map] at ih
    rw [List.any_map, List.any_cons, ih]
    rfl
section
variable {cl : Nat → Addr} {X : Cx} {C : Cs} {σ : St} {F H : Hp} {ρ ρ1 : Env} {A A0 : List Addr} {W : WX}
theorem e_P (i : Nat) {x : Str} {pos : Pos} (hN : X.N[i]? = some x) (hv : Vis X.env.scope x) (n : Nm x) : SimE cl X (.Name x pos) (mP i) := sim_P hN hv n.d n.c
theorem e_V (i : Nat) {x : Str} {pos : Pos} (hN : X.N[i]? = some x) (hv : Vis X.env.scope x) (n : Nm x) : SimE cl X (.Name x pos) (mV i) := sim_V hN hv n.d n.c
/-- a name given away -/
theorem e_M (i : Nat) {x : Str} {pos : Pos} (hN : X.N[i]? = some x) (hv : Vis X.env.scope x) (n : Nm x) : SimE cl X (.Name x pos) (mMv i) :=
  fun W _ => PE.imp (pe_var hN hv n.d n.c) fun σ H Q ⟨F, ρ, S, r, ρ', e, h⟩ => by
    unfold mMv at e
    split at e
    · rename_i d hd
      cases e
      obtain ⟨v, e1, r1⟩ := S.sl i _ hd
      cases r1 with
      | sh r1 => exact ⟨v, e1, h v [] F H Tr.refl S (.sh r1) Fp.nil New.nil⟩
    · rename_i o hd
      cases e
      obtain ⟨v, e1, r1⟩ := S.sl i _ hd
      cases r1 with
      | @ow a _ r1 f =>
        have own : Owns σ ρ a := ⟨i, _, hd, rfl, e1⟩
        have un : ∀ x, Owns σ (ρ.set i none) x → Owns σ ρ x := fun x q => owns_unset (fun b z => by cases z) q
        have na : ¬ Owns σ (ρ.set i none) a := fun ⟨j, b, h1, h2, h3⟩ => by
          rcases at_set h1 with ⟨_, z, _⟩ | ⟨nj, z⟩
          · cases z
          · exact nj (S.dis j i b _ a z h2 hd rfl h3 e1)
        obtain ⟨u, hu⟩ := r1.some
        refine ⟨_, e1, h (.ref a) [a] F H ⟨Sub.refl _, fun _ _ z _ _ => z, fun _ _ _ _ z => z, fun _ z => z, fun x q => .inl (un x q), fun j w z => ?_, fun j w z => ?_⟩ ⟨S.sub, by rw [List.length_set]; exact S.len, fun j b z => ?_, fun j k b c x h1 h2 h3 h4 h5 h6 => ?_⟩ (.ow r1)
          ⟨by simp, fun x m => by rw [List.mem_singleton.mp m]; exact f, fun x m => by rw [List.mem_singleton.mp m]; exact na, fun x m => by rw [List.mem_singleton.mp m, hu]; simp⟩ fun x m => by rw [List.mem_singleton.mp m]; exact .inl own⟩
        · by_cases q : i = j
          · subst q; rw [hd] at z; cases z
          · exact ⟨⟨w, by rw [at_set_ne q]; exact z⟩, rfl⟩
        · rcases at_set z with ⟨_, q, _⟩ | ⟨_, q⟩
          · cases q
          · exact ⟨w, q⟩
        · rcases at_set z with ⟨_, q, _⟩ | ⟨_, q⟩
          · cases q
          · exact S.sl j b q
        · rcases at_set h1 with ⟨_, q, _⟩ | ⟨_, q⟩
          · cases q
          · rcases at_set h3 with ⟨_, p, _⟩ | ⟨_, p⟩
            · cases p
            · exact S.dis j k b c x q h2 p h4 h5 h6
    · cases e
/-! ### constants -/
def cstC : Const → Option D
  | .none => some .non
  | .bool b => some (.bl b)
  | .int i => some (.int i)
  | .str x => if okTb x.cps.toList then some (.str x.cps.toList) else none
  | _ => none
def cstU : Const → Option D
  | .int i => some (.int (-i))
  | _ => none
mutual
/-- the data of an expression of constants -/
def cst : Expr → Option D
  | .Constant c _ _ => cstC c
  | .UnaryOp .USub (.Constant c _ _) _ => cstU c
  | .Tuple es _ _ => if es.length ≤ 1000 then (cstL es).map D.tup else none
  | _ => none
def cstL : List Expr → Option (List D)
  | [] => some []
  | e :: es => match cst e, cstL es with
    | some d, some ds => some (d :: ds)
    | _, _ => none
end
theorem cst_plain {e : Expr} {d : D} (h : cst e = some d) : plainE e = true := by
  cases e <;> first | rfl | (unfold cst at h; cases h)
theorem mTup_const {ds : List D} (h : ds.length ≤ 1000) : mTup (ret (ds.map B.sh)) = mK (.tup ds) := by
  funext ρ
  have k : ∀ ds : List D, datsL ρ (ds.map B.sh) = some ds := fun ds => by
    induction ds with
    | nil => rfl
    | cons d ds ih => show (match (B.sh d).dat ρ, datsL ρ (ds.map B.sh) with | some d, some ds => some (d :: ds) | _, _ => none) = _; rw [ih]; rfl
  have n : (ds.map B.sh).all noPl = true := by
    rw [List.all_eq_true]
    intro b m
    obtain ⟨d, _, rfl⟩ := List.mem_map.mp m
    rfl
  have f : few (ds.map B.sh) = true := by
    unfold few
    rw [List.length_map]
    exact decide_eq_true h
  show (if few (ds.map B.sh) then bind (kept (ds.map B.sh)) fun ds => ret (B.sh (.tup ds)) else stuck) ρ = _
  rw [f, if_pos rfl]
  have e : kept (ds.map B.sh) ρ = some (.ok ds, ρ) := by
    unfold kept
    rw [n, if_pos rfl]
    show (match datsL ρ (ds.map B.sh) with | none => none | some ds => some (Res.ok ds, ρ)) = _
    rw [k]
  unfold bind
  rw [e]
  rfl
theorem mCons_const {d : D} {ds : List D} : mCons (mK d) (ret (ds.map B.sh)) = ret ((d :: ds).map B.sh) := rfl
mutual
theorem sim_cst : ∀ {e : Expr} {d : D}, cst e = some d → SimE cl X e (mK d)
  | .Constant c i p, d, h => by
    unfold cst at h
    cases c with
    | none => cases h; exact sim_non
    | bool b => cases h; exact sim_bl
    | int i => cases h; exact sim_int
    | str x =>
      have h : (if okTb x.cps.toList then some (D.str x.cps.toList) else none) = some d := h
      by_cases ho : okTb x.cps.toList = true
      · rw [if_pos ho] at h; cases h; exact sim_str rfl ho
      · rw [if_neg ho] at h; cases h
    | _ => cases h
  | .UnaryOp .USub (.Constant c i p) p2, d, h => by
    cases c with
    | int i =>
      unfold cst at h
      cases h
      have : mNeg (mK (.int i)) = mK (.int (-i)) := rfl
      rw [← this]
      exact sim_neg sim_int
    | _ => unfold cst at h; cases h
  | .Tuple es k p, d, h => by
    unfold cst at h
    split at h
    · rename_i hl
      obtain ⟨ds, e, rfl⟩ := Option.map_eq_some_iff.mp h
      have hs : SimA cl X es (ret (ds.map B.sh)) := sim_cstL e
      rw [← mTup_const (by rw [cstL_len e]; exact hl)]
      exact sim_tup hs
    · cases h
theorem sim_cstL : ∀ {es : List Expr} {ds : List D}, cstL es = some ds → SimA cl X es (ret (ds.map B.sh))
  | [], _, h => by cases h; exact sim_nil
  | e :: es, ds, h => by
    unfold cstL at h
    split at h
    · rename_i d ds' h1 h2
      cases h
      rw [← mCons_const]
      exact sim_cons (sim_cst h1) (sim_cstL h2) (star_cons (cst_plain h1))
    · cases h
theorem cstL_len : ∀ {es : List Expr} {ds : List D}, cstL es = some ds → ds.length = es.length
  | [], _, h => by cases h; rfl
  | e :: es, ds, h => by
    unfold cstL at h
    split at h
    · rename_i d ds' h1 h2
      cases h
      rw [List.length_cons, List.length_cons, cstL_len h2]
    · cases h
end
/-! ### arguments -/
theorem a_c {e : Expr} {es : List Expr} {m : M B} {ms : M (List B)} (ha : SimE cl X e m) (hr : SimA cl X es ms) (hs : plainE e = true := by rfl) : SimA cl X (e :: es) (mCons m ms) := sim_cons ha hr (star_cons hs)
theorem a_n : SimA cl X [] mNil := sim_nil
/-! ### built-ins -/
theorem e_len {e : Expr} {p pos : Pos} {m : M B} (b : Bn X "len") (ha : SimE cl X e m) (hs : plainE e = true := by rfl) : SimE cl X (.Call (.Name "len" p) [e] [] pos) (mLen m) := sim_len b ha (star_cons hs)
theorem e_int {e : Expr} {p pos : Pos} {m : M B} (b : Bn X "int") (ha : SimE cl X e m) (hs : plainE e = true := by rfl) : SimE cl X (.Call (.Name "int" p) [e] [] pos) (mInt m) := sim_int1 b ha (star_cons hs)
theorem e_tuple {e : Expr} {p pos : Pos} {m : M B} (b : Bn X "tuple") (ha : SimE cl X e m) (hs : plainE e = true := by rfl) : SimE cl X (.Call (.Name "tuple" p) [e] [] pos) (mTuple m) := sim_tuple b ha (star_cons hs)
theorem e_all {e : Expr} {p pos : Pos} {m : M B} (b : Bn X "all") (hc : X.calm = true) (ha : SimE cl X e m) (hs : plainE e = true := by rfl) : SimE cl X (.Call (.Name "all" p) [e] [] pos) (mAll m) := sim_all b hc ha (star_cons hs)
theorem e_any {e : Expr} {p pos : Pos} {m : M B} (b : Bn X "any") (hc : X.calm = true) (ha : SimE cl X e m) (hs : plainE e = true := by rfl) : SimE cl X (.Call (.Name "any" p) [e] [] pos) (mAny m) := sim_any b hc ha (star_cons hs)
theorem e_isBool {e : Expr} {p p2 pos : Pos} {m : M B} (b : Bn X "isinstance") (bt : Bn X "bool") (ha : SimE cl X e m) (hs : plainE e = true := by rfl) : SimE cl X (.Call (.Name "isinstance" p) [e, .Name "bool" p2] [] pos) (mIsA .bool m) := sim_isA .bool rfl b bt (by decide +kernel) (by decide +kernel) (by decide +kernel) ha (star_cons hs) (star_cons rfl) (star_any rfl)
theorem e_isInt {e : Expr} {p p2 pos : Pos} {m : M B} (b : Bn X "isinstance") (bt : Bn X "int") (ha : SimE cl X e m) (hs : plainE e = true := by rfl) : SimE cl X (.Call (.Name "isinstance" p) [e, .Name "int" p2] [] pos) (mIsA .int m) := sim_isA .int rfl b bt (by decide +kernel) (by decide +kernel) (by decide +kernel) ha (star_cons hs) (star_cons rfl) (star_any rfl)
theorem e_isStr {e : Expr} {p p2 pos : Pos} {m : M B} (b : Bn X "isinstance") (bt : Bn X "str") (ha : SimE cl X e m) (hs : plainE e = true := by rfl) : SimE cl X (.Call (.Name "isinstance" p) [e, .Name "str" p2] [] pos) (mIsA .str m) := sim_isA .str rfl b bt (by decide +kernel) (by decide +kernel) (by decide +kernel) ha (star_cons hs) (star_cons rfl) (star_any rfl)
theorem e_isTup {e : Expr} {p p2 pos : Pos} {m : M B} (b : Bn X "isinstance") (bt : Bn X "tuple") (ha : SimE cl X e m) (hs : plainE e = true := by rfl) : SimE cl X (.Call (.Name "isinstance" p) [e, .Name "tuple" p2] [] pos) (mIsA .tuple m) := sim_isA .tuple rfl b bt (by decide +kernel) (by decide +kernel) (by decide +kernel) ha (star_cons hs) (star_cons rfl) (star_any rfl)
theorem i_range {tg a : Expr} {p pos : Pos} {m : M B} (b : Bn X "range") (ha : SimE cl X a m) (hs : plainE a = true := by rfl) : SimI cl X tg (.Call (.Name "range" p) [a] [] pos) (itRange m) := sim_range b ha (star_cons hs) (star_cons hs)
theorem i_range2 {tg a c : Expr} {p pos : Pos} {m mc : M B} (b : Bn X "range") (ha : SimE cl X a m) (hc : SimE cl X c mc) (hs : plainE a = true := by rfl) (hs2 : plainE c = true := by rfl) : SimI cl X tg (.Call (.Name "range" p) [a, c] [] pos) (itRange2 m mc) :=
  sim_range2 b ha hc (by rw [star_cons hs, star_cons hs2]; rfl) (star_cons hs2) (star_cons hs) (star_cons hs2)
theorem i_zip {elts : List Expr} {kk : Nat} {tpos : Pos} {a c : Expr} {p pos : Pos} {m mc : M B} (b : Bn X "zip") (ha : SimE cl X a m) (hc : SimE cl X c mc) (hs : plainE a = true := by rfl) (hs2 : plainE c = true := by rfl) : SimI cl X (.Tuple elts kk tpos) (.Call (.Name "zip" p) [a, c] [] pos) (itZip m mc) :=
  sim_zip b ha hc (star_cons hs) (star_cons hs2) (star_any (es := [c]) (by show (plainE c && true) = true; rw [hs2]; rfl))
/-! ### calls -/
theorem e_call {f : Fn} {fa : Addr} {fd : FuncData} {k : Nat} {ps : List Str} {x : Str} {p pos : Pos} {e : Expr} {es : List Expr} {args : M (List B)} (Fk : FnOk X.prog X.w X.K X.mg X.base (L2.CX X.prog X.w) k fa fd ps (FSp (cs cl X) f)) (hr : Room k X.A) (hm : X.mg x = some (.ref fa))
    (hk : PySem.W.keepIn X.K (.ref fa) = true) (hb : Binds X.K fd ps []) (n : Nm x) (ha : SimA cl X (e :: es) args) (hg : Gl X x) (hs : plainE e = true := by rfl) (hp : allP es = true := by rfl) : SimE cl X (.Call (.Name x p) (e :: es) [] pos) (mCall f args) :=
  sim_call Fk hr hm hk hb ha hg n.d (star_cons hs) (star_any hp)
end
end WF

set_option Elab.async false
set_option linter.all false
set_option maxRecDepth 100000
set_option maxHeartbeats 4000000
/-! WFR: enumerate of a tuple; split; list; sorted. -/
namespace WF
open PySem PySem.Spec PyProof.Rows L2
/-! ### enumerate -/
set_option maxHeartbeats 1000000 in
theorem enum_new {v : Value} {o : Obj} {Hh : Heap → Prop} (B : Begins v o Hh) : Meets (Builtin.«enumerate.__new__» ⟨[.type "enumerate", v], []⟩) (fun _ R s => Hh s.heap ∧
      R (.ok (.ret (.ref (s.heap.push o).objs.size))) { s with heap := (s.heap.push o).push { cls := .type "enumerate", data := .fields #[.none, .bool false, .ref s.heap.objs.size, rawInt 0, .none, .none] } }) :=
  .of_wp fun prog w A R s hh => by
    obtain ⟨hp, g, d, tk, os⟩ := s
    obtain ⟨k1, hR⟩ := hh
    have sb := sub_enumerate
    have it : ∀ {A' : Around} {E : Value → Shared → Prop} {Q : Value → Shared → Prop}, Q (.ref hp.objs.size) ⟨hp.push o, g, d, tk, os⟩ → wpAny (model prog w) A' (pyIter v) Q E ⟨hp, g, d, tk, os⟩ :=
      fun q => B.iter prog w _ _ ⟨hp, g, d, tk, os⟩ _ k1 q
    wp_walk using it
    refine wpAny_stack_any fun st => wpAny_pure ?_
    split
    · rename_i c _ _ _ _ _
      cases (c == Value.type "enumerate") <;> (wp_walk using it; exact ⟨_, rfl, hR⟩)
    · wp_walk using it
      exact ⟨_, rfl, hR⟩
theorem enum_call {prog : Program} {w : World} {A : Around} {E : Value → Shared → Prop} {s : Shared} {v : Value} {o : Obj} {Hh : Heap → Prop} {Q : Value → Shared → Prop} (B : Begins v o Hh) (k1 : Hh s.heap)
    (h : ∀ h', IsEnum h' (s.heap.objs.size + 1) s.heap.objs.size 0 .none → h'.get? s.heap.objs.size = some o → h'.objs.size = s.heap.objs.size + 2 → (∀ b u, s.heap.get? b = some u → h'.get? b = some u) → Q (.ref (s.heap.objs.size + 1)) { s with heap := h' }) :
    wpAny (model prog w) A (call (.type "enumerate") [v]) Q E s := by
  refine callType_new F.called_enumerate (by decide) (F.typeCall_enumerate_1 _) (F.newCall_enumerate_1 _) (fun obj => F.args_object_init_2 obj _) F.entry_enumerate_new (enum_new B) ⟨k1, ?_⟩
  have sz : (s.heap.push o).objs.size = s.heap.objs.size + 1 := Heap.size_push ..
  show _ ∧ _
  rw [sz]
  have he := Heap.get?_push_size (s.heap.push o) (o := { cls := .type "enumerate", data := .fields #[.none, .bool false, .ref s.heap.objs.size, rawInt 0, .none, .none] }) rfl
  rw [sz] at he
  exact ⟨⟨_, he, rfl⟩, h _ he (Heap.get?_push_of_some _ (Heap.get?_push_size _ B.free)) (by rw [Heap.size_push, sz]) fun b u x => Heap.get?_push_of_some _ (Heap.get?_push_of_some _ x)⟩
/-- the tuple at a as it stands, numbered -/
def ItE (K : PySem.W.Frag) (a : Addr) : It :=
  ⟨fun i H => ∃ (xs : List V) (x : V), SqT K H a xs ∧ xs[i]? = some x, fun i H v H' => ∃ (T : Addr) (x : V), v = .ref T ∧ H T = none ∧ H' = upd H T (.tup [.int (i : Nat), x]) ∧ ∀ xs, SqT K H a xs → xs[i]? = some x, fun i H => ∃ xs : List V, SqT K H a xs ∧ xs.length = i⟩
theorem turn_enumT {P : Program} {w : World} {K : PySem.W.Frag} {elts : List Expr} {kk : Nat} {tpos : Pos} (a e it : Addr) (ha : a < it) (hae : a < e) :
    Turn P w K (.Tuple elts kk tpos) (ItE K a) [e, it] e (fun i h => (∃ old, IsEnum h e it ((i : Nat) : Int) old) ∧ h.IsTupleIter it a i ∧ e ≠ it) where
  mem := by simp
  obj := fun i h st b hb => by
    obtain ⟨⟨old, he⟩, ⟨o, ho, hc, hd⟩, _⟩ := st
    rcases (show b = e ∨ b = it by simpa using hb) with rfl | rfl
    · exact ⟨_, he, fun v z => nomatch z⟩
    · exact ⟨o, ho, fun v z => by rw [hd] at z; cases z⟩
  keep := fun i h h' st k => by
    obtain ⟨⟨old, he⟩, hi, ne⟩ := st
    exact ⟨⟨old, k e (by simp) _ he⟩, hi.at fun o q => k it (by simp) o q, ne⟩
  item := by
    intro X hP hw hK hc i pins s σ H E I hf st hg
    subst hP hw hK
    obtain ⟨⟨old, he⟩, hi, ne⟩ := st
    obtain ⟨xs, x, hq, hx⟩ := hg
    obtain ⟨us, rv, pt, _⟩ := I.tuple hq
    obtain ⟨u, hu, ru⟩ := rv.get hx
    have le : e < s.heap.objs.size := Heap.lt_size he
    have li : it < s.heap.objs.size := by obtain ⟨_, q, _⟩ := hi; exact Heap.lt_size q
    have pt' : s.heap.IsTuple a us.toArray := pt
    have hlt : i < us.toArray.size := by
      have := (List.getElem?_eq_some_iff.mp hu).1
      simpa using this
    refine wpAny_pyNext_enum_itemD (Draws.tuple (A := X.A.in1) (by show X.A.handled = none; exact I.ok.hd hc) it a (Nat.ne_of_lt ha) us.toArray) he ⟨hi, pt'⟩ hlt ne (by simp [ne, Nat.ne_of_gt hae]) fun x' h' tk hx' ho' st' hT sz kk' => ?_
    have ex : x' = u := by
      have h1 : us.toArray[i]? = some x' := hx'
      have h2 : us.toArray[i]? = some u := by simpa using hu
      rw [h2] at h1
      exact (Option.some.inj h1).symm
    subst ex
    refine ⟨_, rfl, wpAny_letOwnedTupleGo_enum (s := { s with heap := h', toks := tk + 1 }) ho' fun h2 he2 sb => ?_⟩
    have hT2 : h2.get? s.heap.objs.size = some { cls := .type "tuple", data := .seq #[.int i tk, x'] } := (sb.2 _ (Nat.ne_of_gt le)).trans hT
    have ob : ObjOk X.prog X.w (upd H s.heap.objs.size (.tup [.int (i : Nat), x])) h2 s.heap.objs.size (.tup [.int (i : Nat), x]) := ⟨by show 2 ≤ sizeLine; decide, [.int i tk, x'], .cons ⟨_, rfl⟩ (.cons ru .nil), ⟨_, hT2, rfl, _, rfl⟩⟩
    have I2 : Inv X pins σ (upd H s.heap.objs.size (.tup [.int (i : Nat), x])) { s with heap := h2, toks := tk + 1 } :=
      I.turnedNew (ch := [e, it]) (fun b u hb q => (sb.2 b fun z => hb (by simp [z])).trans (kk' b u (fun z => hb (by simp [z])) (fun z => hb (by simp [z])) q)) hf (Nat.le_refl _) ob
    refine ⟨.ref s.heap.objs.size, _, I2, rfl, ⟨_, x, rfl, I.hok.fresh (Nat.le_refl _), rfl, fun ys hy => by rw [I.tuple_inj hy hq]; exact hx⟩, ⟨⟨x', ?_⟩, st'.1.at fun o q => (sb.2 it (Ne.symm ne)).trans q, ne⟩, fun b hb => ?_⟩
    · rw [show ((i + 1 : Nat) : Int) = (i : Int) + 1 by omega]; exact he2
    · have lb : b < s.heap.objs.size := by
        rcases (show b = e ∨ b = it by simpa using hb) with rfl | rfl
        · exact le
        · exact li
      rw [upd_ne (Nat.ne_of_lt lb)]
      exact (hf b hb).1
  done := by
    intro X hP hw hK hc i pins s σ H E I hf st hg
    subst hP hw hK
    obtain ⟨⟨old, he⟩, hi, ne⟩ := st
    obtain ⟨xs, hq, hx⟩ := hg
    obtain ⟨us, rv, pt, _⟩ := I.tuple hq
    obtain ⟨f0, f1, f2, f3, f4, f5⟩ := hf it (by simp)
    have hl := rv.length
    have pt' : s.heap.IsTuple a us.toArray := pt
    have en : i = us.toArray.size := by rw [List.size_toArray]; omega
    subst en
    exact wpAny_pyNext_enum_endD (Draws.tuple (A := X.A.in1) (by show X.A.handled = none; exact I.ok.hd hc) it a (Nat.ne_of_lt ha) us.toArray) he ⟨hi, pt'⟩ fun h' eb => ⟨rfl, I.turned (t' := s.toks) (fun b o hb q => eb b o hb q) f0 f1 f3 f4 f5⟩
  self := fun A i s Q E st h => let ⟨⟨_, he⟩, _⟩ := st; wpAny_pyIter_enum he h

section
variable {cl : Nat → Addr} {X : Cx} {C : Cs} {σ : St} {F H : Hp} {ρ ρ1 : Env} {A A0 : List Addr} {W : WX}
def iEnumA (K : PySem.W.Frag) (ta : TA) : TI := fun σ H R => ta σ H fun vs H1 => ∃ a xs, vs = [.ref a] ∧ ((SqL K H1 a xs ∧ R (Ite K a) H1) ∨ (SqT K H1 a xs ∧ R (ItE K a) H1))
theorem pi_enumA {e : Expr} {ta : TA} {p pos tpos : Pos} {elts : List Expr} {kk : Nat} (hg : Gl X "enumerate") (hm : X.mg "enumerate" = none) (ha : PA X [e] ta) (hs : starEach [e] X.env = [(false, eval e X.env)]) : PI X (.Tuple elts kk tpos) (.Call (.Name "enumerate" p) [e] [] pos) (iEnumA X.K ta) := by
  refine ⟨fun pins s σ H R I h => ?_⟩
  refine Call_ (ld_blt I hg hm boot_enumerate (PyProof.Rows.callWith_type1 (thn (ha.run pos pins s σ H _ I h) fun us s1 hh => ?_) hs rfl))
  obtain ⟨vs, H1, I1, r1, a, xs, ex, q⟩ := hh
  subst ex
  obtain ⟨u, rfl, ru⟩ := vals1 r1
  obtain rfl : u = Value.ref a := ru
  have fresh2 : ∀ b ∈ [s1.heap.objs.size + 1, s1.heap.objs.size], FpOk X pins H1 b := fun b hb => by
    have le : s1.heap.objs.size ≤ b := by
      rcases (show b = s1.heap.objs.size + 1 ∨ b = s1.heap.objs.size by simpa using hb) with rfl | rfl
      · exact Nat.le_succ _
      · exact Nat.le_refl _
    exact I1.fpOk le (I1.hok.fresh le)
  rcases q with ⟨hq, q⟩ | ⟨hq, q⟩
  · obtain ⟨us, rv, pl, _⟩ := I1.list hq
    refine enum_call (begins_list a us.toArray) pl.isList fun h' he ho sz kk => wpAny_pyIter_enum he ?_
    exact ⟨_, _, _, _, H1, rfl, I1.kept (t' := s1.toks) kk, turn_enum a (s1.heap.objs.size + 1) s1.heap.objs.size, ⟨⟨.none, he⟩, ⟨_, ho, rfl, rfl⟩, Nat.succ_ne_self _⟩, fresh2, q⟩
  · obtain ⟨us, rv, pt, _⟩ := I1.tuple hq
    have pt' : s1.heap.IsTuple a us.toArray := pt
    obtain ⟨oa, hoa, _⟩ := id pt'
    have la : a < s1.heap.objs.size := Heap.lt_size hoa
    refine enum_call (begins_tuple a us.toArray) pt' fun h' he ho sz kk => wpAny_pyIter_enum he ?_
    exact ⟨_, _, _, _, H1, rfl, I1.kept (t' := s1.toks) kk, turn_enumT a (s1.heap.objs.size + 1) s1.heap.objs.size la (Nat.lt_succ_of_lt la), ⟨⟨.none, he⟩, ⟨_, ho, rfl, rfl⟩, Nat.succ_ne_self _⟩, fresh2, q⟩
theorem upto_get {n i : Nat} (h : i < n) : (upto n)[i]? = some (.int (i : Nat)) := by
  unfold upto
  simp [h]
theorem enumD_len (xs : List D) : (zipD (upto xs.length) xs).length = xs.length := by
  rw [zipD_len]
  unfold upto
  simp
theorem gives_enum {F : Hp} {a : Addr} {xs : List V} {ds : List D} (h : SqL C.K F a xs) (r : Reps C F xs ds) : Gives C F (Ite C.K a) (zipD (upto ds.length) ds) := by
  have l1 := r.length
  refine ⟨fun i H hi s => ?_, fun H s => ?_, fun i H v H' hi s y => ?_⟩
  · rw [enumD_len] at hi
    obtain ⟨x, ex⟩ := len_idx (i := i) l1 hi
    exact ⟨xs, x, s.sqL h, ex⟩
  · rw [enumD_len]
    exact ⟨xs, s.sqL h, by omega⟩
  · rw [enumD_len] at hi
    obtain ⟨T, x, e1, e2, e3, e4⟩ := y
    obtain ⟨d, p1, p2⟩ := reps_idx r (e4 xs (s.sqL h))
    exact ⟨_, zipD_get (upto_get hi) p1, .inr ⟨T, [.int (i : Nat), x], [.int (i : Nat), d], e1, e2, e3, rfl, .cons (.int _) (.cons p2 .nil)⟩⟩
theorem gives_enumT {F : Hp} {a : Addr} {xs : List V} {ds : List D} (h : SqT C.K F a xs) (r : Reps C F xs ds) : Gives C F (ItE C.K a) (zipD (upto ds.length) ds) := by
  have l1 := r.length
  refine ⟨fun i H hi s => ?_, fun H s => ?_, fun i H v H' hi s y => ?_⟩
  · rw [enumD_len] at hi
    obtain ⟨x, ex⟩ := len_idx (i := i) l1 hi
    exact ⟨xs, x, s.sqT h, ex⟩
  · rw [enumD_len]
    exact ⟨xs, s.sqT h, by omega⟩
  · rw [enumD_len] at hi
    obtain ⟨T, x, e1, e2, e3, e4⟩ := y
    obtain ⟨d, p1, p2⟩ := reps_idx r (e4 xs (s.sqT h))
    exact ⟨_, zipD_get (upto_get hi) p1, .inr ⟨T, [.int (i : Nat), x], [.int (i : Nat), d], e1, e2, e3, rfl, .cons (.int _) (.cons p2 .nil)⟩⟩
theorem i_enum {elts : List Expr} {kk : Nat} {tpos : Pos} {a : Expr} {p pos : Pos} {m : M B} (b : Bn X "enumerate") (ha : SimE cl X a m) (hs : plainE a = true := by rfl) : SimI cl X (.Tuple elts kk tpos) (.Call (.Name "enumerate" p) [a] [] pos) (itEnum m) := fun W tk =>
  PI.imp (pi_enumA b.gl b.mg (pa_cons (ha W tk) pa_nil (star_cons hs)) (star_cons hs)) fun σ H R ⟨F, ρ, S, h⟩ => by
    refine tM_bind (R1 := RlB) S h fun x b A F1 H1 ρ1 T1 S1 r1 f1 n1 h1 => ?_
    obtain ⟨d, F2, S2, rd, sb, h2⟩ := kept1 S1 r1 f1 h1
    obtain ⟨ds, e, q⟩ := tR_end h2
    cases d with
    | tup xs =>
      cases e
      cases rd with
      | tup g r => exact ⟨_, _, rfl, .inr ⟨S2.sub.sqT g, q _ [] F2 H1 Tr.refl S2 ⟨gives_enumT g r, rfl⟩ Fp.nil New.nil⟩⟩
    | lst xs =>
      cases e
      cases rd with
      | lst g r => exact ⟨_, _, rfl, .inl ⟨S2.sub.sqL g, q _ [] F2 H1 Tr.refl S2 ⟨gives_enum g r, rfl⟩ Fp.nil New.nil⟩⟩
    | _ => cases e
/-! ### list(x) -/
theorem od_list : Od1 C (fun xs H Q => ∃ p ys, xs = [.ref p] ∧ (SqL C.K H p ys ∨ SqT C.K H p ys) ∧ ∀ l, H l = none → Q (.ref l) (upd H l (.lst ys))) iList := by
  intro σ F H ρ A0 x d b Q S v e q
  unfold iList at e
  split at e
  · cases e
    obtain ⟨a, xs, rfl, g, r⟩ := v.tup
    exact ⟨a, xs, rfl, .inr (S.sub.sqT g), fun l hl => q.lst S r hl⟩
  · cases e
    obtain ⟨a, xs, rfl, g, r⟩ := v.lst S.sub
    exact ⟨a, xs, rfl, .inl g, fun l hl => q.lst S r hl⟩
  · cases e
theorem e_list {e : Expr} {p pos : Pos} {m : M B} (b : Bn X "list") (ha : SimE cl X e m) (hs : plainE e = true := by rfl) : SimE cl X (.Call (.Name "list" p) [e] [] pos) (mList m) :=
  sim_c1 call_list_of od_list b.gl b.mg (by decide +kernel) ha (by decide) (by decide) (star_cons hs)
/-! ### split -/
theorem splitT_ne (c : Nat) : ∀ x : Txt, ∃ y r, splitT c x = y :: r
  | [] => ⟨_, _, rfl⟩
  | a :: x => by
    unfold splitT
    by_cases h : a = c
    · rw [if_pos h]; exact ⟨_, _, rfl⟩
    · rw [if_neg h]
      obtain ⟨y, r, e⟩ := splitT_ne c x
      rw [e]
      exact ⟨_, _, rfl⟩
theorem spl_one (c : Nat) : ∀ (x acc : Txt) {y : Txt} {r : List Txt}, splitT c x = y :: r → TL.spl [c] 0 acc x = (acc ++ y) :: r
  | [], acc, y, r, h => by
    cases h
    rw [TL.spl_nil, List.append_nil]
  | a :: x, acc, y, r, h => by
    unfold splitT at h
    by_cases e : a = c
    · rw [if_pos e] at h
      cases h
      subst e
      rw [TL.spl_hit (by simp [TL.pre])]
      obtain ⟨y, r, e⟩ := splitT_ne a x
      have := spl_one a x [] e
      rw [show ([a] : List Nat).length - 1 = 0 from rfl, this, e, List.append_nil]
      rfl
    · rw [if_neg e] at h
      obtain ⟨y', r', e'⟩ := splitT_ne c x
      rw [e'] at h
      cases h
      rw [TL.spl_miss (by simp [TL.pre, e]), spl_one c x _ e', List.append_assoc]
      rfl
theorem splitT_ok (c : Nat) : ∀ {x : Txt}, ∀ y ∈ splitT c x, (∀ z ∈ y, z ∈ x) ∧ y.length ≤ x.length
  | [], y, m => by
    have : y = [] := by simpa [splitT] using m
    subst this
    exact ⟨fun z m => (nomatch m), Nat.le_refl _⟩
  | a :: x, y, m => by
    unfold splitT at m
    by_cases e : a = c
    · rw [if_pos e] at m
      rcases List.mem_cons.mp m with rfl | m
      · exact ⟨fun z m => (nomatch m), Nat.zero_le _⟩
      · obtain ⟨h1, h2⟩ := splitT_ok c y m
        exact ⟨fun z m => List.mem_cons_of_mem _ (h1 z m), by rw [List.length_cons]; omega⟩
    · rw [if_neg e] at m
      obtain ⟨y', r', e'⟩ := splitT_ne c x
      rw [e'] at m
      rcases List.mem_cons.mp m with rfl | m
      · obtain ⟨h1, h2⟩ := splitT_ok c y' (by rw [e']; exact List.mem_cons_self)
        refine ⟨fun z m => ?_, by rw [List.length_cons, List.length_cons]; omega⟩
        rcases List.mem_cons.mp m with rfl | m
        · exact List.mem_cons_self
        · exact List.mem_cons_of_mem _ (h1 z m)
      · obtain ⟨h1, h2⟩ := splitT_ok c y (by rw [e']; exact List.mem_cons_of_mem _ m)
        exact ⟨fun z m => List.mem_cons_of_mem _ (h1 z m), by rw [List.length_cons]; omega⟩
theorem reps_strs {F : Hp} : ∀ {ts : List Txt}, (∀ t ∈ ts, okT t) → Reps C F ((ts.map mkS).map V.str) (ts.map D.str)
  | [], _ => .nil
  | t :: ts, h => .cons (.str t (h t List.mem_cons_self)) (reps_strs fun u m => h u (List.mem_cons_of_mem _ m))
theorem split_eq {s : Txt} {c : Nat} (hc : c < 256) : Txt.split (mkS s) (mkS [c]) = (splitT c s).map mkS := by
  obtain ⟨y, r, e⟩ := splitT_ne c s
  have h := SX.split_S (a := s) (b := [c]) (by simp) (by simp [hc])
  have e2 := spl_one c s [] e
  rw [List.nil_append] at e2
  rw [e, ← e2]
  exact h
theorem e_split {o e : Expr} {ap cp : Pos} {mo me : M B} (ho : SimE cl X o mo) (ha : SimE cl X e me) (hs : plainE e = true := by rfl) (hbase : attributeBase o "split" X.env (eval o X.env) = eval o X.env := by rfl) (hline : (ap.endLine == cp.line) = true := by rfl) : SimE cl X (.Call (.Attribute o "split" ap) [e] [] cp) (mSplit mo me) := fun W tk =>
  PE.imp (pe_m1 F.slot_str_split F.type_str_split mt_split (ho W tk) (ha W tk) (star_cons hs) hbase hline) fun σ H Q ⟨F, ρ, S, h⟩ => by
    refine tM_bind (R1 := RlB) S h fun x b A F1 H1 ρ1 T1 S1 r1 f1 n1 h1 => ?_
    cases b with
    | sh d =>
      cases d with
      | str s =>
        cases r1 with
        | sh r1 =>
          cases r1 with
          | str _ o1 =>
            refine ⟨⟨_, rfl⟩, one_bind S1 h1 fun y e F2 H2 ρ2 S2 w q => ?_⟩
            obtain ⟨b, eb, q⟩ := tR_end q
            unfold iSplit at eb
            split at eb
            · rename_i s' c es
              cases es
              split at eb
              · rename_i hh
                cases eb
                obtain ⟨h1, h2⟩ := dec_and hh
                obtain ⟨rfl, o2⟩ := w.str
                refine ⟨mkS s, mkS [c], rfl, rfl, by rw [mkS_len]; rfl, by rw [mkS_len, ← lim_eq]; exact h1, fun p hp => ?_⟩
                rw [split_eq h2]
                exact q.lst S2 (reps_strs fun t m => by
                  obtain ⟨k1, k2⟩ := splitT_ok c t m
                  exact ⟨fun z mz => o1.1 z (k1 z mz), Nat.le_trans k2 o1.2⟩) hp
              · cases eb
            · cases eb
      | _ => exact tR_stuck h1
    | _ => exact tR_stuck h1
/-! ### sorted -/
mutual
theorem toks_py : ∀ d : D, PySem.W.keyToks (toPy d) = D.toks d
  | .non => rfl
  | .bl _ => rfl
  | .int _ => rfl
  | .str s => by show [Sum.inr (mkS s).cps.toList] = [Sum.inr s]; rw [mkS_get]
  | .tup xs => by show PySem.W.keyToksAll (toPys xs) = D.toksL xs; exact toksL_py xs
  | .lst xs => by show PySem.W.keyToksAll (toPys xs) = D.toksL xs; exact toksL_py xs
  | .dic _ _ => rfl
theorem toksL_py : ∀ ds : List D, PySem.W.keyToksAll (toPys ds) = D.toksL ds
  | [] => rfl
  | d :: ds => by show Sum.inl 1 :: (PySem.W.keyToks (toPy d) ++ PySem.W.keyToksAll (toPys ds)) = Sum.inl 1 :: (D.toks d ++ D.toksL ds); rw [toks_py d, toksL_py ds]
end
mutual
theorem like_py : ∀ d e : D, D.like d e = true → PySem.W.alike (toPy d) (toPy e) = true
  | .non, e, h => by cases e <;> first | rfl | cases h
  | .bl _, e, h => by cases e <;> first | rfl | cases h
  | .int _, e, h => by cases e <;> first | rfl | cases h
  | .str _, e, h => by cases e <;> first | rfl | cases h
  | .tup xs, e, h => by
    cases e with
    | tup ys => show PySem.W.alikeAll (toPys xs) (toPys ys) = true; exact likeL_py xs ys h
    | _ => cases h
  | .lst xs, e, h => by
    cases e with
    | lst ys => show PySem.W.alikeAll (toPys xs) (toPys ys) = true; exact likeL_py xs ys h
    | _ => cases h
  | .dic _ _, e, h => by cases e <;> cases h
theorem likeL_py : ∀ ds es : List D, D.likeL ds es = true → PySem.W.alikeAll (toPys ds) (toPys es) = true
  | [], [], _ => rfl
  | [], _ :: _, _ => rfl
  | _ :: _, [], _ => rfl
  | d :: ds, e :: es, h => by
    have h : (D.like d e && D.likeL ds es) = true := h
    rw [Bool.and_eq_true] at h
    show (PySem.W.alike (toPy d) (toPy e) && PySem.W.alikeAll (toPys ds) (toPys es)) = true
    rw [like_py d e h.1, likeL_py ds es h.2]
    rfl
end
theorem lex_py : ∀ a b : List (Int ⊕ Txt), PyProof.Rows.lexLt PyProof.Rows.itemOrd a b = lexD a b
  | [], [] => rfl
  | [], _ :: _ => rfl
  | _ :: _, [] => rfl
  | x :: r, y :: t => by
    have ih := lex_py r t
    have e : ∀ p q : Int ⊕ Txt, PyProof.Rows.itemLt p q = tokLt p q := fun p q => by cases p <;> cases q <;> rfl
    show (PyProof.Rows.itemLt x y || (!PyProof.Rows.itemLt y x && PyProof.Rows.lexLt PyProof.Rows.itemOrd r t)) = (tokLt x y || (!tokLt y x && lexD r t))
    rw [e, e, ih]
theorem le_py : (PySem.W.dataLe false toPy : D → D → Bool) = leD := by
  funext x y
  rw [PySem.W.dataLe_eq]
  show (!PySem.W.dataLt (toPy y) (toPy x)) = !lexD y.toks x.toks
  unfold PySem.W.dataLt
  rw [lex_py, toks_py, toks_py]
theorem each_of {Hh : Hp} {s : Shared} {pins : List (Addr × Obj)} (I : Inv X pins σ H s) (S : Sub F H) : ∀ {xs : List V} {ds : List D} {us : List Value}, Vals xs us → Reps (cs cl X) F xs ds → D.deps ds ≤ 60 →
    PySem.W.EachIs (fun u d => ∃ x, RelV x u ∧ Rep (cs cl X) F x d) us ds ∧ PySem.W.EachIs (fun u d => ∃ as, Reads s.heap u (toPy d) as) us ds
  | _, _, _, .nil, .nil, _ => ⟨.nil, .nil⟩
  | _, d :: ds, _, .cons rv t, .cons r q, h => by
    have h' : max (D.dep d) (D.deps ds) ≤ 60 := h
    obtain ⟨h1, h2⟩ := each_of (Hh := Hh) I S t q (by omega)
    obtain ⟨as, ra⟩ := Dp.reads I (toPy d) _ _ (dp_py (r.mono S) (by omega)) rv
    exact ⟨.cons ⟨_, rv, r⟩ h1, .cons ⟨as, ra⟩ h2⟩
theorem each_back : ∀ {us : List Value} {ds : List D}, PySem.W.EachIs (fun u d => ∃ x, RelV x u ∧ Rep C F x d) us ds → ∃ xs, Vals xs us ∧ Reps C F xs ds
  | _, _, .nil => ⟨[], .nil, .nil⟩
  | _, _, .cons ⟨x, rv, r⟩ t => by
    obtain ⟨xs, h1, h2⟩ := each_back t
    exact ⟨x :: xs, .cons rv h1, .cons r h2⟩
theorem depth_of {ds : List D} (h : D.deps ds ≤ 60) : ∀ d ∈ ds, (toPy d).depth ≤ 60 := by
  induction ds with
  | nil => intro d m; cases m
  | cons x ds ih =>
    have h' : max (D.dep x) (D.deps ds) ≤ 60 := h
    intro d m
    rcases List.mem_cons.mp m with rfl | m
    · rw [dep_py d (by omega)]; omega
    · exact ih (by omega) d m
theorem sortable_of {ds : List D} (h : (ds.all isTupC || ds.all isOther) = true) (nd : D.deps ds ≤ 60) : PySem.W.Sortable (ds.map toPy) := by
  rw [Bool.or_eq_true] at h
  rcases h with h | h
  · refine .inl fun p m => ?_
    obtain ⟨d, md, rfl⟩ := List.mem_map.mp m
    have := List.all_eq_true.mp h d md
    cases d with
    | tup xs =>
      cases xs with
      | nil => cases this
      | cons x r => exact ⟨toPy x, toPys r, rfl⟩
    | _ => cases this
  · refine .inr fun p m => ?_
    obtain ⟨d, md, rfl⟩ := List.mem_map.mp m
    have := List.all_eq_true.mp h d md
    cases d <;> first | (cases this; done) | exact ⟨by simp [toPy], by simp [toPy]⟩
def rSortD (cl : Nat → Addr) (X : Cx) : List V → Hp → VK → Prop := fun vs H Q => ∃ (a : Addr) (F : Hp) (xs : List V) (ds : List D), vs = [.ref a] ∧ SqL X.K H a xs ∧ Sub F H ∧ Reps (cs cl X) F xs ds ∧ canSort ds = true ∧
  ∀ ys p, Reps (cs cl X) F ys (ds.mergeSort leD) → H p = none → Q (.ref p) (upd H p (.lst ys))
theorem cr_sortD (hu : Hu X) : CallR X (.builtin "sorted") (rSortD cl X) := by
  intro pins s σ H vs us Q I r h
  obtain ⟨a, F, xs, ds, rfl, g, sb, rs, hc, q⟩ := h
  obtain ⟨u, rfl, ru⟩ := vals1 r
  obtain rfl : u = Value.ref a := ru
  obtain ⟨its, rv, pl, hz⟩ := I.list g
  unfold canSort at hc
  rw [Bool.and_eq_true, Bool.and_eq_true] at hc
  obtain ⟨⟨h1, h2⟩, h3⟩ := hc
  have h3 := of_decide_eq_true h3
  obtain ⟨e1, e2⟩ := each_of (Hh := H) I sb rv rs h3
  have hl : ds.length = its.length := by rw [← rs.length, rv.length]
  have hz : its.length ≤ sizeLine := by rw [← rv.length]; exact hz
  refine PySem.W.sorted_data (enc := toPy) pl.isList e1 e2 (fun p mp p' mp' => ?_) (sortable_of h2 h3) (by rw [hl]; exact hz) (fun d md => ?_) fun out hlen ho => ?_
  · obtain ⟨d, md, rfl⟩ := List.mem_map.mp mp
    obtain ⟨d', md', rfl⟩ := List.mem_map.mp mp'
    exact like_py d d' (List.all_eq_true.mp (List.all_eq_true.mp h1 d md) d' md')
  · have := depth_of h3 d md
    have hu' : X.A.units + 65 < cLine := hu
    omega
  · rw [le_py] at ho
    obtain ⟨ys, v1, r1⟩ := each_back ho
    obtain ⟨n, hn⟩ := sortedAll_at s.heap its out.toArray
    have hy : ys.length ≤ sizeLine := by rw [v1.length, hlen, hl]; exact hz
    exact ⟨.ref (s.heap.objs.size + 1), upd H (s.heap.objs.size + 1) (.lst ys), I.laid (t' := s.toks) (fun b o z => sortedAll_old z) (Nat.le_succ _) ⟨hy, out, n, v1, hn⟩, rfl, q ys _ r1 (I.hok.fresh (Nat.le_succ _))⟩
theorem e_sorted {e : Expr} {p pos : Pos} {m : M B} (b : Bn X "sorted") (hu : Hu X) (ha : SimE cl X e m) (hs : plainE e = true := by rfl) : SimE cl X (.Call (.Name "sorted" p) [e] [] pos) (mSorted m) := by
  refine sim_b1 (cr_sortD (cl := cl) hu) ?_ b.gl b.mg (by decide +kernel) ha (by decide) (by decide) (star_cons hs)
  intro σ F H ρ A0 x d b Q S v e q
  unfold iSorted at e
  split at e
  · split at e
    · rename_i xs hc
      cases e
      obtain ⟨a, vs, rfl, g, r⟩ := v.lst S.sub
      exact ⟨a, F, vs, xs, rfl, g, S.sub, r, hc, fun ys p ry hp => q.lst S ry hp⟩
    · cases e
  · cases e
end
end WF

set_option Elab.async false
set_option linter.all false
set_option maxRecDepth 100000
set_option maxHeartbeats 4000000
/-! WFS: more rules in short forms. -/
namespace WF
open PySem PySem.Spec PyProof.Rows L2
section
variable {cl : Nat → Addr} {X : Cx} {C : Cs} {σ : St} {F H : Hp} {ρ ρ1 : Env} {A A0 : List Addr} {W : WX}
theorem hu_room {k : Nat} {A : Around} (hr : Room k A) : A.units + 65 < cLine := by have := hr.un; omega
theorem e_isLst {e : Expr} {p p2 pos : Pos} {m : M B} (b : Bn X "isinstance") (bt : Bn X "list") (ha : SimE cl X e m) (hs : plainE e = true := by rfl) : SimE cl X (.Call (.Name "isinstance" p) [e, .Name "list" p2] [] pos) (mIsA .list m) := sim_isA .list rfl b bt (by decide +kernel) (by decide +kernel) (by decide +kernel) ha (star_cons hs) (star_cons rfl) (star_any rfl)
theorem fn_none {P : Program} {w : World} {K : PySem.W.Frag} {mg : Str → Option Value} {base : Heap} {CX : CXT} {k : Nat} {f : Addr} {fd : FuncData} {ps : List Str} : FnOk P w K mg base CX k f fd ps (FSp C fun _ => none) :=
  ⟨fun vs H Q E h => (by obtain ⟨_, _, _, _, e, _⟩ := h; cases e), fun A outer s H args us vs Q E hr e0 hb r h => (by obtain ⟨_, _, _, _, e, _⟩ := h; cases e)⟩
theorem e_call0 {f : Fn} {fa : Addr} {fd : FuncData} {k : Nat} {ps : List Str} {x : Str} {p pos : Pos} (Fk : FnOk X.prog X.w X.K X.mg X.base (L2.CX X.prog X.w) k fa fd ps (FSp (cs cl X) f)) (hr : Room k X.A) (hm : X.mg x = some (.ref fa))
    (hk : PySem.W.keepIn X.K (.ref fa) = true) (hb : Binds X.K fd ps []) (n : Nm x) (hg : Gl X x) : SimE cl X (.Call (.Name x p) [] [] pos) (mCall f mNil) := fun W tk =>
  PE.imp (t := fun σ H Q => FSp (cs cl X) f [] H Q (WE W σ)) ⟨fun pins s σ H Q I h => wpAny_Call_Name_kw (ld_glob I hg hm (PySem.W.callWith_K0 I.kIn hk (run_fnS (us := []) Fk hr hb (passAt tk σ) I .nil h)) n.d)⟩ fun σ H Q h => by
    obtain ⟨F, ρ, S, h⟩ := call_sp h
    exact tR_ret h [] [] F H Tr.refl S .nil Fp.nil New.nil
/-- a comprehension's target -/
theorem tg_one {i : Nat} {tg : Expr} {bx : Shared → Hp → Addr → List (Str × Addr) → List Addr → Cx} (h : ∀ s H c cells fp, PG (bx s H c cells fp) tg (gName i)) : ∃ g : TG, (∀ s H c cells fp, PG (bx s H c cells fp) tg g) ∧ ∀ {σ : St} {F H : Hp} {ρ ρ1 : Env} {v : V} {d : D} {Q : St → Hp → Prop}, Stt C F H σ ρ → Rep C F v d → putTg ρ (.one i) d = some ρ1 →
      (∀ σ2, Stt C F H σ2 ρ1 → Tr [] σ F H ρ σ2 F H ρ1 → (∀ ks : List Nat, (∀ j ∈ (Tg.one i).slots, j ∈ ks) → wipe σ2 ks = wipe σ ks) → Q σ2 H) → g v σ H Q :=
  ⟨gName i, h, fun {σ F H ρ ρ1 v d Q} S r e k => by
    obtain ⟨S1, T1⟩ := put_sh S r (show putS ρ i (.sh d) = some ρ1 from e)
    exact k _ S1 T1 fun ks h => wipe_set (h i (by simp [Tg.slots]))⟩
theorem tg_tup {is : List Nat} {tg : Expr} {bx : Shared → Hp → Addr → List (Str × Addr) → List Addr → Cx} (n : Nat) (hl : is.length = n) (h : ∀ s H c cells fp, PG (bx s H c cells fp) tg (gTup C.K n (gSlots is))) : ∃ g : TG, (∀ s H c cells fp, PG (bx s H c cells fp) tg g) ∧ ∀ {σ : St} {F H : Hp} {ρ ρ1 : Env} {v : V} {d : D} {Q : St → Hp → Prop}, Stt C F H σ ρ → Rep C F v d → putTg ρ (.tup is) d = some ρ1 →
      (∀ σ2, Stt C F H σ2 ρ1 → Tr [] σ F H ρ σ2 F H ρ1 → (∀ ks : List Nat, (∀ j ∈ (Tg.tup is).slots, j ∈ ks) → wipe σ2 ks = wipe σ ks) → Q σ2 H) → g v σ H Q :=
  ⟨_, h, fun {σ F H ρ ρ1 v d Q} S r e k => by
    cases d with
    | tup ds =>
      have e : (if is.length = ds.length then putSs ρ is ds else none) = some ρ1 := e
      split at e
      · rename_i hl'
        cases r with
        | tup g rs => exact ⟨_, _, rfl, S.sub.sqT g, by rw [rs.length, ← hl', hl], slots_go S rs e fun σ2 S2 T2 w => k σ2 S2 T2 fun ks hh => w ks hh⟩
      · cases e
    | _ => cases e⟩
theorem sim_break {pos : Pos} : SimS cl X (.Break pos) sBreak := fun W _ => PS.imp ps_break fun D σ H ⟨F, ρ, S, r, ρ', e, h⟩ => by
  cases e
  exact h σ F H Tr.refl S
theorem sim_cont {pos : Pos} : SimS cl X (.Continue pos) sCont := fun W _ => PS.imp ps_continue fun D σ H ⟨F, ρ, S, r, ρ', e, h⟩ => by
  cases e
  exact h σ F H Tr.refl S
end
section
variable {cl : Nat → Addr} {C : Cs} {K : PySem.W.Frag} {mg : Str → Option Value}
theorem exm_ok {c S : Addr} {b : Bool} (h1 : PySem.W.subIn K (.ref S) (.type "BaseException") = some true) (h2 : PySem.W.isClsIn K S = true) (h3 : PySem.W.typeIn K (.ref S) = some (.type "type")) (h4 : PySem.W.subIn K (.ref c) (.ref S) = some b) : PySem.W.exmOne K (.ref c) (.ref S) = some b := by
  have e1 : (PySem.W.subIn K (.ref S) (.type "BaseException") == some true) = true := by rw [h1]; rfl
  have h2' : (PySem.W.clsIn K S).isSome = true := h2
  have e2 : ((PySem.W.clsIn K S).isSome && PySem.W.typeIn K (.ref S) == some (.type "type")) = true := by rw [h2', h3]; rfl
  unfold PySem.W.exmOne PySem.W.kitCls
  rw [if_pos e1]
  exact (if_pos e2).trans h4
theorem rep_tup {a : Addr} {xs : List V} {ds : List D} {its : Array Value} {n : Nat} {od : Option Addr} {sl : Array (Option Value)} (hC : C.K = K) (l : K.lookup a = some ⟨.type "tuple", od, .seq its n, sl⟩) (hz : its.size ≤ 1000) (r : Vals xs its.toList) (rs : Reps C (fun _ => none) xs ds) : Rep C (fun _ => none) (.ref a) (.tup ds) :=
  .tup (.inr ⟨_, its, n, by rw [hC]; exact l, rfl, rfl, by rw [sizeLine_eq]; omega, r⟩) rs
theorem rep_str {s : Txt} (h : okTb s = true) {F : Hp} : Rep C F (.str (mkS s)) (.str s) := .str s (okT_of h)
theorem g_const {X : Cx} {x : Str} {v : V} {u : Value} {d : D} {pos : Pos} (hm : mg x = some u) (r : RelV v u) (rp : ∀ C : Cs, C.K = K → Rep C (fun _ => none) v d) (n : Nm x) (hK : X.K = K) (hM : X.mg = mg) (hg : Gl X x) : SimE cl X (.Name x pos) (mK d) :=
  sim_G hg (by rw [hM]; exact hm) r (rp _ hK) n.d
theorem rv_str (s : Txt) {x : Str} {tk : Tok} (h : mkS s = x) : RelV (.str (mkS s)) (.str x tk) := ⟨tk, by rw [h]⟩
theorem rv_int (i : Int) {tk : Tok} : RelV (.int i) (.int i tk) := ⟨tk, rfl⟩
theorem rv_bl (b : Bool) : RelV (.bl b) (.bool b) := rfl
theorem rv_non : RelV .non .none := rfl
theorem rv_ref (a : Addr) : RelV (.ref a) (.ref a) := rfl
/-- the law's promise -/
def spLaw (K : PySem.W.Frag) : Sp := fun vs H Q _ => ∃ (a : Addr) (ns : List Int), vs = [.ref a] ∧ SqL K H a (ns.map V.int) ∧ ns.length ≤ 63 ∧ ∀ H', Q (.bl true) H'
theorem reps_ints {C : Cs} {F : Hp} : ∀ ns : List Int, Reps C F (ns.map V.int) (ns.map D.int)
  | [] => .nil
  | _ :: ns => .cons (.int _) (reps_ints ns)
/-- the mirror of the law is true of every script -/
def Keeps (f : Fn) : Prop := ∀ ns : List Int, ns.length ≤ 63 → ∃ os, f [.sh (.lst (ns.map D.int))] = some (.ok (.sh (.bl true)), os)
theorem law_imp {P : Program} {w : World} {base : Heap} {k : Nat} {fa : Addr} {fd : FuncData} {ps : List Str} {f : Fn} (hf : Keeps f) (h : FnOk P w K mg base (L2.CX P w) k fa fd ps (FSp ⟨P, w, K, cl⟩ f)) : FnOk P w K mg base (L2.CX P w) k fa fd ps (spLaw K) :=
  h.imp fun vs H Q E ⟨a, ns, ev, hs, hl, hq⟩ => by
    subst ev
    obtain ⟨os, e⟩ := hf ns hl
    refine ⟨H, [.sh (.lst (ns.map D.int))], _, os, e, ⟨Sub.refl _, rfl, fun i b h => ?_, fun i j b c x h1 h2 => ?_⟩, fun v A F' H' T S np rb fp nw => ?_⟩
    · cases i with
      | zero => cases h; exact ⟨_, rfl, .sh (.lst hs (reps_ints ns))⟩
      | succ i => cases i <;> cases h
    · cases i with
      | zero => cases h1; cases h2
      | succ i => cases i <;> cases h1
    · cases rb with
      | sh r => cases r; exact hq H'
end
end WF

set_option Elab.async false
set_option linter.all false
set_option maxRecDepth 100000
set_option maxHeartbeats 4000000
/-! WFT: rules for the combinators of WFA2. -/
namespace WF
open PySem PySem.Spec PyProof.Rows L2
section
variable {cl : Nat → Addr} {X : Cx}
theorem sim_fz {l : Expr} {m : M B} (ha : SimE cl X l m) : SimE cl X l (mFz m) := fun W tk => PE.imp (ha W tk) fun σ H Q ⟨F, ρ, S, h⟩ =>
  tM_bind (R1 := RlB) S h fun x b A F1 H1 ρ1 T1 S1 r1 f1 n1 h1 => by
    obtain ⟨d, F2, S2, rd, sb, h2⟩ := kept1 S1 r1 f1 h1
    exact (tR_ret h2).data S2 rd
end
end WF

set_option Elab.async false
set_option linter.all false
set_option maxRecDepth 100000
set_option maxHeartbeats 1000000
/-! WFP: how the mirror is reckoned with: one lemma a construct, in plain Lean (core and WFA alone). -/
namespace WF
section
variable {ρ ρ1 ρ2 : Env} {α β : Type}
theorem bind_eq {m : M α} {k : α → M β} {a : α} (h : m ρ = some (.ok a, ρ1)) : bind m k ρ = k a ρ1 := by
  unfold bind
  rw [h]
theorem bind_exc {m : M α} {k : α → M β} {c : Nat} {p : Option (Txt × D)} (h : m ρ = some (.exc c p, ρ1)) : bind m k ρ = some (.exc c p, ρ1) := by
  unfold bind
  rw [h]
/-! statements -/
theorem sIf_eq {t : M Bool} {a b : S} {p : Bool} (h : t ρ = some (.ok p, ρ1)) : sIf t a b ρ = if p then a ρ1 else b ρ1 := by
  unfold sIf
  rw [bind_eq h]
  cases p <;> rfl
theorem sSeq_nx {a b : S} (h : a ρ = some (.ok .nx, ρ1)) : sSeq a b ρ = b ρ1 := by
  unfold sSeq
  rw [bind_eq h]
theorem sSeq_rt {a b : S} {v : B} (h : a ρ = some (.ok (.rt v), ρ1)) : sSeq a b ρ = some (.ok (.rt v), ρ1) := by
  unfold sSeq
  rw [bind_eq h]
  rfl
theorem sSeq_exc {a b : S} {c : Nat} {p : Option (Txt × D)} (h : a ρ = some (.exc c p, ρ1)) : sSeq a b ρ = some (.exc c p, ρ1) := by
  unfold sSeq
  rw [bind_exc h]
theorem sRet_sh {m : M B} {d : D} (h : m ρ = some (.ok (.sh d), ρ1)) : sRet m ρ = some (.ok (.rt (.sh d)), ρ1) := by
  unfold sRet
  rw [bind_eq h]
  rfl
theorem sRet_ow {m : M B} {o : O} (h : m ρ = some (.ok (.ow o), ρ1)) : sRet m ρ = some (.ok (.rt (.ow o)), ρ1) := by
  unfold sRet
  rw [bind_eq h]
  rfl
theorem sDrop_eq {m : M B} {b : B} (h : m ρ = some (.ok b, ρ1)) : sDrop m ρ = some (.ok .nx, ρ1) := by
  unfold sDrop
  rw [bind_eq h]
  rfl
/-- if t: return m, then k -/
theorem guard_eq {t : M Bool} {m : M B} {k : S} {p : Bool} {d : D} (h : t ρ = some (.ok p, ρ1)) (hm : p = true → m ρ1 = some (.ok (.sh d), ρ1)) : sSeq (sIf t (sRet m) sPass) k ρ = if p then some (.ok (.rt (.sh d)), ρ1) else k ρ1 := by
  cases p with
  | true =>
    have := sIf_eq (a := sRet m) (b := sPass) h
    exact sSeq_rt (this.trans (sRet_sh (hm rfl)))
  | false => exact sSeq_nx (sIf_eq (a := sRet m) (b := sPass) h)
theorem guard_no {t : M Bool} {a k : S} (h : t ρ = some (.ok false, ρ1)) : sSeq (sIf t a sPass) k ρ = k ρ1 := sSeq_nx (sIf_eq (a := a) (b := sPass) h)
theorem guard_yes {t : M Bool} {m : M B} {k : S} {d : D} (h : t ρ = some (.ok true, ρ1)) (hm : m ρ1 = some (.ok (.sh d), ρ2)) : sSeq (sIf t (sRet m) sPass) k ρ = some (.ok (.rt (.sh d)), ρ2) :=
  sSeq_rt ((sIf_eq (a := sRet m) (b := sPass) h).trans (sRet_sh hm))
/-! values, tests -/
theorem mAnd_eq {a b : M B} {p : Bool} (h : a ρ = some (.ok (.sh (.bl p)), ρ1)) : mAnd a b ρ = if p then b ρ1 else some (.ok (.sh (.bl false)), ρ1) := by
  unfold mAnd
  rw [bind_eq h]
  cases p <;> rfl
theorem mOr_eq {a b : M B} {p : Bool} (h : a ρ = some (.ok (.sh (.bl p)), ρ1)) : mOr a b ρ = if p then some (.ok (.sh (.bl true)), ρ1) else b ρ1 := by
  unfold mOr
  rw [bind_eq h]
  cases p <;> rfl
theorem mAnd_bl {a b : M B} {p q : Bool} (h : a ρ = some (.ok (.sh (.bl p)), ρ)) (h2 : p = true → b ρ = some (.ok (.sh (.bl q)), ρ)) : mAnd a b ρ = some (.ok (.sh (.bl (p && q))), ρ) := by
  rw [mAnd_eq h]
  cases p with
  | true => rw [if_pos rfl, h2 rfl]; rfl
  | false => rfl
theorem mOr_bl {a b : M B} {p q : Bool} (h : a ρ = some (.ok (.sh (.bl p)), ρ)) (h2 : p = false → b ρ = some (.ok (.sh (.bl q)), ρ)) : mOr a b ρ = some (.ok (.sh (.bl (p || q))), ρ) := by
  rw [mOr_eq h]
  cases p with
  | false => rw [if_neg Bool.false_ne_true, h2 rfl]; rfl
  | true => rfl
theorem mNot_bl {a : M B} {p : Bool} (h : a ρ = some (.ok (.sh (.bl p)), ρ1)) : mNot a ρ = some (.ok (.sh (.bl (!p))), ρ1) := by
  unfold mNot
  rw [bind_eq h]
  rfl
theorem tV_bl {a : M B} {p : Bool} (h : a ρ = some (.ok (.sh (.bl p)), ρ1)) : tV a ρ = some (.ok p, ρ1) := by
  unfold tV
  rw [bind_eq h]
  rfl
theorem tNot_eq {a : M Bool} {p : Bool} (h : a ρ = some (.ok p, ρ1)) : tNot a ρ = some (.ok (!p), ρ1) := by
  unfold tNot
  rw [bind_eq h]
  rfl
theorem tOr_eq {a b : M Bool} {p q : Bool} (h : a ρ = some (.ok p, ρ)) (h2 : p = false → b ρ = some (.ok q, ρ)) : tOr a b ρ = some (.ok (p || q), ρ) := by
  unfold tOr
  rw [bind_eq h]
  cases p with
  | true => rfl
  | false => exact h2 rfl
theorem tAnd_eq {a b : M Bool} {p q : Bool} (h : a ρ = some (.ok p, ρ)) (h2 : p = true → b ρ = some (.ok q, ρ)) : tAnd a b ρ = some (.ok (p && q), ρ) := by
  unfold tAnd
  rw [bind_eq h]
  cases p with
  | true => exact h2 rfl
  | false => rfl
theorem mIf_eq {t : M Bool} {a b : M B} {p : Bool} (h : t ρ = some (.ok p, ρ1)) : mIf t a b ρ = if p then a ρ1 else b ρ1 := by
  unfold mIf
  rw [bind_eq h]
  cases p <;> rfl
theorem mOp_sh {f : D → D → Option B} {a b : M B} {x y : D} {r : B} (ha : a ρ = some (.ok (.sh x), ρ1)) (hb : b ρ1 = some (.ok (.sh y), ρ2)) (h : f x y = some r) : mOp f a b ρ = some (.ok r, ρ2) := by
  unfold mOp
  rw [bind_eq ha, bind_eq hb]
  show lift (f x y) ρ2 = _
  rw [h]
  rfl
theorem mOp_dat {f : D → D → Option B} {a b : M B} {x y : B} {dx dy : D} {r : B} (ha : a ρ = some (.ok x, ρ1)) (hb : b ρ1 = some (.ok y, ρ2)) (hx : x.dat ρ2 = some dx) (hy : y.dat ρ2 = some dy) (h : f dx dy = some r) : mOp f a b ρ = some (.ok r, ρ2) := by
  unfold mOp
  rw [bind_eq ha, bind_eq hb]
  have ex : dat x ρ2 = some (.ok dx, ρ2) := by unfold dat; rw [hx]
  have ey : dat y ρ2 = some (.ok dy, ρ2) := by unfold dat; rw [hy]
  show bind (dat x) (fun d => bind (dat y) fun e => lift (f d e)) ρ2 = _
  rw [bind_eq ex, bind_eq ey]
  show lift (f dx dy) ρ2 = _
  rw [h]
  rfl
theorem mUn_sh {f : D → Option B} {a : M B} {x : D} {r : B} (ha : a ρ = some (.ok (.sh x), ρ1)) (h : f x = some r) : mUn f a ρ = some (.ok r, ρ1) := by
  unfold mUn
  rw [bind_eq ha]
  show lift (f x) ρ1 = _
  rw [h]
  rfl
theorem mP_sh {i : Nat} {d : D} (h : ρ.at i = some (.sh d)) : mP i ρ = some (.ok (.sh d), ρ) := by
  unfold mP
  rw [h]
theorem mV_sh {i : Nat} {d : D} (h : ρ.at i = some (.sh d)) : mV i ρ = some (.ok (.sh d), ρ) := by
  unfold mV
  rw [h]
theorem mMv_sh {i : Nat} {d : D} (h : ρ.at i = some (.sh d)) : mMv i ρ = some (.ok (.sh d), ρ) := by
  unfold mMv
  rw [h]
theorem mIx_sh {a b : M B} {x y z : D} (ha : a ρ = some (.ok (.sh x), ρ1)) (hb : b ρ1 = some (.ok (.sh y), ρ2)) (h : iIx x y = some (.sh z)) : mIx a b ρ = some (.ok (.sh z), ρ2) := by
  unfold mIx
  rw [bind_eq ha, bind_eq hb]
  show lift (iIx x y) ρ2 = _
  rw [h]
  rfl
theorem eq_bl {x y : D} (hx : x.dep ≤ 60) (hy : y.dep ≤ 60) : iEq x y = some (.sh (.bl (D.eqv x y))) := by
  unfold iEq
  rw [if_pos (by simp [hx, hy])]
  rfl
theorem ne_bl {x y : D} (hx : x.dep ≤ 60) (hy : y.dep ≤ 60) : iNe x y = some (.sh (.bl (!D.eqv x y))) := by
  unfold iNe
  rw [if_pos (by simp [hx, hy])]
  rfl
/-! calls with data -/
theorem handL_sh : ∀ ds : List D, handL ρ (ds.map B.sh) = some (ds.map SB.sh)
  | [] => rfl
  | d :: ds => by
    show (match handB ρ (B.sh d), handL ρ (ds.map B.sh) with | some x, some xs => some (x :: xs) | _, _ => none) = _
    rw [handL_sh ds]
    rfl
theorem lent_sh : ∀ ds : List D, lent (ds.map B.sh) = []
  | [] => rfl
  | d :: ds => lent_sh ds
theorem backL_sh : ∀ (ds : List D) (os : Env), backL ρ (ds.map B.sh) os = ρ
  | [], os => by unfold backL; rfl
  | d :: ds, [] => rfl
  | d :: ds, o :: os => backL_sh ds os
theorem callF_sh {f : Fn} {ds : List D} {r : Res B} {os : Env} (h : f (ds.map SB.sh) = some (r, os)) : callF f (ds.map B.sh) ρ = some (r, ρ) := by
  unfold callF
  rw [lent_sh, handL_sh]
  simp only [nodupN, if_true, h, backL_sh]
theorem mCall_sh {f : Fn} {as : M (List B)} {ds : List D} {r : Res B} {os : Env} (ha : as ρ = some (.ok (ds.map B.sh), ρ1)) (h : f (ds.map SB.sh) = some (r, os)) : mCall f as ρ = some (r, ρ1) := by
  unfold mCall
  rw [bind_eq ha]
  exact callF_sh h
theorem mCons_eq {a : M B} {as : M (List B)} {b : B} {bs : List B} (ha : a ρ = some (.ok b, ρ1)) (h : as ρ1 = some (.ok bs, ρ2)) : mCons a as ρ = some (.ok (b :: bs), ρ2) := by
  unfold mCons
  rw [bind_eq ha, bind_eq h]
  rfl
theorem mNil_eq : mNil ρ = some (.ok [], ρ) := rfl
/-- a def whose body returns -/
theorem fn_rt {np n : Nat} {body : S} {args : List SB} {b : B} (hl : args.length = np) (h : body (args.map some ++ List.replicate (n - np) none) = some (.ok (.rt b), ρ)) : mkFn np n body args = some (.ok b, outs np ρ) := by
  unfold mkFn
  rw [if_pos hl, h]
theorem fn_nx {np n : Nat} {body : S} {args : List SB} (hl : args.length = np) (h : body (args.map some ++ List.replicate (n - np) none) = some (.ok .nx, ρ)) : mkFn np n body args = some (.ok (.sh .non), outs np ρ) := by
  unfold mkFn
  rw [if_pos hl, h]
theorem fn_exc {np n : Nat} {body : S} {args : List SB} {c : Nat} {p : Option (Txt × D)} (hl : args.length = np) (h : body (args.map some ++ List.replicate (n - np) none) = some (.exc c p, ρ)) : mkFn np n body args = some (.exc c p, outs np ρ) := by
  unfold mkFn
  rw [if_pos hl, h]
/-! loops -/
theorem forGo_cons {t : Tg} {body : S} {d : D} {ds : List D} (h : putTg ρ t d = some ρ1) : forGo t body (d :: ds) ρ = bind body (fun f => match f with | .nx => forGo t body ds | .ct => forGo t body ds | .bk => ret .nx | .rt b => ret (.rt b)) ρ1 := by
  show (match putTg ρ t d with | none => none | some ρ1 => bind body _ ρ1) = _
  rw [h] <;> rfl
/-- a loop whose turns go on -/
theorem forGo_inv {t : Tg} {body : S} (I : Env → Prop) : ∀ {ds : List D}, (∀ d ∈ ds, ∀ ρ, I ρ → ∃ ρ1 ρ2, putTg ρ t d = some ρ1 ∧ body ρ1 = some (.ok .nx, ρ2) ∧ I ρ2) → ∀ ρ, I ρ → ∃ ρ', forGo t body ds ρ = some (.ok .nx, ρ') ∧ I ρ'
  | [], _, ρ, h => ⟨ρ, rfl, h⟩
  | d :: ds, st, ρ, h => by
    obtain ⟨ρ1, ρ2, e1, e2, h2⟩ := st d List.mem_cons_self ρ h
    obtain ⟨ρ', e3, h3⟩ := forGo_inv I (fun d m => st d (List.mem_cons_of_mem _ m)) ρ2 h2
    refine ⟨ρ', ?_, h3⟩
    rw [forGo_cons e1, bind_eq e2]
    exact e3
/-- the same by place -/
theorem forGo_at {t : Tg} {body : S} (I : Nat → Env → Prop) : ∀ {ds : List D} (i : Nat), (∀ (j : Nat) d, ds[j]? = some d → ∀ ρ, I (i + j) ρ → ∃ ρ1 ρ2, putTg ρ t d = some ρ1 ∧ body ρ1 = some (.ok .nx, ρ2) ∧ I (i + j + 1) ρ2) → ∀ ρ, I i ρ → ∃ ρ', forGo t body ds ρ = some (.ok .nx, ρ') ∧ I (i + ds.length) ρ'
  | [], i, _, ρ, h => ⟨ρ, rfl, h⟩
  | d :: ds, i, st, ρ, h => by
    obtain ⟨ρ1, ρ2, e1, e2, h2⟩ := st 0 d rfl ρ h
    obtain ⟨ρ', e3, h3⟩ := forGo_at I (ds := ds) (i + 1) (fun j d e ρ hI => by
      have := st (j + 1) d (by simpa using e) ρ (by rw [show i + (j + 1) = i + 1 + j by omega]; exact hI)
      rw [show i + (j + 1) + 1 = i + 1 + j + 1 by omega] at this
      exact this) ρ2 h2
    refine ⟨ρ', ?_, by rw [List.length_cons, show i + (ds.length + 1) = i + 1 + ds.length by omega]; exact h3⟩
    rw [forGo_cons e1, bind_eq e2]
    exact e3
/-- a comprehension whose turns leave the other names as they are: some items, by g -/
theorem compGo_map {t : Tg} {c : M Bool} {e : M B} (I : Env → Prop) (g : D → Option D) : ∀ {ds : List D}, (∀ d ∈ ds, ∀ ρ, I ρ → ∃ ρ1 ρ2, putTg (clr ρ t.slots) t d = some ρ1 ∧ I ρ2 ∧ ((g d = none ∧ c ρ1 = some (.ok false, ρ2)) ∨ ∃ x ρ3 b, g d = some x ∧ c ρ1 = some (.ok true, ρ3) ∧ e ρ3 = some (.ok b, ρ2) ∧ noPl b = true ∧ b.dat ρ2 = some x)) →
    ∀ acc ρ, I ρ → ∃ ρ', compGo t c e ds acc ρ = some (.ok (acc ++ ds.filterMap g), ρ') ∧ I ρ'
  | [], _, acc, ρ, h => ⟨ρ, by rw [List.filterMap_nil, List.append_nil]; rfl, h⟩
  | d :: ds, st, acc, ρ, h => by
    obtain ⟨ρ1, ρ2, e1, h2, q⟩ := st d List.mem_cons_self ρ h
    have u : compGo t c e (d :: ds) acc ρ = bind c (fun k => if k then bind e fun x => bind (kept [x]) fun v => compGo t c e ds (acc ++ v) else compGo t c e ds acc) ρ1 := by
      show (match putTg (clr ρ t.slots) t d with | none => none | some ρ1 => bind c _ ρ1) = _
      rw [e1]
    rw [u]
    rcases q with ⟨g0, ec⟩ | ⟨x, ρ3, b, g1, ec, ee, nb, ed⟩
    · obtain ⟨ρ', e3, h3⟩ := compGo_map I g (fun d m => st d (List.mem_cons_of_mem _ m)) acc ρ2 h2
      refine ⟨ρ', ?_, h3⟩
      rw [bind_eq ec, List.filterMap_cons_none g0]
      exact e3
    · obtain ⟨ρ', e3, h3⟩ := compGo_map I g (fun d m => st d (List.mem_cons_of_mem _ m)) (acc ++ [x]) ρ2 h2
      refine ⟨ρ', ?_, h3⟩
      have ek : kept [b] ρ2 = some (.ok [x], ρ2) := by
        unfold kept
        rw [if_pos (by simp [nb])]
        show (match datsL ρ2 [b] with | none => none | some ds => some (Res.ok ds, ρ2)) = _
        have : datsL ρ2 [b] = some [x] := by
          show (match b.dat ρ2, datsL ρ2 [] with | some d, some ds => some (d :: ds) | _, _ => none) = _
          rw [ed]
          rfl
        rw [this]
      rw [bind_eq ec, List.filterMap_cons_some g1]
      show bind e (fun x => bind (kept [x]) fun v => compGo t c e ds (acc ++ v)) ρ3 = _
      rw [bind_eq ee, bind_eq ek, e3, List.append_assoc]
      rfl
/-- a comprehension over one name, its turns pure -/
theorem set_self {i : Nat} (h : ρ.at i = none) : ρ.set i none = ρ := by
  apply List.ext_getElem?
  intro j
  by_cases e : i = j
  · subst e
    by_cases hl : i < ρ.length
    · rw [List.getElem?_set_self hl]
      have h' : ρ.getD i none = none := h
      rw [List.getD_eq_getElem?_getD, List.getElem?_eq_getElem hl] at h'
      rw [List.getElem?_eq_getElem hl]
      exact congrArg some (by simpa using h'.symm)
    · rw [List.getElem?_eq_none (by simp; omega), List.getElem?_eq_none (by omega)]
  · rw [List.getElem?_set_ne e]
theorem at_set_self {i : Nat} {o : Option SB} (h : i < ρ.length) : Env.at (ρ.set i o) i = o := by
  show (ρ.set i o).getD i none = o
  rw [List.getD_eq_getElem?_getD, List.getElem?_set_self h]
  rfl
theorem mComp_pure {ρ0 : Env} {i : Nat} {it : M (List D)} {c : M Bool} {e : M B} {ds : List D} (g : D → Option D) (hit : it ρ0 = some (.ok ds, ρ)) (hi : i < ρ.length) (h0 : ρ.at i = none) (hz : ds.length ≤ LIM)
    (st : ∀ d ∈ ds, (g d = none ∧ c (ρ.set i (some (.sh d))) = some (.ok false, ρ.set i (some (.sh d)))) ∨ ∃ x, g d = some x ∧ c (ρ.set i (some (.sh d))) = some (.ok true, ρ.set i (some (.sh d))) ∧ e (ρ.set i (some (.sh d))) = some (.ok (.sh x), ρ.set i (some (.sh d)))) :
    mComp (.one i) it c e ρ0 = some (.ok (.ow (.lst (ds.filterMap g))), ρ) := by
  have cl : ∀ o : Option SB, clr (ρ.set i o) [i] = ρ := fun o => by
    show (ρ.set i o).set i none = ρ
    rw [List.set_set]
    exact set_self h0
  obtain ⟨ρ', e1, o, e2⟩ := compGo_map (t := .one i) (c := c) (e := e) (fun ρ' => ∃ o, ρ' = ρ.set i o) g (ds := ds) (fun d m ρ1 ⟨o, h⟩ => by
    subst h
    refine ⟨ρ.set i (some (.sh d)), ρ.set i (some (.sh d)), ?_, ⟨_, rfl⟩, ?_⟩
    · show putS (clr (ρ.set i o) [i]) i (.sh d) = _
      rw [cl]
      unfold putS
      rw [if_pos hi, h0]
    · rcases st d m with ⟨a, b⟩ | ⟨x, a, b, f⟩
      · exact .inl ⟨a, b⟩
      · exact .inr ⟨x, _, .sh x, a, b, f, rfl, rfl⟩) [] ρ ⟨none, (set_self h0).symm⟩
  unfold mComp
  rw [bind_eq hit]
  have fr : free ρ (Tg.one i).slots = true := by
    show (([i] : List Nat).all fun i => match ρ.at i with | none => decide (i < ρ.length) | some (.sh _) => true | some _ => false) = true
    simp [h0, hi]
  have ne : noExc (compGo (.one i) c e ds []) ρ = some (.ok (ds.filterMap g), ρ') := by
    unfold noExc
    rw [e1]
    rfl
  have hz' : (ds.filterMap g).length ≤ LIM := Nat.le_trans (List.length_filterMap_le _ _) hz
  show (if free ρ (Tg.one i).slots then match noExc (compGo (.one i) c e ds []) ρ with
      | some (.ok vs, ρ1) => if vs.length ≤ LIM then some (Res.ok (B.ow (.lst vs)), back ρ ρ1 (Tg.one i).slots) else none
      | _ => none else none) = _
  rw [fr, ne]
  show (if (ds.filterMap g).length ≤ LIM then some (Res.ok (B.ow (.lst (ds.filterMap g))), back ρ ρ' [i]) else none) = _
  rw [if_pos hz']
  have : back ρ ρ' [i] = ρ := by
    show ρ'.set i (ρ.at i) = ρ
    rw [h0, e2, List.set_set]
    exact set_self h0
  rw [this]
theorem items_sh {m : M B} {d : D} {ds : List D} (h : m ρ = some (.ok (.sh d), ρ1)) (e : dItems d = some ds) : items m ρ = some (.ok ds, ρ1) := by
  unfold items
  rw [bind_eq h]
  show bind (kept [B.sh d]) _ ρ1 = _
  rw [bind_eq (m := kept [B.sh d]) (a := [d]) (ρ1 := ρ1) rfl]
  show lift (dItems d) ρ1 = _
  rw [e]
  rfl
theorem bools_map {p : D → Bool} : ∀ ds : List D, bools (ds.map fun d => .bl (p d)) = some (ds.map p)
  | [] => rfl
  | d :: ds => by
    show (bools (ds.map fun d => .bl (p d))).map (fun bs => p d :: bs) = _
    rw [bools_map ds]
    rfl
theorem filterMap_some {g : D → D} : ∀ ds : List D, ds.filterMap (fun d => some (g d)) = ds.map g
  | [] => rfl
  | d :: ds => by
    rw [List.filterMap_cons_some (f := fun d => some (g d)) (b := g d) rfl, filterMap_some ds]
    rfl
theorem all_ow {m : M B} {ds : List D} {p : D → Bool} (h : m ρ = some (.ok (.ow (.lst (ds.map fun d => .bl (p d)))), ρ1)) : mAll m ρ = some (.ok (.sh (.bl (ds.all p))), ρ1) := by
  unfold mAll mUn
  rw [bind_eq h]
  show lift (iAll (.lst (ds.map fun d => .bl (p d)))) ρ1 = _
  unfold iAll
  simp only [bools_map]
  show some (Res.ok (boo ((ds.map p).all id)), ρ1) = _
  rw [List.all_map]
  rfl
theorem sSeq_assoc (a b c : S) : sSeq (sSeq a b) c ρ = sSeq a (sSeq b c) ρ := by
  unfold sSeq
  unfold bind
  cases h : a ρ with
  | none => rfl
  | some q =>
    obtain ⟨r, ρ1⟩ := q
    cases r with
    | exc c p => rfl
    | ok f => cases f <;> rfl
theorem sSet_ow {i : Nat} {m : M B} {o : O} (h : m ρ = some (.ok (.ow o), ρ1)) (p : putS ρ1 i (.ow o) = some ρ2) : sSet i m ρ = some (.ok .nx, ρ2) := by
  unfold sSet
  rw [bind_eq h]
  show bind (ret (SB.ow o)) (fun b => bindS i b) ρ1 = _
  rw [bind_eq (m := ret (SB.ow o)) (a := SB.ow o) (ρ1 := ρ1) rfl]
  unfold bindS
  rw [p]
theorem sSet_sh {i : Nat} {m : M B} {d : D} (h : m ρ = some (.ok (.sh d), ρ1)) (p : putS ρ1 i (.sh d) = some ρ2) : sSet i m ρ = some (.ok .nx, ρ2) := by
  unfold sSet
  rw [bind_eq h]
  show bind (ret (SB.sh d)) (fun b => bindS i b) ρ1 = _
  rw [bind_eq (m := ret (SB.sh d)) (a := SB.sh d) (ρ1 := ρ1) rfl]
  unfold bindS
  rw [p]
theorem mLst_eq {es : M (List B)} {bs : List B} {ds : List D} (h : es ρ = some (.ok bs, ρ1)) (f : few bs = true) (k : kept bs ρ1 = some (.ok ds, ρ1)) : mLst es ρ = some (.ok (.ow (.lst ds)), ρ1) := by
  unfold mLst
  rw [bind_eq h, f]
  show bind (kept bs) (fun ds => ret (B.ow (.lst ds))) ρ1 = _
  rw [bind_eq k]
  rfl
theorem mTup_eq {es : M (List B)} {bs : List B} {ds : List D} (h : es ρ = some (.ok bs, ρ1)) (f : few bs = true) (k : kept bs ρ1 = some (.ok ds, ρ1)) : mTup es ρ = some (.ok (.sh (.tup ds)), ρ1) := by
  unfold mTup
  rw [bind_eq h, f]
  show bind (kept bs) (fun ds => ret (B.sh (.tup ds))) ρ1 = _
  rw [bind_eq k]
  rfl
end
end WF

set_option Elab.async false
set_option linter.all false
set_option maxRecDepth 100000
set_option maxHeartbeats 1000000
/-! WFV: the mirror reckoned by simp, construct by construct: K runs m and goes on; what comes behind is kept in named frames (simp does not look into them). Core Lean and WFA alone. -/
namespace WF
section
variable {α β γ : Type}
abbrev Ct (α β : Type) := α → Env → Option β
abbrev Ex (β : Type) := Nat → Option (Txt × D) → Env → Option β
/-- run m, then go on -/
def K (m : M α) (ρ : Env) (k : Ct α β) (e : Ex β) : Option β :=
  match m ρ with
  | none => none
  | some (.ok a, ρ1) => k a ρ1
  | some (.exc c p, ρ1) => e c p ρ1
def KO (o : Option α) (k : Ct α β) (ρ : Env) : Option β := match o with | none => none | some a => k a ρ
def KE (o : Option Env) (k : Env → Option β) : Option β := match o with | none => none | some ρ => k ρ
def noX : Ex β := fun _ _ _ => none
variable {ρ ρ1 : Env} {k : Ct α β} {e : Ex β}
theorem KO_some {a : α} : KO (some a) k ρ = k a ρ := rfl
theorem KO_none : KO none k ρ = none := rfl
theorem KO_ite {c : Prop} [Decidable c] {a b : Option α} : KO (if c then a else b) k ρ = if c then KO a k ρ else KO b k ρ := by split <;> rfl
theorem KE_some {k : Env → Option β} : KE (some ρ) k = k ρ := rfl
theorem KE_none {k : Env → Option β} : KE none k = none := rfl
theorem KE_ite {c : Prop} [Decidable c] {a b : Option Env} {k : Env → Option β} : KE (if c then a else b) k = if c then KE a k else KE b k := by split <;> rfl
theorem K_eq {m : M α} {a : α} (h : m ρ = some (.ok a, ρ1)) : K m ρ k e = k a ρ1 := by unfold K; rw [h]
theorem K_exc {m : M α} {c p} (h : m ρ = some (.exc c p, ρ1)) : K m ρ k e = e c p ρ1 := by unfold K; rw [h]
theorem K_ret {a : α} : K (ret a) ρ k e = k a ρ := rfl
theorem K_stuck : K (stuck) ρ k e = none := rfl
theorem K_bind {m : M γ} {f : γ → M α} : K (bind m f) ρ k e = K m ρ (fun a ρ1 => K (f a) ρ1 k e) e := by
  unfold K bind
  cases m ρ with
  | none => rfl
  | some q => obtain ⟨r, ρ1⟩ := q; cases r <;> rfl
theorem K_lift {o : Option α} : K (lift o) ρ k e = KO o k ρ := by cases o <;> rfl
theorem K_noExc {m : M α} : K (noExc m) ρ k e = K m ρ k noX := by
  unfold K noExc
  cases m ρ with
  | none => rfl
  | some q => obtain ⟨r, ρ1⟩ := q; cases r <;> rfl
/-- from the equation to K and back -/
def kId : Ct α (Res α × Env) := fun a ρ => some (.ok a, ρ)
def eId : Ex (Res α × Env) := fun c p ρ => some (.exc c p, ρ)
theorem K_id {m : M α} : m ρ = K m ρ kId eId := by
  unfold K
  cases m ρ with
  | none => rfl
  | some q => obtain ⟨r, ρ1⟩ := q; cases r <;> rfl
theorem kId_eq {a : α} : kId a ρ = some (.ok a, ρ) := rfl
theorem eId_eq {c p} : (eId : Ex (Res α × Env)) c p ρ = some (.exc c p, ρ) := rfl
def un1 (f : D → Option α) (o : Option D) : Option α := o.bind f
theorem un1_some {f : D → Option α} {d : D} : un1 f (some d) = f d := rfl
def op2 (f : D → D → Option α) (x y : Option D) : Option α := x.bind fun d => y.bind fun g => f d g
theorem op2_some {f : D → D → Option α} {d g : D} : op2 f (some d) (some g) = f d g := rfl
theorem K_if {c : Bool} {a b : M α} : K (if c = true then a else b) ρ k e = if c = true then K a ρ k e else K b ρ k e := by cases c <;> rfl
end
section
variable {β : Type} {ρ ρ1 : Env} {e : Ex β} {k : Ct B β} {ks : Ct (List B) β} {kb : Ct Bool β} {kd : Ct (List D) β} {kf : Ct Fl β}
/-! data -/
theorem K_dat {b : B} {k : Ct D β} : K (dat b) ρ k e = KO (b.dat ρ) k ρ := by
  unfold K dat KO
  cases b.dat ρ <;> rfl
theorem dat_sh {d : D} : (B.sh d).dat ρ = some d := rfl
theorem dat_ow {o : O} : (B.ow o).dat ρ = o.toD := rfl
theorem dat_pl {i : Nat} : (B.pl i).dat ρ = (ρ.at i).bind SB.toD := by
  show (match ρ.at i with | some b => b.toD | none => none) = _
  cases ρ.at i <;> rfl
theorem dat_tp {bs : List SB} : (B.tp bs).dat ρ = (sbsD bs).map D.tup := by
  show (match sbsD bs with | some ds => some (D.tup ds) | none => none) = _
  cases sbsD bs <;> rfl
theorem sbsD_nil : sbsD [] = some [] := rfl
theorem sbsD_cons {b : SB} {r : List SB} : sbsD (b :: r) = b.toD.bind fun d => (sbsD r).map fun ds => d :: ds := by
  show (match b.toD, sbsD r with | some d, some ds => some (d :: ds) | _, _ => none) = _
  cases b.toD <;> cases sbsD r <;> rfl
theorem toD_sh {d : D} : (SB.sh d).toD = some d := rfl
theorem toD_ow {o : O} : (SB.ow o).toD = o.toD := rfl
theorem toD_io {o : O} : (SB.io o).toD = o.toD := rfl
theorem toD_lst {xs : List D} : (O.lst xs).toD = some (.lst xs) := rfl
theorem toD_dic {t : Bool} {xs : List (D × D)} : (O.dic t xs).toD = some (.dic t xs) := rfl
theorem at_zero {x : Option SB} {r : Env} : Env.at (x :: r) 0 = x := rfl
theorem at_succ {x : Option SB} {r : Env} {n : Nat} : Env.at (x :: r) (n + 1) = Env.at r n := rfl
def kV (i : Nat) (k : Ct B β) : Ct SB β := fun s ρ => match s with
  | .sh d => k (.sh d) ρ
  | .ow o => match o.toD with | some d => k (.sh d) (ρ.set i (some (.sh d))) | none => none
  | .io _ => none
theorem kV_sh {i : Nat} {d : D} : kV i k (.sh d) ρ = k (.sh d) ρ := rfl
theorem kV_lst {i : Nat} {xs : List D} : kV i k (.ow (.lst xs)) ρ = k (.sh (.lst xs)) (ρ.set i (some (.sh (.lst xs)))) := rfl
theorem kV_dic {i : Nat} {t : Bool} {xs : List (D × D)} : kV i k (.ow (.dic t xs)) ρ = k (.sh (.dic t xs)) (ρ.set i (some (.sh (.dic t xs)))) := rfl
theorem K_mV {i : Nat} : K (mV i) ρ k e = KO (ρ.at i) (kV i k) ρ := by
  unfold K mV
  cases ρ.at i with
  | none => rfl
  | some b => cases b with
    | ow o => cases o <;> rfl
    | _ => rfl
def kP (i : Nat) (k : Ct B β) : Ct SB β := fun s ρ => match s with
  | .sh d => k (.sh d) ρ
  | .ow _ => k (.pl i) ρ
  | .io _ => k (.pl i) ρ
theorem kP_sh {i : Nat} {d : D} : kP i k (.sh d) ρ = k (.sh d) ρ := rfl
theorem kP_ow {i : Nat} {o : O} : kP i k (.ow o) ρ = k (.pl i) ρ := rfl
theorem kP_io {i : Nat} {o : O} : kP i k (.io o) ρ = k (.pl i) ρ := rfl
theorem K_mP {i : Nat} : K (mP i) ρ k e = KO (ρ.at i) (kP i k) ρ := by
  unfold K mP
  cases ρ.at i with
  | none => rfl
  | some b => cases b <;> rfl
def kM (i : Nat) (k : Ct B β) : Ct SB β := fun s ρ => match s with
  | .sh d => k (.sh d) ρ
  | .ow o => k (.ow o) (ρ.set i none)
  | .io _ => none
theorem kM_sh {i : Nat} {d : D} : kM i k (.sh d) ρ = k (.sh d) ρ := rfl
theorem kM_ow {i : Nat} {o : O} : kM i k (.ow o) ρ = k (.ow o) (ρ.set i none) := rfl
theorem K_mMv {i : Nat} : K (mMv i) ρ k e = KO (ρ.at i) (kM i k) ρ := by
  unfold K mMv
  cases ρ.at i with
  | none => rfl
  | some b => cases b <;> rfl
theorem K_mK {d : D} : K (mK d) ρ k e = k (.sh d) ρ := rfl
/-! operators -/
def kOp2 (f : D → D → Option B) (x : B) (k : Ct B β) : Ct B β := fun y ρ => KO (op2 f (x.dat ρ) (y.dat ρ)) k ρ
theorem kOp2_eq {f : D → D → Option B} {x y : B} : kOp2 f x k y ρ = KO (op2 f (x.dat ρ) (y.dat ρ)) k ρ := rfl
def kOp1 (f : D → D → Option B) (b : M B) (k : Ct B β) (e : Ex β) : Ct B β := fun x ρ => K b ρ (kOp2 f x k) e
theorem kOp1_eq {f : D → D → Option B} {b : M B} {x : B} : kOp1 f b k e x ρ = K b ρ (kOp2 f x k) e := rfl
theorem K_mOp {f : D → D → Option B} {a b : M B} : K (mOp f a b) ρ k e = K a ρ (kOp1 f b k e) e := by
  unfold mOp
  simp only [K_bind]
  congr 1; funext x ρ1
  show K b ρ1 _ e = K b ρ1 _ e
  congr 1; funext y ρ2
  simp only [K_dat, kOp2]
  cases x.dat ρ2 with
  | none => rfl
  | some d =>
    show KO (y.dat ρ2) (fun a ρ1 => K (lift (f d a)) ρ1 k e) ρ2 = _
    cases y.dat ρ2 with
    | none => rfl
    | some g => exact K_lift
def kUn (f : D → Option B) (k : Ct B β) : Ct B β := fun x ρ => KO (un1 f (x.dat ρ)) k ρ
theorem kUn_eq {f : D → Option B} {x : B} : kUn f k x ρ = KO (un1 f (x.dat ρ)) k ρ := rfl
theorem K_mUn {f : D → Option B} {a : M B} : K (mUn f a) ρ k e = K a ρ (kUn f k) e := by
  unfold mUn
  simp only [K_bind]
  congr 1; funext x ρ1
  simp only [K_dat, kUn]
  cases x.dat ρ1 with
  | none => rfl
  | some d => exact K_lift
theorem K_mNeg {a : M B} : K (mNeg a) ρ k e = K a ρ (kUn iNeg k) e := K_mUn
def isNB (d : D) : Option B := some (.sh (.bl d.isNon))
def notNB (d : D) : Option B := some (.sh (.bl (!d.isNon)))
theorem isNB_eq {d : D} : isNB d = some (.sh (.bl d.isNon)) := rfl
theorem notNB_eq {d : D} : notNB d = some (.sh (.bl (!d.isNon))) := rfl
theorem K_mIsN {a : M B} : K (mIsN a) ρ k e = K a ρ (kUn isNB k) e := by
  unfold mIsN
  simp only [K_bind]
  congr 1; funext x ρ1
  simp only [K_dat, kUn]
  cases x.dat ρ1 <;> rfl
theorem K_mNotN {a : M B} : K (mNotN a) ρ k e = K a ρ (kUn notNB k) e := by
  unfold mNotN
  simp only [K_bind]
  congr 1; funext x ρ1
  simp only [K_dat, kUn]
  cases x.dat ρ1 <;> rfl
def bitB : B → Option Bool
  | .sh (.bl b) => some b
  | _ => none
def lele (d g : D) : Option (Bool × D) := (iLe d g).bind fun r => (bitB r).map fun q => (q, g)
theorem lele_int {a b : Int} : lele (.int a) (.int b) = some (decide (a ≤ b), .int b) := rfl
def kLL3 (c : M B) (k : Ct B β) (e : Ex β) : Ct (Bool × D) β := fun q ρ => if q.1 = true then K c ρ (kOp2 iLe (.sh q.2) k) e else k (.sh (.bl false)) ρ
theorem kLL3_eq {c : M B} {q : Bool} {g : D} : kLL3 c k e (q, g) ρ = if q = true then K c ρ (kOp2 iLe (.sh g) k) e else k (.sh (.bl false)) ρ := rfl
def kLL2 (x : B) (c : M B) (k : Ct B β) (e : Ex β) : Ct B β := fun y ρ => KO (op2 lele (x.dat ρ) (y.dat ρ)) (kLL3 c k e) ρ
theorem kLL2_eq {x y : B} {c : M B} : kLL2 x c k e y ρ = KO (op2 lele (x.dat ρ) (y.dat ρ)) (kLL3 c k e) ρ := rfl
def kLL1 (b c : M B) (k : Ct B β) (e : Ex β) : Ct B β := fun x ρ => K b ρ (kLL2 x c k e) e
theorem kLL1_eq {b c : M B} {x : B} : kLL1 b c k e x ρ = K b ρ (kLL2 x c k e) e := rfl
theorem K_mLeLe {a b c : M B} : K (mLeLe a b c) ρ k e = K a ρ (kLL1 b c k e) e := by
  unfold mLeLe
  simp only [K_bind]
  congr 1; funext x ρ1
  show K b ρ1 _ e = K b ρ1 _ e
  congr 1; funext y ρ2
  simp only [K_dat, kLL2, K_lift, KO]
  cases x.dat ρ2 with
  | none => rfl
  | some d =>
    dsimp only
    cases y.dat ρ2 with
    | none => rfl
    | some g =>
      dsimp only [op2, Option.bind_some]
      unfold lele
      cases iLe d g with
      | none => rfl
      | some r =>
        rcases r with d | o | i | bs
        · cases d with
          | bl b =>
            cases b with
            | true =>
              show K (bind c _) ρ2 k e = K c ρ2 _ e
              simp only [K_bind]
              congr 1; funext z ρ3
              simp only [K_dat, kOp2]
              cases z.dat ρ3 with
              | none => rfl
              | some h => exact K_lift
            | false => rfl
          | _ => rfl
        · rfl
        · rfl
        · rfl
/-! tests -/
def kTV (kb : Ct Bool β) : Ct B β := fun x ρ => KO (un1 D.tru (x.dat ρ)) kb ρ
theorem kTV_eq {x : B} : kTV kb x ρ = KO (un1 D.tru (x.dat ρ)) kb ρ := rfl
theorem K_tV {a : M B} : K (tV a) ρ kb e = K a ρ (kTV kb) e := by
  unfold tV
  simp only [K_bind]
  congr 1; funext x ρ1
  simp only [K_dat, kTV]
  cases x.dat ρ1 with
  | none => rfl
  | some d => exact K_lift
def kTA (b : M Bool) (kb : Ct Bool β) (e : Ex β) : Ct Bool β := fun c ρ => if c = true then K b ρ kb e else kb false ρ
theorem kTA_eq {b : M Bool} {c : Bool} : kTA b kb e c ρ = if c = true then K b ρ kb e else kb false ρ := rfl
theorem K_tAnd {a b : M Bool} : K (tAnd a b) ρ kb e = K a ρ (kTA b kb e) e := by
  unfold tAnd
  simp only [K_bind, K_if, K_ret]
  rfl
def kTO (b : M Bool) (kb : Ct Bool β) (e : Ex β) : Ct Bool β := fun c ρ => if c = true then kb true ρ else K b ρ kb e
theorem kTO_eq {b : M Bool} {c : Bool} : kTO b kb e c ρ = if c = true then kb true ρ else K b ρ kb e := rfl
theorem K_tOr {a b : M Bool} : K (tOr a b) ρ kb e = K a ρ (kTO b kb e) e := by
  unfold tOr
  simp only [K_bind, K_if, K_ret]
  rfl
def kTN (kb : Ct Bool β) : Ct Bool β := fun c ρ => kb (!c) ρ
theorem kTN_eq {c : Bool} : kTN kb c ρ = kb (!c) ρ := rfl
theorem K_tNot {a : M Bool} : K (tNot a) ρ kb e = K a ρ (kTN kb) e := by
  unfold tNot
  simp only [K_bind, K_ret]
  rfl
theorem K_yes : K yes ρ kb e = kb true ρ := rfl
def kMA2 (b : M B) (k : Ct B β) (e : Ex β) : Ct Bool β := fun c ρ => if c = true then K b ρ k e else k (.sh (.bl false)) ρ
theorem kMA2_eq {b : M B} {c : Bool} : kMA2 b k e c ρ = if c = true then K b ρ k e else k (.sh (.bl false)) ρ := rfl
def kMA1 (b : M B) (k : Ct B β) (e : Ex β) : Ct B β := fun x ρ => KO (un1 D.boolV (x.dat ρ)) (kMA2 b k e) ρ
theorem kMA1_eq {b : M B} {x : B} : kMA1 b k e x ρ = KO (un1 D.boolV (x.dat ρ)) (kMA2 b k e) ρ := rfl
theorem K_mAnd {a b : M B} : K (mAnd a b) ρ k e = K a ρ (kMA1 b k e) e := by
  unfold mAnd
  simp only [K_bind, K_dat, K_lift, K_if, K_ret, boo]
  congr 1; funext x ρ1
  unfold kMA1
  cases x.dat ρ1 <;> rfl
def kMO2 (b : M B) (k : Ct B β) (e : Ex β) : Ct Bool β := fun c ρ => if c = true then k (.sh (.bl true)) ρ else K b ρ k e
theorem kMO2_eq {b : M B} {c : Bool} : kMO2 b k e c ρ = if c = true then k (.sh (.bl true)) ρ else K b ρ k e := rfl
def kMO1 (b : M B) (k : Ct B β) (e : Ex β) : Ct B β := fun x ρ => KO (un1 D.boolV (x.dat ρ)) (kMO2 b k e) ρ
theorem kMO1_eq {b : M B} {x : B} : kMO1 b k e x ρ = KO (un1 D.boolV (x.dat ρ)) (kMO2 b k e) ρ := rfl
theorem K_mOr {a b : M B} : K (mOr a b) ρ k e = K a ρ (kMO1 b k e) e := by
  unfold mOr
  simp only [K_bind, K_dat, K_lift, K_if, K_ret, boo]
  congr 1; funext x ρ1
  unfold kMO1
  cases x.dat ρ1 <;> rfl
def notB (d : D) : Option B := d.boolV.map fun c => .sh (.bl (!c))
theorem notB_bl {b : Bool} : notB (.bl b) = some (.sh (.bl (!b))) := rfl
theorem K_mNot {a : M B} : K (mNot a) ρ k e = K a ρ (kUn notB k) e := by
  unfold mNot
  simp only [K_bind, K_dat, K_lift, K_ret, boo]
  congr 1; funext x ρ1
  unfold kUn
  cases x.dat ρ1 with
  | none => rfl
  | some d =>
    show KO d.boolV _ ρ1 = KO (d.boolV.map _) k ρ1
    cases d.boolV <;> rfl
def kIf {α : Type} (a b : M α) (k : Ct α β) (e : Ex β) : Ct Bool β := fun c ρ => if c = true then K a ρ k e else K b ρ k e
theorem kIf_eq {α : Type} {a b : M α} {k : Ct α β} {c : Bool} : kIf a b k e c ρ = if c = true then K a ρ k e else K b ρ k e := rfl
theorem K_mIf {t : M Bool} {a b : M B} : K (mIf t a b) ρ k e = K t ρ (kIf a b k e) e := by
  unfold mIf
  simp only [K_bind, K_if]
  rfl
theorem boolV_bl {b : Bool} : (D.bl b).boolV = some b := rfl
theorem tru_bl {b : Bool} : (D.bl b).tru = some b := rfl
theorem tru_non : D.non.tru = some false := rfl
theorem tru_int {i : Int} : (D.int i).tru = some (i != 0) := rfl
theorem tru_str {s : Txt} : (D.str s).tru = some (!s.isEmpty) := rfl
theorem tru_tup {s : List D} : (D.tup s).tru = some (!s.isEmpty) := rfl
theorem tru_lst {s : List D} : (D.lst s).tru = some (!s.isEmpty) := rfl
/-! displays -/
theorem K_mNil : K mNil ρ ks e = ks [] ρ := rfl
def kC2 (x : B) (ks : Ct (List B) β) : Ct (List B) β := fun xs ρ => ks (x :: xs) ρ
theorem kC2_eq {x : B} {xs : List B} : kC2 x ks xs ρ = ks (x :: xs) ρ := rfl
def kC1 (r : M (List B)) (ks : Ct (List B) β) (e : Ex β) : Ct B β := fun x ρ => K r ρ (kC2 x ks) e
theorem kC1_eq {r : M (List B)} {x : B} : kC1 r ks e x ρ = K r ρ (kC2 x ks) e := rfl
theorem K_mCons {a : M B} {r : M (List B)} : K (mCons a r) ρ ks e = K a ρ (kC1 r ks e) e := by
  unfold mCons
  simp only [K_bind, K_ret]
  rfl
theorem datsL_nil : datsL ρ [] = some [] := rfl
theorem datsL_cons {b : B} {r : List B} : datsL ρ (b :: r) = (b.dat ρ).bind fun d => (datsL ρ r).map fun ds => d :: ds := by
  show (match b.dat ρ, datsL ρ r with | some d, some ds => some (d :: ds) | _, _ => none) = _
  cases b.dat ρ <;> cases datsL ρ r <;> rfl
def keptO (ρ : Env) (bs : List B) : Option (List D) := if bs.all noPl = true then datsL ρ bs else none
theorem keptO_nil : keptO ρ [] = some [] := rfl
theorem keptO_sh {d : D} {bs : List B} : keptO ρ (.sh d :: bs) = (keptO ρ bs).map fun ds => d :: ds := by
  unfold keptO
  rw [List.all_cons, show noPl (B.sh d) = true from rfl, Bool.true_and, datsL_cons]
  by_cases h : bs.all noPl = true
  · rw [if_pos h, if_pos h]; rfl
  · rw [if_neg h, if_neg h]; rfl
theorem keptO_ow {o : O} {bs : List B} : keptO ρ (.ow o :: bs) = o.toD.bind fun d => (keptO ρ bs).map fun ds => d :: ds := by
  unfold keptO
  rw [List.all_cons, show noPl (B.ow o) = true from rfl, Bool.true_and, datsL_cons]
  by_cases h : bs.all noPl = true
  · rw [if_pos h, if_pos h]; rfl
  · rw [if_neg h, if_neg h]; cases o.toD <;> rfl
theorem keptO_tp {o : List SB} {bs : List B} : keptO ρ (.tp o :: bs) = (sbsD o).bind fun d => (keptO ρ bs).map fun ds => .tup d :: ds := by
  unfold keptO
  rw [List.all_cons, show noPl (B.tp o) = true from rfl, Bool.true_and, datsL_cons, dat_tp]
  by_cases h : bs.all noPl = true
  · rw [if_pos h, if_pos h]; cases sbsD o <;> rfl
  · rw [if_neg h, if_neg h]; cases sbsD o <;> rfl
theorem K_kept {bs : List B} : K (kept bs) ρ kd e = KO (keptO ρ bs) kd ρ := by
  unfold kept keptO
  by_cases h : bs.all noPl = true
  · rw [if_pos h, if_pos h]
    unfold K dats
    cases datsL ρ bs <;> rfl
  · rw [if_neg h, if_neg h]
    rfl
def tupO (ρ : Env) (bs : List B) : Option B := if bs.length ≤ 1000 then (keptO ρ bs).map fun ds => B.sh (.tup ds) else none
def lstO (ρ : Env) (bs : List B) : Option B := if bs.length ≤ 1000 then (keptO ρ bs).map fun ds => B.ow (.lst ds) else none
theorem tupO_eq {bs : List B} : tupO ρ bs = if bs.length ≤ 1000 then (keptO ρ bs).map fun ds => B.sh (.tup ds) else none := rfl
theorem lstO_eq {bs : List B} : lstO ρ bs = if bs.length ≤ 1000 then (keptO ρ bs).map fun ds => B.ow (.lst ds) else none := rfl
def kTup (k : Ct B β) : Ct (List B) β := fun bs ρ => KO (tupO ρ bs) k ρ
def kLst (k : Ct B β) : Ct (List B) β := fun bs ρ => KO (lstO ρ bs) k ρ
theorem kTup_eq {bs : List B} : kTup k bs ρ = KO (tupO ρ bs) k ρ := rfl
theorem kLst_eq {bs : List B} : kLst k bs ρ = KO (lstO ρ bs) k ρ := rfl
theorem K_mTup {es : M (List B)} : K (mTup es) ρ k e = K es ρ (kTup k) e := by
  unfold mTup few
  simp only [K_bind]
  congr 1; funext bs ρ1
  unfold kTup tupO
  by_cases h : bs.length ≤ 1000
  · simp only [h, decide_true, if_true, K_bind, K_kept]; cases keptO ρ1 bs <;> rfl
  · simp [h, K_stuck, KO]
theorem K_mLst {es : M (List B)} : K (mLst es) ρ k e = K es ρ (kLst k) e := by
  unfold mLst few
  simp only [K_bind]
  congr 1; funext bs ρ1
  unfold kLst lstO
  by_cases h : bs.length ≤ 1000
  · simp only [h, decide_true, if_true, K_bind, K_kept]; cases keptO ρ1 bs <;> rfl
  · simp [h, K_stuck, KO]
def fzO (ds : List D) : Option B := match ds with | [d] => some (.sh d) | _ => none
theorem fzO_eq {d : D} : fzO [d] = some (.sh d) := rfl
def kFz (k : Ct B β) : Ct B β := fun x ρ => KO ((keptO ρ [x]).bind fzO) k ρ
theorem kFz_eq {x : B} : kFz k x ρ = KO ((keptO ρ [x]).bind fzO) k ρ := rfl
theorem K_mFz {a : M B} : K (mFz a) ρ k e = K a ρ (kFz k) e := by
  unfold mFz
  simp only [K_bind]
  congr 1; funext x ρ1
  rw [K_kept]
  unfold kFz
  cases keptO ρ1 [x] with
  | none => rfl
  | some ds =>
    match ds with
    | [] => rfl
    | [d] => rfl
    | _ :: _ :: _ => rfl
theorem lzip2_eq {a b c d : D} : lzip2 [.tup [a, b], .tup [c, d]] = some (.ow (.lst [.tup [a, c], .tup [b, d]])) := rfl
def kLZ2 (x : B) (k : Ct B β) : Ct B β := fun y ρ => KO ((keptO ρ [x, y]).bind lzip2) k ρ
theorem kLZ2_eq {x y : B} : kLZ2 x k y ρ = KO ((keptO ρ [x, y]).bind lzip2) k ρ := rfl
def kLZ1 (b : M B) (k : Ct B β) (e : Ex β) : Ct B β := fun x ρ => K b ρ (kLZ2 x k) e
theorem kLZ1_eq {b : M B} {x : B} : kLZ1 b k e x ρ = K b ρ (kLZ2 x k) e := rfl
theorem K_mLZip {a b : M B} : K (mLZip a b) ρ k e = K a ρ (kLZ1 b k e) e := by
  unfold mLZip
  simp only [K_bind]
  congr 1; funext x ρ1
  show K b ρ1 _ e = K b ρ1 _ e
  congr 1; funext y ρ2
  rw [K_kept]
  unfold kLZ2
  cases keptO ρ2 [x, y] with
  | none => rfl
  | some ds => exact K_lift
theorem K_mDic0 : K mDic0 ρ k e = k (.ow (.dic false [])) ρ := rfl
def dic1 (ds : List D) : Option B := match ds with | [d, g] => if keyT d = true then some (.ow (.dic true [(d, g)])) else none | _ => none
theorem dic1_eq {d g : D} : dic1 [d, g] = if keyT d = true then some (.ow (.dic true [(d, g)])) else none := rfl
def kD2 (x : B) (k : Ct B β) : Ct B β := fun y ρ => KO ((keptO ρ [x, y]).bind dic1) k ρ
theorem kD2_eq {x y : B} : kD2 x k y ρ = KO ((keptO ρ [x, y]).bind dic1) k ρ := rfl
def kD1 (b : M B) (k : Ct B β) (e : Ex β) : Ct B β := fun x ρ => K b ρ (kD2 x k) e
theorem kD1_eq {b : M B} {x : B} : kD1 b k e x ρ = K b ρ (kD2 x k) e := rfl
theorem K_mDic1 {a b : M B} : K (mDic1 a b) ρ k e = K a ρ (kD1 b k e) e := by
  unfold mDic1
  simp only [K_bind]
  congr 1; funext x ρ1
  show K b ρ1 _ e = K b ρ1 _ e
  congr 1; funext y ρ2
  rw [K_kept]
  unfold kD2
  cases keptO ρ2 [x, y] with
  | none => rfl
  | some ds =>
    show K _ ρ2 k e = KO (dic1 ds) k ρ2
    match ds with
    | [] => rfl
    | [_] => rfl
    | [d, g] =>
      rw [dic1_eq]
      show K (if keyT d then ret (.ow (.dic true [(d, g)])) else stuck) ρ2 k e = _
      cases keyT d <;> rfl
    | _ :: _ :: _ :: _ => rfl
/-! subscripts -/
def elB : SB → Option B
  | .sh d => some (.sh d)
  | .ow o => some (.ow o)
  | .io _ => none
theorem elB_sh {d : D} : elB (.sh d) = some (.sh d) := rfl
theorem elB_ow {d : O} : elB (.ow d) = some (.ow d) := rfl
def ixO (ρ : Env) (x y : B) : Option B := match x with
  | .tp bs => (y.dat ρ).bind fun g => match g with
    | .int j => (atI bs j).bind elB
    | _ => none
  | _ => op2 iIx (x.dat ρ) (y.dat ρ)
theorem ixO_sh {d : D} {y : B} : ixO ρ (.sh d) y = un1 (iIx d) (y.dat ρ) := by
  show op2 iIx (some d) (y.dat ρ) = _
  cases y.dat ρ <;> rfl
theorem ixO_ow {o : O} {y : B} : ixO ρ (.ow o) y = op2 iIx o.toD (y.dat ρ) := rfl
theorem ixO_pl {i : Nat} {y : B} : ixO ρ (.pl i) y = op2 iIx ((B.pl i).dat ρ) (y.dat ρ) := rfl
theorem ixO_tp {bs : List SB} {j : Int} : ixO ρ (.tp bs) (.sh (.int j)) = (atI bs j).bind elB := rfl
def kIx2 (x : B) (k : Ct B β) : Ct B β := fun y ρ => KO (ixO ρ x y) k ρ
theorem kIx2_eq {x y : B} : kIx2 x k y ρ = KO (ixO ρ x y) k ρ := rfl
def kIx1 (i : M B) (k : Ct B β) (e : Ex β) : Ct B β := fun x ρ => K i ρ (kIx2 x k) e
theorem kIx1_eq {i : M B} {x : B} : kIx1 i k e x ρ = K i ρ (kIx2 x k) e := rfl
theorem K_mIx {a i : M B} : K (mIx a i) ρ k e = K a ρ (kIx1 i k e) e := by
  unfold mIx
  simp only [K_bind]
  congr 1; funext x ρ1
  show K i ρ1 _ e = K i ρ1 _ e
  congr 1; funext y ρ2
  have gen : ∀ b : B, (∀ bs, b ≠ .tp bs) → K (bind (dat b) fun d => bind (dat y) fun g => lift (iIx d g)) ρ2 k e = KO (op2 iIx (b.dat ρ2) (y.dat ρ2)) k ρ2 := fun b _ => by
    simp only [K_bind, K_dat]
    cases b.dat ρ2 with
    | none => rfl
    | some d =>
      show KO (y.dat ρ2) (fun a ρ1 => K (lift (iIx d a)) ρ1 k e) ρ2 = _
      cases y.dat ρ2 with
      | none => rfl
      | some g => exact K_lift
  cases x with
  | tp bs =>
    show K (bind (dat y) _) ρ2 k e = KO ((y.dat ρ2).bind _) k ρ2
    simp only [K_bind, K_dat]
    cases y.dat ρ2 with
    | none => rfl
    | some g =>
      cases g with
      | int j =>
        show K (match atI bs j with | some (.sh d) => ret (.sh d) | some (.ow o) => ret (.ow o) | _ => stuck) ρ2 k e = KO ((atI bs j).bind elB) k ρ2
        cases atI bs j with
        | none => rfl
        | some s => cases s <;> rfl
      | _ => rfl
  | sh d => exact gen (.sh d) (fun _ h => by cases h)
  | ow d => exact gen (.ow d) (fun _ h => by cases h)
  | pl d => exact gen (.pl d) (fun _ h => by cases h)
def slO (l h : Option Int) (d : D) : Option B := iSl d l h
theorem slO_eq {l h : Option Int} {d : D} : slO l h d = iSl d l h := rfl
def kSl3 (x : B) (l : Option Int) (k : Ct B β) : Ct (Option Int) β := fun h ρ => KO (un1 (slO l h) (x.dat ρ)) k ρ
theorem kSl3_eq {x : B} {l h : Option Int} : kSl3 x l k h ρ = KO (un1 (slO l h) (x.dat ρ)) k ρ := rfl
def kSl2 (x : B) (hi : Option (M B)) (k : Ct B β) (e : Ex β) : Ct (Option Int) β := fun l ρ => K (mEnd hi) ρ (kSl3 x l k) e
theorem kSl2_eq {x : B} {hi : Option (M B)} {l : Option Int} : kSl2 x hi k e l ρ = K (mEnd hi) ρ (kSl3 x l k) e := rfl
def kSl1 (lo hi : Option (M B)) (k : Ct B β) (e : Ex β) : Ct B β := fun x ρ => K (mEnd lo) ρ (kSl2 x hi k e) e
theorem kSl1_eq {lo hi : Option (M B)} {x : B} : kSl1 lo hi k e x ρ = K (mEnd lo) ρ (kSl2 x hi k e) e := rfl
theorem K_mSl {a : M B} {lo hi : Option (M B)} : K (mSl a lo hi) ρ k e = K a ρ (kSl1 lo hi k e) e := by
  unfold mSl
  simp only [K_bind]
  congr 1; funext x ρ1
  show K (mEnd lo) ρ1 _ e = K (mEnd lo) ρ1 _ e
  congr 1; funext l ρ2
  show K (mEnd hi) ρ2 _ e = K (mEnd hi) ρ2 _ e
  congr 1; funext h ρ3
  simp only [K_dat, kSl3]
  cases x.dat ρ3 with
  | none => rfl
  | some d => exact K_lift
def intD : D → Option (Option Int)
  | .int i => some (some i)
  | _ => none
theorem intD_int {i : Int} : intD (.int i) = some (some i) := rfl
variable {ko : Ct (Option Int) β}
theorem K_mEndN : K (mEnd none) ρ ko e = ko none ρ := rfl
def kEnd (ko : Ct (Option Int) β) : Ct B β := fun x ρ => KO (un1 intD (x.dat ρ)) ko ρ
theorem kEnd_eq {x : B} : kEnd ko x ρ = KO (un1 intD (x.dat ρ)) ko ρ := rfl
theorem K_mEndS {a : M B} : K (mEnd (some a)) ρ ko e = K a ρ (kEnd ko) e := by
  show K (bind a _) ρ ko e = _
  simp only [K_bind]
  congr 1; funext x ρ1
  simp only [K_dat, kEnd]
  cases x.dat ρ1 with
  | none => rfl
  | some d => cases d <;> rfl
theorem K_mRev {a : M B} : K (mRev a) ρ k e = K a ρ (kUn iRev k) e := K_mUn
def get3 (z : Option D) (d g : D) : Option B := z.bind fun h => iGet d g h
theorem get3_eq {z d g : D} : get3 (some z) d g = iGet d g z := rfl
def kG3 (x y : B) (k : Ct B β) : Ct B β := fun z ρ => KO (op2 (get3 (z.dat ρ)) (x.dat ρ) (y.dat ρ)) k ρ
theorem kG3_eq {x y z : B} : kG3 x y k z ρ = KO (op2 (get3 (z.dat ρ)) (x.dat ρ) (y.dat ρ)) k ρ := rfl
def kG2 (x : B) (c : M B) (k : Ct B β) (e : Ex β) : Ct B β := fun y ρ => K c ρ (kG3 x y k) e
theorem kG2_eq {x y : B} {c : M B} : kG2 x c k e y ρ = K c ρ (kG3 x y k) e := rfl
def kG1 (b c : M B) (k : Ct B β) (e : Ex β) : Ct B β := fun x ρ => K b ρ (kG2 x c k e) e
theorem kG1_eq {b c : M B} {x : B} : kG1 b c k e x ρ = K b ρ (kG2 x c k e) e := rfl
theorem K_mGet {a b c : M B} : K (mGet a b c) ρ k e = K a ρ (kG1 b c k e) e := by
  unfold mGet
  simp only [K_bind]
  congr 1; funext x ρ1
  show K b ρ1 _ e = K b ρ1 _ e
  congr 1; funext y ρ2
  show K c ρ2 _ e = K c ρ2 _ e
  congr 1; funext z ρ3
  simp only [K_dat, kG3]
  cases x.dat ρ3 with
  | none => rfl
  | some d =>
    show KO (y.dat ρ3) (fun a ρ1 => KO (z.dat ρ1) (fun b ρ1 => K (lift (iGet d a b)) ρ1 k e) ρ1) ρ3 = _
    cases y.dat ρ3 with
    | none => rfl
    | some g =>
      show KO (z.dat ρ3) (fun b ρ1 => K (lift (iGet d g b)) ρ1 k e) ρ3 = _
      cases z.dat ρ3 with
      | none => rfl
      | some h => exact K_lift
def txtB : B → Option Txt
  | .sh (.str s) => some s
  | _ => none
theorem txtB_str {s : Txt} : txtB (.sh (.str s)) = some s := rfl
def kSp3 (s : Txt) (k : Ct B β) : Ct B β := fun y ρ => KO (un1 (iSplit (.str s)) (y.dat ρ)) k ρ
theorem kSp3_eq {s : Txt} {y : B} : kSp3 s k y ρ = KO (un1 (iSplit (.str s)) (y.dat ρ)) k ρ := rfl
def kSp2 (b : M B) (k : Ct B β) (e : Ex β) : Ct Txt β := fun s ρ => K b ρ (kSp3 s k) e
theorem kSp2_eq {b : M B} {s : Txt} : kSp2 b k e s ρ = K b ρ (kSp3 s k) e := rfl
def kSp1 (b : M B) (k : Ct B β) (e : Ex β) : Ct B β := fun x ρ => KO (txtB x) (kSp2 b k e) ρ
theorem kSp1_eq {b : M B} {x : B} : kSp1 b k e x ρ = KO (txtB x) (kSp2 b k e) ρ := rfl
theorem K_mSplit {a b : M B} : K (mSplit a b) ρ k e = K a ρ (kSp1 b k e) e := by
  unfold mSplit
  simp only [K_bind]
  congr 1; funext x ρ1
  rcases x with d | o | i | bs
  · cases d with
    | str s =>
      show K (bind b _) ρ1 k e = K b ρ1 _ e
      simp only [K_bind]
      congr 1; funext y ρ2
      simp only [K_dat, kSp3]
      cases y.dat ρ2 with
      | none => rfl
      | some g => exact K_lift
    | _ => rfl
  · rfl
  · rfl
  · rfl
/-! calls -/
theorem lent_nil : lent [] = [] := rfl
theorem lent_sh1 {d : D} {r : List B} : lent (.sh d :: r) = lent r := rfl
theorem lent_ow {d : O} {r : List B} : lent (.ow d :: r) = lent r := rfl
theorem lent_tp {d : List SB} {r : List B} : lent (.tp d :: r) = lent r := rfl
theorem lent_pl {i : Nat} {r : List B} : lent (.pl i :: r) = i :: lent r := rfl
theorem nodup0 : nodupN [] = true := rfl
theorem nodup1 {a : Nat} : nodupN [a] = true := rfl
theorem nodup2 {a b : Nat} {r : List Nat} : nodupN (a :: b :: r) = (!((b :: r).elem a) && nodupN (b :: r)) := rfl
theorem handL_nil : handL ρ [] = some [] := rfl
theorem handL_cons {b : B} {r : List B} : handL ρ (b :: r) = (handB ρ b).bind fun x => (handL ρ r).map fun xs => x :: xs := by
  show (match handB ρ b, handL ρ r with | some x, some xs => some (x :: xs) | _, _ => none) = _
  cases handB ρ b <;> cases handL ρ r <;> rfl
theorem handB_sh {d : D} : handB ρ (.sh d) = some (.sh d) := rfl
theorem handB_lst {d : List D} : handB ρ (.ow (.lst d)) = some (.sh (.lst d)) := rfl
theorem handB_dic {t : Bool} {d : List (D × D)} : handB ρ (.ow (.dic t d)) = some (.sh (.dic t d)) := rfl
theorem handB_tp {bs : List SB} : handB ρ (.tp bs) = (sbsD bs).map fun ds => SB.sh (.tup ds) := rfl
def lendS : SB → SB
  | .sh d => .sh d
  | .ow o => .io o
  | .io o => .io o
theorem handB_pl {i : Nat} : handB ρ (.pl i) = (ρ.at i).map lendS := by
  show (match ρ.at i with | some (.sh d) => some (SB.sh d) | some (.ow o) => some (.io o) | some (.io o) => some (.io o) | none => none) = _
  cases ρ.at i with
  | none => rfl
  | some b => cases b <;> rfl
theorem lendS_sh {d : D} : lendS (.sh d) = .sh d := rfl
theorem lendS_ow {o : O} : lendS (.ow o) = .io o := rfl
theorem lendS_io {o : O} : lendS (.io o) = .io o := rfl
def argsO (ρ : Env) (bs : List B) : Option (List SB) := if nodupN (lent bs) = true then handL ρ bs else none
theorem argsO_eq {bs : List B} : argsO ρ bs = if nodupN (lent bs) = true then handL ρ bs else none := rfl
theorem backL_nil {os : Env} : backL ρ [] os = ρ := by cases os <;> rfl
theorem backL_cons {b : B} {r : List B} {o : Option SB} {os : Env} : backL ρ (b :: r) (o :: os) = backL (backB ρ b o) r os := rfl
theorem backB_sh {d : D} {o : Option SB} : backB ρ (.sh d) o = ρ := rfl
theorem backB_ow {d : O} {o : Option SB} : backB ρ (.ow d) o = ρ := rfl
theorem backB_tp {d : List SB} {o : Option SB} : backB ρ (.tp d) o = ρ := rfl
def putE (ρ : Env) (i : Nat) (o : O) : Env := match ρ.at i with | some c => ρ.set i (some (c.put o)) | none => ρ
theorem backB_plN {i : Nat} : backB ρ (.pl i) none = ρ := by
  show (match ρ.at i, (none : Option SB) with | some c, some (.io o) => ρ.set i (some (c.put o)) | _, _ => ρ) = ρ
  cases ρ.at i <;> rfl
theorem backB_plS {i : Nat} {o : O} : backB ρ (.pl i) (some (.io o)) = putE ρ i o := by
  show (match ρ.at i, some (SB.io o) with | some c, some (.io o) => ρ.set i (some (c.put o)) | _, _ => ρ) = _
  unfold putE
  cases ρ.at i <;> rfl
theorem putE_zero {c : SB} {r : Env} {o : O} : putE (some c :: r) 0 o = some (c.put o) :: r := rfl
theorem putE_succ {x : Option SB} {r : Env} {i : Nat} {o : O} : putE (x :: r) (i + 1) o = x :: putE r i o := by
  unfold putE
  rw [at_succ]
  cases Env.at r i <;> rfl
theorem put_ow {o o' : O} : (SB.ow o).put o' = .ow o' := rfl
theorem put_io {o o' : O} : (SB.io o).put o' = .io o' := rfl
theorem sput_sh {d : D} {o' : O} : (SB.sh d).put o' = .sh d := rfl
/-- what a call gave -/
def KF (o : Option (Res B × Env)) (bs : List B) (ρ : Env) (k : Ct B β) (e : Ex β) : Option β :=
  match o with
  | none => none
  | some (.ok a, os) => k a (backL ρ bs os)
  | some (.exc c p, os) => e c p (backL ρ bs os)
theorem KF_ok {a : B} {os : Env} {bs : List B} : KF (some (.ok a, os)) bs ρ k e = k a (backL ρ bs os) := rfl
theorem KF_exc {c p} {os : Env} {bs : List B} : KF (some (.exc c p, os)) bs ρ k e = e c p (backL ρ bs os) := rfl
theorem KF_none {bs : List B} : KF none bs ρ k e = none := rfl
theorem KF_ite {c : Prop} [Decidable c] {a b : Option (Res B × Env)} {bs : List B} : KF (if c then a else b) bs ρ k e = if c then KF a bs ρ k e else KF b bs ρ k e := by split <;> rfl
theorem KF_r {c : Prop} [Decidable c] {a b : Res B} {os : Env} {bs : List B} : KF (some (if c then a else b, os)) bs ρ k e = if c then KF (some (a, os)) bs ρ k e else KF (some (b, os)) bs ρ k e := by split <;> rfl
def kArg (f : Fn) (bs : List B) (k : Ct B β) (e : Ex β) : Ct (List SB) β := fun sbs ρ => KF (f sbs) bs ρ k e
theorem kArg_eq {f : Fn} {bs : List B} {sbs : List SB} : kArg f bs k e sbs ρ = KF (f sbs) bs ρ k e := rfl
def kCall (f : Fn) (k : Ct B β) (e : Ex β) : Ct (List B) β := fun bs ρ => KO (argsO ρ bs) (kArg f bs k e) ρ
theorem kCall_eq {f : Fn} {bs : List B} : kCall f k e bs ρ = KO (argsO ρ bs) (kArg f bs k e) ρ := rfl
theorem K_callF {f : Fn} {bs : List B} : K (callF f bs) ρ k e = KO (argsO ρ bs) (kArg f bs k e) ρ := by
  unfold K callF argsO
  by_cases h : nodupN (lent bs) = true
  · rw [if_pos h, if_pos h]
    cases handL ρ bs with
    | none => rfl
    | some sbs =>
      dsimp only [KO, kArg]
      cases f sbs with
      | none => rfl
      | some q => obtain ⟨r, os⟩ := q; cases r <;> rfl
  · rw [if_neg h, if_neg h]; rfl
theorem K_mCall {f : Fn} {as : M (List B)} : K (mCall f as) ρ k e = K as ρ (kCall f k e) e := by
  unfold mCall
  simp only [K_bind, K_callF]
  rfl
def ioS : Option SB → Option SB
  | some (.io o) => some (.io o)
  | _ => none
theorem ioS_io {o : O} : ioS (some (.io o)) = some (.io o) := rfl
theorem ioS_sh {o : D} : ioS (some (.sh o)) = none := rfl
theorem ioS_ow {o : O} : ioS (some (.ow o)) = none := rfl
theorem ioS_no : ioS none = none := rfl
theorem outs0 : outs 0 ρ = [] := rfl
theorem outs1 : outs 1 ρ = [ioS (ρ.at 0)] := rfl
theorem outs2 : outs 2 ρ = [ioS (ρ.at 0), ioS (ρ.at 1)] := rfl
theorem outs3 : outs 3 ρ = [ioS (ρ.at 0), ioS (ρ.at 1), ioS (ρ.at 2)] := rfl
theorem outs4 : outs 4 ρ = [ioS (ρ.at 0), ioS (ρ.at 1), ioS (ρ.at 2), ioS (ρ.at 3)] := rfl
theorem outs5 : outs 5 ρ = [ioS (ρ.at 0), ioS (ρ.at 1), ioS (ρ.at 2), ioS (ρ.at 3), ioS (ρ.at 4)] := rfl
def kFn (np : Nat) : Ct Fl (Res B × Env) := fun f ρ => match f with
  | .rt b => some (.ok b, outs np ρ)
  | .nx => some (.ok (.sh .non), outs np ρ)
  | _ => none
def eFn (np : Nat) : Ex (Res B × Env) := fun c p ρ => some (.exc c p, outs np ρ)
theorem kFn_rt {np : Nat} {b : B} : kFn np (.rt b) ρ = some (.ok b, outs np ρ) := rfl
theorem kFn_nx {np : Nat} : kFn np .nx ρ = some (.ok (.sh .non), outs np ρ) := rfl
theorem eFn_eq {np c : Nat} {p : Option (Txt × D)} : eFn np c p ρ = some (.exc c p, outs np ρ) := rfl
theorem mkFn_eq {np n : Nat} {body : S} {args : List SB} : mkFn np n body args = if args.length = np then K body (args.map some ++ List.replicate (n - np) none) (kFn np) (eFn np) else none := by
  unfold mkFn K
  by_cases h : args.length = np
  · rw [if_pos h, if_pos h]
    cases body (args.map some ++ List.replicate (n - np) none) with
    | none => rfl
    | some q => obtain ⟨r, ρ1⟩ := q; cases r with
      | exc => rfl
      | ok f => cases f <;> rfl
  · rw [if_neg h, if_neg h]
theorem rep0 : List.replicate 0 (none : Option SB) = [] := rfl
theorem repS {n : Nat} : List.replicate (n + 1) (none : Option SB) = none :: List.replicate n none := rfl
/-! walks -/
def itO (ρ : Env) (x : B) : Option (List D) := (keptO ρ [x]).bind fun ds => ds.head?.bind dItems
theorem itO_eq {x : B} : itO ρ x = (keptO ρ [x]).bind fun ds => ds.head?.bind dItems := rfl
def kIt (kd : Ct (List D) β) : Ct B β := fun x ρ => KO (itO ρ x) kd ρ
theorem kIt_eq {x : B} : kIt kd x ρ = KO (itO ρ x) kd ρ := rfl
theorem K_items {a : M B} : K (items a) ρ kd e = K a ρ (kIt kd) e := by
  unfold items
  simp only [K_bind, K_kept]
  congr 1; funext x ρ1
  unfold kIt itO keptO
  cases hx : ([x] : List B).all noPl with
  | false => rfl
  | true =>
    simp only [if_true]
    rw [datsL_cons, datsL_nil]
    cases x.dat ρ1 with
    | none => rfl
    | some d => exact K_lift
theorem dItems_tup {xs : List D} : dItems (.tup xs) = some xs := rfl
theorem dItems_lst {xs : List D} : dItems (.lst xs) = some xs := rfl
def rngD : D → Option (List D)
  | .int n => if n < 2 ^ 62 ∧ -(2 ^ 62) ≤ n then some (upto n.toNat) else none
  | _ => none
theorem rngD_int {n : Int} : rngD (.int n) = if n < 2 ^ 62 ∧ -(2 ^ 62) ≤ n then some (upto n.toNat) else none := rfl
def kRg (kd : Ct (List D) β) : Ct B β := fun x ρ => KO (un1 rngD (x.dat ρ)) kd ρ
theorem kRg_eq {x : B} : kRg kd x ρ = KO (un1 rngD (x.dat ρ)) kd ρ := rfl
theorem K_itRange {a : M B} : K (itRange a) ρ kd e = K a ρ (kRg kd) e := by
  unfold itRange
  simp only [K_bind]
  congr 1; funext x ρ1
  simp only [K_dat, kRg]
  cases x.dat ρ1 with
  | none => rfl
  | some d =>
    cases d with
    | int n => show K (if _ then ret (upto n.toNat) else stuck) ρ1 kd e = KO (if _ then _ else _) kd ρ1; by_cases h : n < 2 ^ 62 <;> by_cases g : -(2 ^ 62) ≤ n <;> simp only [h, g, decide_true, decide_false, Bool.and_true, Bool.and_false, Bool.true_and, Bool.false_and, and_true, and_false, if_true, if_false, Bool.false_eq_true] <;> rfl
    | _ => rfl
def zipO (ds : List D) : Option (List D) := match ds with | [d, g] => iZip2 d g | _ => none
theorem zipO_eq {d g : D} : zipO [d, g] = iZip2 d g := rfl
def kZ2 (x : B) (kd : Ct (List D) β) : Ct B β := fun y ρ => KO ((keptO ρ [x, y]).bind zipO) kd ρ
theorem kZ2_eq {x y : B} : kZ2 x kd y ρ = KO ((keptO ρ [x, y]).bind zipO) kd ρ := rfl
def kZ1 (b : M B) (kd : Ct (List D) β) (e : Ex β) : Ct B β := fun x ρ => K b ρ (kZ2 x kd) e
theorem kZ1_eq {b : M B} {x : B} : kZ1 b kd e x ρ = K b ρ (kZ2 x kd) e := rfl
theorem K_itZip {a b : M B} : K (itZip a b) ρ kd e = K a ρ (kZ1 b kd e) e := by
  unfold itZip
  simp only [K_bind]
  congr 1; funext x ρ1
  show K b ρ1 _ e = K b ρ1 _ e
  congr 1; funext y ρ2
  rw [K_kept]
  unfold kZ2
  cases keptO ρ2 [x, y] with
  | none => rfl
  | some ds =>
    show K _ ρ2 kd e = KO (zipO ds) kd ρ2
    match ds with
    | [] => rfl
    | [_] => rfl
    | [d, g] => exact K_lift
    | _ :: _ :: _ :: _ => rfl
def enO (ρ : Env) (x : B) : Option (List D) := (keptO ρ [x]).bind fun ds => ds.head?.bind enumD
theorem enO_eq {x : B} : enO ρ x = (keptO ρ [x]).bind fun ds => ds.head?.bind enumD := rfl
def kEn (kd : Ct (List D) β) : Ct B β := fun x ρ => KO (enO ρ x) kd ρ
theorem kEn_eq {x : B} : kEn kd x ρ = KO (enO ρ x) kd ρ := rfl
theorem K_itEnum {a : M B} : K (itEnum a) ρ kd e = K a ρ (kEn kd) e := by
  unfold itEnum
  simp only [K_bind, K_kept]
  congr 1; funext x ρ1
  unfold kEn enO keptO
  cases hx : ([x] : List B).all noPl with
  | false => rfl
  | true =>
    simp only [if_true]
    rw [datsL_cons, datsL_nil]
    cases x.dat ρ1 with
    | none => rfl
    | some d => exact K_lift
theorem zip2_tup {xs ys : List D} : iZip2 (.tup xs) (.tup ys) = some (zipD xs ys) := rfl
theorem zip2_lst {xs ys : List D} : iZip2 (.lst xs) (.lst ys) = some (zipD xs ys) := rfl
theorem zipD_cons {x y : D} {xs ys : List D} : zipD (x :: xs) (y :: ys) = .tup [x, y] :: zipD xs ys := rfl
theorem zipD_nil {ys : List D} : zipD [] ys = [] := rfl
theorem zipD_nil2 {xs : List D} : zipD xs [] = [] := by cases xs <;> rfl
theorem enumD_tup {xs : List D} : enumD (.tup xs) = some (zipD (upto xs.length) xs) := rfl
theorem enumD_lst {xs : List D} : enumD (.lst xs) = some (zipD (upto xs.length) xs) := rfl
theorem putS_succ {x : Option SB} {r : Env} {n : Nat} {b : SB} : putS (x :: r) (n + 1) b = (putS r n b).map fun s => x :: s := by
  unfold putS
  rw [at_succ]
  by_cases h : n < r.length
  · rw [if_pos h, if_pos (by simpa using h)]
    cases Env.at r n with
    | none => rfl
    | some c => cases c <;> rfl
  · rw [if_neg h, if_neg (by simpa using h)]
    rfl
theorem putS_no {r : Env} {b : SB} : putS (none :: r) 0 b = some (some b :: r) := by
  unfold putS
  rw [if_pos (by simp)]
  rfl
theorem putS_sh {r : Env} {b : SB} {d : D} : putS (some (.sh d) :: r) 0 b = some (some b :: r) := by
  unfold putS
  rw [if_pos (by simp)]
  rfl
theorem putS_ow {r : Env} {b : SB} {d : O} : putS (some (.ow d) :: r) 0 b = some (some b :: r) := by
  unfold putS
  rw [if_pos (by simp)]
  rfl
theorem putTg_one {i : Nat} {d : D} : putTg ρ (.one i) d = putS ρ i (.sh d) := rfl
theorem putTg_tup {is : List Nat} {ds : List D} : putTg ρ (.tup is) (.tup ds) = if is.length = ds.length then putSs ρ is ds else none := rfl
theorem putSs_nil : putSs ρ [] [] = some ρ := rfl
theorem putSs_cons {i : Nat} {is : List Nat} {d : D} {ds : List D} : putSs ρ (i :: is) (d :: ds) = (putS ρ i (.sh d)).bind fun ρ1 => putSs ρ1 is ds := by
  show (match putS ρ i (.sh d) with | some ρ1 => putSs ρ1 is ds | none => none) = _
  cases putS ρ i (.sh d) <;> rfl
theorem slots_one {i : Nat} : (Tg.one i).slots = [i] := rfl
theorem slots_tup {is : List Nat} : (Tg.tup is).slots = is := rfl
theorem clr_nil : clr ρ [] = ρ := rfl
theorem clr_cons {i : Nat} {is : List Nat} : clr ρ (i :: is) = (clr ρ is).set i none := rfl
theorem back_nil {ρ1 : Env} : back ρ ρ1 [] = ρ1 := rfl
theorem back_cons {ρ1 : Env} {i : Nat} {is : List Nat} : back ρ ρ1 (i :: is) = (back ρ ρ1 is).set i (ρ.at i) := rfl
def fr1 (ρ : Env) (i : Nat) : Bool := match ρ.at i with | none => decide (i < ρ.length) | some (.sh _) => true | some _ => false
theorem free_nil : free ρ [] = true := rfl
theorem free_cons {i : Nat} {is : List Nat} : free ρ (i :: is) = (fr1 ρ i && free ρ is) := rfl
theorem fr1_succ {x : Option SB} {r : Env} {n : Nat} : fr1 (x :: r) (n + 1) = fr1 r n := by
  unfold fr1
  rw [at_succ]
  cases Env.at r n with
  | none => simp
  | some c => cases c <;> rfl
theorem fr1_no {r : Env} : fr1 (none :: r) 0 = true := by simp [fr1, Env.at]
theorem fr1_sh {r : Env} {d : D} : fr1 (some (.sh d) :: r) 0 = true := rfl
def kCoE (t : Tg) (ρ0 : Env) (k : Ct B β) : Ct (List D) β := fun vs ρ => if vs.length ≤ LIM then k (.ow (.lst vs)) (back ρ0 ρ t.slots) else none
theorem kCoE_eq {t : Tg} {ρ0 : Env} {vs : List D} : kCoE t ρ0 k vs ρ = if vs.length ≤ LIM then k (.ow (.lst vs)) (back ρ0 ρ t.slots) else none := rfl
def kCo (t : Tg) (c : M Bool) (el : M B) (k : Ct B β) : Ct (List D) β := fun ds ρ => if free ρ t.slots = true then K (compGo t c el ds []) ρ (kCoE t ρ k) noX else none
theorem kCo_eq {t : Tg} {c : M Bool} {el : M B} {ds : List D} : kCo t c el k ds ρ = if free ρ t.slots = true then K (compGo t c el ds []) ρ (kCoE t ρ k) noX else none := rfl
theorem K_mComp {t : Tg} {it : M (List D)} {c : M Bool} {el : M B} : K (mComp t it c el) ρ k e = K it ρ (kCo t c el k) e := by
  unfold mComp
  simp only [K_bind]
  congr 1; funext ds ρ1
  unfold kCo K
  dsimp only
  by_cases h : free ρ1 t.slots = true
  · rw [if_pos h, if_pos h]
    unfold noExc
    cases compGo t c el ds [] ρ1 with
    | none => rfl
    | some q =>
      obtain ⟨r, ρ2⟩ := q
      cases r with
      | exc => rfl
      | ok vs => show _ = kCoE t ρ1 k vs ρ2; unfold kCoE; by_cases g : vs.length ≤ LIM <;> simp [g]
  · rw [if_neg h, if_neg h]
theorem K_comp0 {t : Tg} {c : M Bool} {el : M B} {acc : List D} {e : Ex β} : K (compGo t c el [] acc) ρ kd e = kd acc ρ := rfl
def kCo3 (t : Tg) (c : M Bool) (el : M B) (ds acc : List D) (kd : Ct (List D) β) (e : Ex β) : Ct (List D) β := fun v ρ => K (compGo t c el ds (acc ++ v)) ρ kd e
theorem kCo3_eq {t : Tg} {c : M Bool} {el : M B} {ds acc v : List D} : kCo3 t c el ds acc kd e v ρ = K (compGo t c el ds (acc ++ v)) ρ kd e := rfl
def kCo2 (t : Tg) (c : M Bool) (el : M B) (ds acc : List D) (kd : Ct (List D) β) (e : Ex β) : Ct B β := fun x ρ => KO (keptO ρ [x]) (kCo3 t c el ds acc kd e) ρ
theorem kCo2_eq {t : Tg} {c : M Bool} {el : M B} {ds acc : List D} {x : B} : kCo2 t c el ds acc kd e x ρ = KO (keptO ρ [x]) (kCo3 t c el ds acc kd e) ρ := rfl
def kCo1 (t : Tg) (c : M Bool) (el : M B) (ds acc : List D) (kd : Ct (List D) β) (e : Ex β) : Ct Bool β := fun b ρ => if b = true then K el ρ (kCo2 t c el ds acc kd e) e else K (compGo t c el ds acc) ρ kd e
theorem kCo1_eq {t : Tg} {c : M Bool} {el : M B} {ds acc : List D} {b : Bool} : kCo1 t c el ds acc kd e b ρ = if b = true then K el ρ (kCo2 t c el ds acc kd e) e else K (compGo t c el ds acc) ρ kd e := rfl
def kCo0 (t : Tg) (c : M Bool) (el : M B) (ds acc : List D) (kd : Ct (List D) β) (e : Ex β) : Env → Option β := fun ρ => K c ρ (kCo1 t c el ds acc kd e) e
theorem kCo0_eq {t : Tg} {c : M Bool} {el : M B} {ds acc : List D} : kCo0 t c el ds acc kd e ρ = K c ρ (kCo1 t c el ds acc kd e) e := rfl
theorem K_comp1 {t : Tg} {c : M Bool} {el : M B} {d : D} {ds acc : List D} : K (compGo t c el (d :: ds) acc) ρ kd e = KE (putTg (clr ρ t.slots) t d) (kCo0 t c el ds acc kd e) := by
  cases h : putTg (clr ρ t.slots) t d with
  | none =>
    have u : compGo t c el (d :: ds) acc ρ = none := by
      show (match putTg (clr ρ t.slots) t d with | none => none | some ρ1 => bind c _ ρ1) = _
      rw [h]
    unfold K
    rw [u]
    rfl
  | some ρ1 =>
    have u : compGo t c el (d :: ds) acc ρ = bind c (fun k => if k then bind el fun x => bind (kept [x]) fun v => compGo t c el ds (acc ++ v) else compGo t c el ds acc) ρ1 := by
      show (match putTg (clr ρ t.slots) t d with | none => none | some ρ1 => bind c _ ρ1) = _
      rw [h]
    have v : K (compGo t c el (d :: ds) acc) ρ kd e = K (bind c (fun k => if k then bind el fun x => bind (kept [x]) fun v => compGo t c el ds (acc ++ v) else compGo t c el ds acc)) ρ1 kd e := by
      unfold K
      rw [u]
    rw [v]
    simp only [K_bind, K_if, K_kept]
    rfl
/-! statements -/
theorem K_sPass : K sPass ρ kf e = kf .nx ρ := rfl
theorem K_sBreak : K sBreak ρ kf e = kf .bk ρ := rfl
theorem K_sCont : K sCont ρ kf e = kf .ct ρ := rfl
def kSeq (b : S) (kf : Ct Fl β) (e : Ex β) : Ct Fl β := fun f ρ => match f with
  | .nx => K b ρ kf e
  | f => kf f ρ
theorem kSeq_nx {b : S} : kSeq b kf e .nx ρ = K b ρ kf e := rfl
theorem kSeq_rt {b : S} {x : B} : kSeq b kf e (.rt x) ρ = kf (.rt x) ρ := rfl
theorem kSeq_bk {b : S} : kSeq b kf e .bk ρ = kf .bk ρ := rfl
theorem kSeq_ct {b : S} : kSeq b kf e .ct ρ = kf .ct ρ := rfl
theorem K_sSeq {a b : S} : K (sSeq a b) ρ kf e = K a ρ (kSeq b kf e) e := by
  unfold sSeq
  simp only [K_bind]
  congr 1; funext f ρ1
  cases f <;> rfl
def kDrop (kf : Ct Fl β) : Ct B β := fun _ ρ => kf .nx ρ
theorem kDrop_eq {x : B} : kDrop kf x ρ = kf .nx ρ := rfl
theorem K_sDrop {a : M B} : K (sDrop a) ρ kf e = K a ρ (kDrop kf) e := by
  unfold sDrop
  simp only [K_bind, K_ret]
  rfl
theorem K_sIf {t : M Bool} {a b : S} : K (sIf t a b) ρ kf e = K t ρ (kIf a b kf e) e := by
  unfold sIf
  simp only [K_bind, K_if]
  rfl
def kNx (kf : Ct Fl β) : Env → Option β := fun ρ => kf .nx ρ
theorem kNx_eq : kNx kf ρ = kf .nx ρ := rfl
def ownO : B → Option SB
  | .sh d => some (.sh d)
  | .ow o => some (.ow o)
  | .pl _ => none
  | .tp bs => (sbsD bs).map fun ds => SB.sh (.tup ds)
theorem ownO_sh {d : D} : ownO (.sh d) = some (.sh d) := rfl
theorem ownO_ow {d : O} : ownO (.ow d) = some (.ow d) := rfl
theorem ownO_tp {bs : List SB} : ownO (.tp bs) = (sbsD bs).map fun ds => SB.sh (.tup ds) := rfl
theorem K_ownB {b : B} {kk : Ct SB β} : K (ownB b) ρ kk e = KO (ownO b) kk ρ := by
  cases b with
  | tp bs => exact K_lift
  | _ => rfl
theorem K_bindS {i : Nat} {b : SB} : K (bindS i b) ρ kf e = KE (putS ρ i b) (kNx kf) := by
  unfold K bindS
  cases putS ρ i b <;> rfl
def setO (ρ : Env) (i : Nat) (x : B) : Option Env := (ownO x).bind fun b => putS ρ i b
theorem setO_eq {i : Nat} {x : B} : setO ρ i x = (ownO x).bind fun b => putS ρ i b := rfl
def kSet (i : Nat) (kf : Ct Fl β) : Ct B β := fun x ρ => KE (setO ρ i x) (kNx kf)
theorem kSet_eq {i : Nat} {x : B} : kSet i kf x ρ = KE (setO ρ i x) (kNx kf) := rfl
theorem K_sSet {i : Nat} {a : M B} : K (sSet i a) ρ kf e = K a ρ (kSet i kf) e := by
  unfold sSet
  simp only [K_bind, K_ownB, K_bindS]
  congr 1; funext x ρ1
  unfold kSet setO
  cases ownO x <;> rfl
def ownOs : List B → Option (List SB)
  | [] => some []
  | b :: r => (ownO b).bind fun x => (ownOs r).map fun xs => x :: xs
theorem ownOs_nil : ownOs [] = some [] := rfl
theorem ownOs_cons {b : B} {r : List B} : ownOs (b :: r) = (ownO b).bind fun x => (ownOs r).map fun xs => x :: xs := rfl
theorem K_ownBs : ∀ {bs : List B} {kk : Ct (List SB) β}, K (ownBs bs) ρ kk e = KO (ownOs bs) kk ρ
  | [], kk => rfl
  | b :: r, kk => by
    show K (bind (ownB b) fun x => bind (ownBs r) fun xs => ret (x :: xs)) ρ kk e = _
    simp only [K_bind, K_ownB, K_ret, ownOs_cons]
    cases ownO b with
    | none => rfl
    | some x => dsimp only [KO, Option.bind_some]; rw [K_ownBs (bs := r)]; cases ownOs r <;> rfl
def putA (ρ : Env) : List Nat → List SB → Option Env
  | [], [] => some ρ
  | i :: is, b :: bs => (putS ρ i b).bind fun ρ1 => putA ρ1 is bs
  | _, _ => none
theorem putA_nil : putA ρ [] [] = some ρ := rfl
theorem putA_cons {i : Nat} {is : List Nat} {b : SB} {bs : List SB} : putA ρ (i :: is) (b :: bs) = (putS ρ i b).bind fun ρ1 => putA ρ1 is bs := rfl
theorem K_bindSs : ∀ {is : List Nat} {bs : List SB} {ρ : Env}, K (bindSs is bs) ρ kf e = KE (putA ρ is bs) (kNx kf)
  | [], [], ρ => rfl
  | [], _ :: _, ρ => rfl
  | _ :: _, [], ρ => rfl
  | i :: is, b :: bs, ρ => by
    show K (sSeq (bindS i b) (bindSs is bs)) ρ kf e = _
    rw [K_sSeq, K_bindS, putA_cons]
    cases putS ρ i b with
    | none => rfl
    | some ρ1 => exact K_bindSs (is := is)
def parO (ρ : Env) (is : List Nat) (xs : List B) : Option Env := (ownOs xs).bind fun bs => putA ρ is bs
theorem parO_eq {is : List Nat} {xs : List B} : parO ρ is xs = (ownOs xs).bind fun bs => putA ρ is bs := rfl
def kPar (is : List Nat) (kf : Ct Fl β) : Ct (List B) β := fun xs ρ => KE (parO ρ is xs) (kNx kf)
theorem kPar_eq {is : List Nat} {xs : List B} : kPar is kf xs ρ = KE (parO ρ is xs) (kNx kf) := rfl
theorem K_sPar {is : List Nat} {es : M (List B)} : K (sPar is es) ρ kf e = K es ρ (kPar is kf) e := by
  unfold sPar
  simp only [K_bind, K_ownBs, K_bindSs]
  congr 1; funext xs ρ1
  unfold kPar parO
  cases ownOs xs <;> rfl
def tupB : B → Option (List SB)
  | .tp bs => some bs
  | .sh (.tup vs) => some (vs.map SB.sh)
  | _ => none
theorem tupB_tp {bs : List SB} : tupB (.tp bs) = some bs := rfl
theorem tupB_sh {vs : List D} : tupB (.sh (.tup vs)) = some (vs.map SB.sh) := rfl
def unpO (ρ : Env) (is : List Nat) (x : B) : Option Env := (tupB x).bind fun bs => putA ρ is bs
theorem unpO_eq {is : List Nat} {x : B} : unpO ρ is x = (tupB x).bind fun bs => putA ρ is bs := rfl
def kUnp (is : List Nat) (kf : Ct Fl β) : Ct B β := fun x ρ => KE (unpO ρ is x) (kNx kf)
theorem kUnp_eq {is : List Nat} {x : B} : kUnp is kf x ρ = KE (unpO ρ is x) (kNx kf) := rfl
theorem K_sUnp {is : List Nat} {a : M B} : K (sUnp is a) ρ kf e = K a ρ (kUnp is kf) e := by
  unfold sUnp
  simp only [K_bind]
  congr 1; funext x ρ1
  rcases x with d | o | i | bs
  · cases d with
    | tup vs => exact K_bindSs
    | _ => rfl
  · cases o <;> rfl
  · rfl
  · exact K_bindSs
def putOE (ρ : Env) (i : Nat) (f : O → Option O) : Option Env := (ρ.at i).bind fun c => c.obj.bind fun o => (f o).map fun o1 => ρ.set i (some (c.put o1))
theorem putOE_zero {c : SB} {r : Env} {f : O → Option O} : putOE (some c :: r) 0 f = c.obj.bind fun o => (f o).map fun o1 => some (c.put o1) :: r := rfl
theorem putOE_succ {x : Option SB} {r : Env} {i : Nat} {f : O → Option O} : putOE (x :: r) (i + 1) f = (putOE r i f).map fun s => x :: s := by
  unfold putOE
  rw [at_succ]
  cases Env.at r i with
  | none => rfl
  | some c =>
    show (c.obj.bind fun o => (f o).map fun o1 => (x :: r).set (i + 1) (some (c.put o1))) = (c.obj.bind fun o => (f o).map fun o1 => r.set i (some (c.put o1))).map _
    cases c.obj with
    | none => rfl
    | some o =>
      show ((f o).map fun o1 => (x :: r).set (i + 1) (some (c.put o1))) = ((f o).map fun o1 => r.set i (some (c.put o1))).map _
      cases f o <;> rfl
theorem obj_ow {o : O} : (SB.ow o).obj = some o := rfl
theorem obj_io {o : O} : (SB.io o).obj = some o := rfl
theorem K_putO {i : Nat} {f : O → Option O} {kk : Ct Unit β} : K (putO i f) ρ kk e = KE (putOE ρ i f) (kk ()) := by
  unfold K putO putOE
  cases ρ.at i with
  | none => rfl
  | some c =>
    dsimp only [Option.bind_some]
    cases c.obj with
    | none => rfl
    | some o =>
      dsimp only [Option.bind_some]
      cases f o <;> rfl
def hasO (ρ : Env) (i : Nat) : Option O := (ρ.at i).bind SB.obj
theorem hasO_zero {c : SB} {r : Env} : hasO (some c :: r) 0 = c.obj := rfl
theorem hasO_succ {c : Option SB} {r : Env} {i : Nat} : hasO (c :: r) (i + 1) = hasO r i := rfl
theorem K_mHas {i : Nat} {kk : Ct O β} : K (mHas i) ρ kk e = KO (hasO ρ i) kk ρ := by
  unfold K mHas hasO
  cases ρ.at i with
  | none => rfl
  | some c =>
    dsimp only [Option.bind_some]
    cases c.obj <;> rfl
def xsO (ρ : Env) (i : Nat) (ds : List D) : Option Env := match ds with | [d, q] => putOE ρ i (fun o => setAt o q d) | _ => none
theorem xsO_eq {i : Nat} {d q : D} : xsO ρ i [d, q] = putOE ρ i (fun o => setAt o q d) := rfl
def kXS3 (i : Nat) (v : B) (kf : Ct Fl β) : Ct B β := fun x ρ => KE ((keptO ρ [v, x]).bind (xsO ρ i)) (kNx kf)
theorem kXS3_eq {i : Nat} {v x : B} : kXS3 i v kf x ρ = KE ((keptO ρ [v, x]).bind (xsO ρ i)) (kNx kf) := rfl
def kXS2 (i : Nat) (v : B) (kx : M B) (kf : Ct Fl β) (e : Ex β) : Ct O β := fun _ ρ => K kx ρ (kXS3 i v kf) e
theorem kXS2_eq {i : Nat} {v : B} {kx : M B} {o : O} : kXS2 i v kx kf e o ρ = K kx ρ (kXS3 i v kf) e := rfl
def kXS1 (i : Nat) (kx : M B) (kf : Ct Fl β) (e : Ex β) : Ct B β := fun v ρ => KO (hasO ρ i) (kXS2 i v kx kf e) ρ
theorem kXS1_eq {i : Nat} {kx : M B} {v : B} : kXS1 i kx kf e v ρ = KO (hasO ρ i) (kXS2 i v kx kf e) ρ := rfl
theorem K_sIxSet {i : Nat} {kx ex : M B} : K (sIxSet i kx ex) ρ kf e = K ex ρ (kXS1 i kx kf e) e := by
  unfold sIxSet
  simp only [K_bind, K_mHas]
  congr 1; funext v ρ1
  unfold kXS1
  congr 1; funext o ρ2
  show K kx ρ2 _ e = K kx ρ2 _ e
  congr 1; funext x ρ3
  rw [K_kept]
  unfold kXS3
  cases keptO ρ3 [v, x] with
  | none => rfl
  | some ds =>
    show K _ ρ3 kf e = KE (xsO ρ3 i ds) _
    match ds with
    | [] => rfl
    | [_] => rfl
    | [d, q] =>
      show K (bind (putO i fun o => setAt o q d) fun _ => ret .nx) ρ3 kf e = _
      rw [K_bind, K_putO]
      rfl
    | _ :: _ :: _ :: _ => rfl
def apO (ρ : Env) (i : Nat) (ds : List D) : Option Env := match ds with | [d] => putOE ρ i (addAt d) | _ => none
theorem apO_eq {i : Nat} {d : D} : apO ρ i [d] = putOE ρ i (addAt d) := rfl
def kNon (k : Ct B β) : Env → Option β := fun ρ => k (.sh .non) ρ
theorem kNon_eq : kNon k ρ = k (.sh .non) ρ := rfl
def kAp2 (i : Nat) (k : Ct B β) : Ct B β := fun v ρ => KE ((keptO ρ [v]).bind (apO ρ i)) (kNon k)
theorem kAp2_eq {i : Nat} {v : B} : kAp2 i k v ρ = KE ((keptO ρ [v]).bind (apO ρ i)) (kNon k) := rfl
def kAp1 (i : Nat) (a : M B) (k : Ct B β) (e : Ex β) : Ct O β := fun o ρ => if isLstO o = true then K a ρ (kAp2 i k) e else none
theorem kAp1_eq {i : Nat} {a : M B} {xs : List D} : kAp1 i a k e (.lst xs) ρ = K a ρ (kAp2 i k) e := rfl
theorem K_mApp {i : Nat} {a : M B} : K (mApp i a) ρ k e = KO (hasO ρ i) (kAp1 i a k e) ρ := by
  unfold mApp
  simp only [K_bind, K_mHas]
  congr 1; funext o ρ1
  unfold kAp1
  cases isLstO o with
  | false => rfl
  | true =>
    simp only [if_true, K_bind, K_kept]
    congr 1; funext v ρ2
    unfold kAp2
    cases keptO ρ2 [v] with
    | none => rfl
    | some ds =>
      show K _ ρ2 k e = KE (apO ρ2 i ds) _
      match ds with
      | [] => rfl
      | [d] =>
        show K (bind (putO i (addAt d)) fun _ => ret (.sh .non)) ρ2 k e = _
        rw [K_bind, K_putO]
        rfl
      | _ :: _ :: _ => rfl
theorem addAt_lst {xs : List D} {d : D} : addAt d (.lst xs) = if xs.length < LIM then some (.lst (xs ++ [d])) else none := rfl
theorem setAt_lst {xs : List D} {j : Int} {d : D} : setAt (.lst xs) (.int j) d = if decide (0 ≤ j) && decide (j.toNat < xs.length) then some (.lst (xs.set j.toNat d)) else none := rfl
theorem setAt_dicS {kvs : List (D × D)} {q d : D} : setAt (.dic false kvs) q d = if kvs.length < LIM then (if keyOf false q then some (.dic false (putD kvs q d)) else none) else none := rfl
def kFor (t : Tg) (body : S) (kf : Ct Fl β) (e : Ex β) : Ct (List D) β := fun ds ρ => K (forGo t body ds) ρ kf e
theorem kFor_eq {t : Tg} {body : S} {ds : List D} : kFor t body kf e ds ρ = K (forGo t body ds) ρ kf e := rfl
theorem K_sFor {t : Tg} {it : M (List D)} {body : S} : K (sFor t it body) ρ kf e = K it ρ (kFor t body kf e) e := by
  unfold sFor
  simp only [K_bind]
  rfl
def kFor2 (t : Tg) (body : S) (ds : List D) (kf : Ct Fl β) (e : Ex β) : Ct Fl β := fun f ρ => match f with
  | .nx => K (forGo t body ds) ρ kf e
  | .ct => K (forGo t body ds) ρ kf e
  | .bk => kf .nx ρ
  | .rt b => kf (.rt b) ρ
theorem kFor2_nx {t : Tg} {body : S} {ds : List D} : kFor2 t body ds kf e .nx ρ = K (forGo t body ds) ρ kf e := rfl
theorem kFor2_ct {t : Tg} {body : S} {ds : List D} : kFor2 t body ds kf e .ct ρ = K (forGo t body ds) ρ kf e := rfl
theorem kFor2_bk {t : Tg} {body : S} {ds : List D} : kFor2 t body ds kf e .bk ρ = kf .nx ρ := rfl
theorem kFor2_rt {t : Tg} {body : S} {ds : List D} {b : B} : kFor2 t body ds kf e (.rt b) ρ = kf (.rt b) ρ := rfl
def kFor1 (t : Tg) (body : S) (ds : List D) (kf : Ct Fl β) (e : Ex β) : Env → Option β := fun ρ => K body ρ (kFor2 t body ds kf e) e
theorem kFor1_eq {t : Tg} {body : S} {ds : List D} : kFor1 t body ds kf e ρ = K body ρ (kFor2 t body ds kf e) e := rfl
theorem K_for0 {t : Tg} {body : S} : K (forGo t body []) ρ kf e = kf .nx ρ := rfl
theorem K_for1 {t : Tg} {body : S} {d : D} {ds : List D} : K (forGo t body (d :: ds)) ρ kf e = KE (putTg ρ t d) (kFor1 t body ds kf e) := by
  cases h : putTg ρ t d with
  | none =>
    have u : forGo t body (d :: ds) ρ = none := by
      show (match putTg ρ t d with | none => none | some ρ1 => bind body _ ρ1) = _
      rw [h]
    unfold K
    rw [u]
    rfl
  | some ρ1 =>
    have v : K (forGo t body (d :: ds)) ρ kf e = K (bind body (fun f => match f with | .nx => forGo t body ds | .ct => forGo t body ds | .bk => ret .nx | .rt b => ret (.rt b))) ρ1 kf e := by
      unfold K
      rw [forGo_cons h] <;> rfl
    rw [v]
    show K (bind body _) ρ1 kf e = K body ρ1 _ e
    rw [K_bind]
    congr 1; funext f ρ2
    cases f <;> rfl
theorem K_sWhile {t : M Bool} {body : S} : K (sWhile t body) ρ kf e = K (whGo t body TURNS) ρ kf e := rfl
def kWh2 (t : M Bool) (body : S) (n : Nat) (kf : Ct Fl β) (e : Ex β) : Ct Fl β := fun f ρ => match f with
  | .nx => K (whGo t body n) ρ kf e
  | .ct => K (whGo t body n) ρ kf e
  | .bk => kf .nx ρ
  | .rt b => kf (.rt b) ρ
theorem kWh2_nx {t : M Bool} {body : S} {n : Nat} : kWh2 t body n kf e .nx ρ = K (whGo t body n) ρ kf e := rfl
theorem kWh2_ct {t : M Bool} {body : S} {n : Nat} : kWh2 t body n kf e .ct ρ = K (whGo t body n) ρ kf e := rfl
theorem kWh2_bk {t : M Bool} {body : S} {n : Nat} : kWh2 t body n kf e .bk ρ = kf .nx ρ := rfl
theorem kWh2_rt {t : M Bool} {body : S} {n : Nat} {b : B} : kWh2 t body n kf e (.rt b) ρ = kf (.rt b) ρ := rfl
def kWh1 (t : M Bool) (body : S) (n : Nat) (kf : Ct Fl β) (e : Ex β) : Ct Bool β := fun c ρ => if c = true then K body ρ (kWh2 t body n kf e) e else kf .nx ρ
theorem kWh1_eq {t : M Bool} {body : S} {n : Nat} {c : Bool} : kWh1 t body n kf e c ρ = if c = true then K body ρ (kWh2 t body n kf e) e else kf .nx ρ := rfl
theorem K_wh1 {t : M Bool} {body : S} {n : Nat} : K (whGo t body (n + 1)) ρ kf e = K t ρ (kWh1 t body n kf e) e := by
  show K (bind t _) ρ kf e = _
  rw [K_bind]
  congr 1; funext c ρ1
  cases c with
  | false => rfl
  | true =>
    show K (bind body _) ρ1 kf e = K body ρ1 _ e
    rw [K_bind]
    congr 1; funext f ρ2
    cases f <;> rfl
def kRet (kf : Ct Fl β) : Ct B β := fun x ρ => match x with
  | .pl _ => none
  | x => kf (.rt x) ρ
theorem kRet_sh {d : D} : kRet kf (.sh d) ρ = kf (.rt (.sh d)) ρ := rfl
theorem kRet_ow {d : O} : kRet kf (.ow d) ρ = kf (.rt (.ow d)) ρ := rfl
theorem kRet_tp {d : List SB} : kRet kf (.tp d) ρ = kf (.rt (.tp d)) ρ := rfl
theorem K_sRet {a : M B} : K (sRet a) ρ kf e = K a ρ (kRet kf) e := by
  unfold sRet
  simp only [K_bind]
  congr 1; funext x ρ1
  cases x <;> rfl
def tpO (bs : List B) : Option B := if bs.length ≤ 1000 then (sbBs bs).map B.tp else none
theorem tpO_eq {bs : List B} : tpO bs = if bs.length ≤ 1000 then (sbBs bs).map B.tp else none := rfl
def kTp (k : Ct B β) : Ct (List B) β := fun bs ρ => KO (tpO bs) k ρ
theorem kTp_eq {bs : List B} : kTp k bs ρ = KO (tpO bs) k ρ := rfl
theorem K_mTp {es : M (List B)} : K (mTp es) ρ k e = K es ρ (kTp k) e := by
  unfold mTp few
  simp only [K_bind]
  congr 1; funext bs ρ1
  unfold kTp tpO
  by_cases h : bs.length ≤ 1000
  · simp only [h, decide_true, if_true, K_bind, K_lift]; cases sbBs bs <;> rfl
  · simp [h, K_stuck, KO]
theorem sbBs_nil : sbBs [] = some [] := rfl
theorem sbBs_cons {b : B} {r : List B} : sbBs (b :: r) = (sbB b).bind fun x => (sbBs r).map fun xs => x :: xs := by
  show (match sbB b, sbBs r with | some x, some xs => some (x :: xs) | _, _ => none) = _
  cases sbB b <;> cases sbBs r <;> rfl
theorem sbB_sh {d : D} : sbB (.sh d) = some (.sh d) := rfl
theorem sbB_ow {d : O} : sbB (.ow d) = some (.ow d) := rfl
theorem K_sRaise {c : Nat} : K (sRaise c) ρ kf e = e c none ρ := rfl
def eTry (n : Nat) (hs : List ((Nat → Bool) × S)) (kf : Ct Fl β) (e : Ex β) : Ex β := fun c p ρ => if c < n then K (tryGo c p hs) ρ kf e else none
theorem eTry_eq {n c : Nat} {p : Option (Txt × D)} {hs : List ((Nat → Bool) × S)} : eTry n hs kf e c p ρ = if c < n then K (tryGo c p hs) ρ kf e else none := rfl
theorem K_sTry {n : Nat} {body : S} {hs : List ((Nat → Bool) × S)} : K (sTry n body hs) ρ kf e = K body ρ kf (eTry n hs kf e) := by
  unfold K sTry
  cases body ρ with
  | none => rfl
  | some q =>
    obtain ⟨r, ρ1⟩ := q
    cases r with
    | ok f => rfl
    | exc c p => show _ = eTry n hs kf e c p ρ1; unfold eTry K; by_cases h : c < n <;> simp [h]
theorem K_tryGo0 {c : Nat} {p : Option (Txt × D)} : K (tryGo c p []) ρ kf e = e c p ρ := rfl
theorem K_tryGo1 {c : Nat} {p : Option (Txt × D)} {t : Nat → Bool} {s : S} {r : List ((Nat → Bool) × S)} : K (tryGo c p ((t, s) :: r)) ρ kf e = if t c = true then K s ρ kf noX else K (tryGo c p r) ρ kf e := by
  show K (if t c then noExc s else tryGo c p r) ρ kf e = _
  rw [K_if, K_noExc]
/-! values -/
theorem Add_int {a b : Int} : iAdd (.int a) (.int b) = some (.sh (.int (a + b))) := rfl
theorem Add_tup {a b : List D} : iAdd (.tup a) (.tup b) = if a.length + b.length ≤ LIM then some (.sh (.tup (a ++ b))) else none := rfl
theorem Add_lst {a b : List D} : iAdd (.lst a) (.lst b) = if a.length + b.length ≤ LIM then some (.ow (.lst (a ++ b))) else none := rfl
theorem Add_str {a b : Txt} : iAdd (.str a) (.str b) = if a.length + b.length ≤ LIM then some (.sh (.str (a ++ b))) else none := rfl
theorem Sub_int {a b : Int} : iSub (.int a) (.int b) = some (.sh (.int (a - b))) := rfl
theorem Mul_int {a b : Int} : iMul (.int a) (.int b) = if smallI a || smallI b then some (.sh (.int (a * b))) else none := rfl
theorem Mul_lst {a : List D} {n : Int} : iMul (.lst a) (.int n) = if decide (0 ≤ n) && decide (n ≤ 1000) && decide (a.length ≤ 1000) then some (.ow (.lst (repL a n.toNat))) else none := rfl
theorem Fdiv_int {a b : Int} : iFdiv (.int a) (.int b) = if decide (0 < b) && decide (b < 1073741824) then some (.sh (.int (a / b))) else none := rfl
theorem Mod_int {a b : Int} : iMod (.int a) (.int b) = if decide (0 < b) then some (.sh (.int (a % b))) else none := rfl
theorem Lt_int {a b : Int} : iLt (.int a) (.int b) = some (.sh (.bl (decide (a < b)))) := rfl
theorem Le_int {a b : Int} : iLe (.int a) (.int b) = some (.sh (.bl (decide (a ≤ b)))) := rfl
theorem Gt_int {a b : Int} : iGt (.int a) (.int b) = some (.sh (.bl (decide (b < a)))) := rfl
theorem Ge_int {a b : Int} : iGe (.int a) (.int b) = some (.sh (.bl (decide (b ≤ a)))) := rfl
theorem Eq_eq {x y : D} : iEq x y = if x.dep ≤ 60 && y.dep ≤ 60 then some (.sh (.bl (D.eqv x y))) else none := rfl
theorem Ne_eq {x y : D} : iNe x y = if x.dep ≤ 60 && y.dep ≤ 60 then some (.sh (.bl (!D.eqv x y))) else none := rfl
theorem In_tup {x : D} {ys : List D} : iIn x (.tup ys) = if x.dep ≤ 60 && D.deps ys ≤ 60 then some (.sh (.bl (memD x ys))) else none := by
  unfold iIn isIn; dsimp only; generalize (decide (x.dep ≤ 60) && decide (D.deps ys ≤ 60)) = b; cases b <;> rfl
theorem In_lst {x : D} {ys : List D} : iIn x (.lst ys) = if x.dep ≤ 60 && D.deps ys ≤ 60 then some (.sh (.bl (memD x ys))) else none := by
  unfold iIn isIn; dsimp only; generalize (decide (x.dep ≤ 60) && decide (D.deps ys ≤ 60)) = b; cases b <;> rfl
theorem Nin_tup {x : D} {ys : List D} : iNin x (.tup ys) = if x.dep ≤ 60 && D.deps ys ≤ 60 then some (.sh (.bl (!memD x ys))) else none := by
  unfold iNin isIn; dsimp only; generalize (decide (x.dep ≤ 60) && decide (D.deps ys ≤ 60)) = b; cases b <;> rfl
theorem Nin_lst {x : D} {ys : List D} : iNin x (.lst ys) = if x.dep ≤ 60 && D.deps ys ≤ 60 then some (.sh (.bl (!memD x ys))) else none := by
  unfold iNin isIn; dsimp only; generalize (decide (x.dep ≤ 60) && decide (D.deps ys ≤ 60)) = b; cases b <;> rfl
theorem mem_nil {x : D} : memD x [] = false := rfl
theorem mem_cons {x y : D} {ys : List D} : memD x (y :: ys) = (D.eqv y x || memD x ys) := rfl
theorem Ix_tup {xs : List D} {i : Int} : iIx (.tup xs) (.int i) = (atI xs i).map B.sh := rfl
theorem Ix_lst {xs : List D} {i : Int} : iIx (.lst xs) (.int i) = (atI xs i).map B.sh := rfl
theorem atI_0 {α : Type} {x : α} {xs : List α} : atI (x :: xs) 0 = some x := rfl
theorem atI_1 {α : Type} {x y : α} {xs : List α} : atI (x :: y :: xs) 1 = some y := rfl
theorem atI_2 {α : Type} {x y z : α} {xs : List α} : atI (x :: y :: z :: xs) 2 = some z := rfl
theorem atI_3 {α : Type} {a b c d : α} {xs : List α} : atI (a :: b :: c :: d :: xs) 3 = some d := rfl
theorem atI_4 {α : Type} {a b c d f : α} {xs : List α} : atI (a :: b :: c :: d :: f :: xs) 4 = some f := rfl
theorem atI_5 {α : Type} {a b c d f g : α} {xs : List α} : atI (a :: b :: c :: d :: f :: g :: xs) 5 = some g := rfl
theorem atI_6 {α : Type} {a b c d f g h : α} {xs : List α} : atI (a :: b :: c :: d :: f :: g :: h :: xs) 6 = some h := rfl
theorem Len_tup {xs : List D} : iLen (.tup xs) = some (.sh (.int xs.length)) := rfl
theorem Len_lst {xs : List D} : iLen (.lst xs) = some (.sh (.int xs.length)) := rfl
theorem Len_str {xs : Txt} : iLen (.str xs) = some (.sh (.int xs.length)) := rfl
theorem Int_int {i : Int} : iInt (.int i) = some (.sh (.int i)) := rfl
theorem Int_bl {b : Bool} : iInt (.bl b) = some (.sh (.int (if b then 1 else 0))) := rfl
theorem Tuple_lst {xs : List D} : iTuple (.lst xs) = some (.sh (.tup xs)) := rfl
theorem Tuple_tup {xs : List D} : iTuple (.tup xs) = some (.sh (.tup xs)) := rfl
theorem List_lst {xs : List D} : iList (.lst xs) = some (.ow (.lst xs)) := rfl
theorem List_tup {xs : List D} : iList (.tup xs) = some (.ow (.lst xs)) := rfl
theorem bools_nil : bools [] = some [] := rfl
theorem bools_cons {b : Bool} {r : List D} : bools (.bl b :: r) = (bools r).map fun bs => b :: bs := rfl
theorem All_lst {xs : List D} : iAll (.lst xs) = (bools xs).map fun bs => B.sh (.bl (bs.all id)) := rfl
theorem Any_lst {xs : List D} : iAny (.lst xs) = (bools xs).map fun bs => B.sh (.bl (bs.any id)) := rfl
theorem dep_non : D.dep .non = 0 := rfl
theorem dep_bl {b : Bool} : D.dep (.bl b) = 0 := rfl
theorem dep_int {b : Int} : D.dep (.int b) = 0 := rfl
theorem dep_str {b : Txt} : D.dep (.str b) = 0 := rfl
theorem dep_tupS {xs : List D} : D.dep (.tup xs) = D.deps xs + 1 := by simp [D.dep]
theorem dep_lstS {xs : List D} : D.dep (.lst xs) = D.deps xs + 1 := by simp [D.dep]
theorem deps_nil : D.deps [] = 0 := by simp [D.deps]
theorem deps_cons {x : D} {xs : List D} : D.deps (x :: xs) = max (D.dep x) (D.deps xs) := by simp [D.deps]
theorem isNon_non : D.isNon .non = true := rfl
theorem isNon_int {i : Int} : D.isNon (.int i) = false := rfl
theorem isNon_tup {i : List D} : D.isNon (.tup i) = false := rfl
theorem isNon_lst {i : List D} : D.isNon (.lst i) = false := rfl
theorem isNon_str {i : Txt} : D.isNon (.str i) = false := rfl
theorem isNon_bl {i : Bool} : D.isNon (.bl i) = false := rfl
theorem eqv_ss {x y : Txt} : D.eqv (.str x) (.str y) = (x == y) := by simp [D.eqv]
theorem eqv_ii {x y : Int} : D.eqv (.int x) (.int y) = (x == y) := by simp [D.eqv]
theorem eqv_bb {x y : Bool} : D.eqv (.bl x) (.bl y) = (x == y) := by simp [D.eqv]
theorem eqv_nn : D.eqv .non .non = true := by simp [D.eqv]
theorem eqv_tt {x y : List D} : D.eqv (.tup x) (.tup y) = D.eqvs x y := by simp [D.eqv]
theorem eqv_ll {x y : List D} : D.eqv (.lst x) (.lst y) = D.eqvs x y := by simp [D.eqv]
theorem eqvs_nn : D.eqvs [] [] = true := by simp [D.eqvs]
theorem eqvs_nc {x : D} {xs : List D} : D.eqvs [] (x :: xs) = false := by simp [D.eqvs]
theorem eqvs_cn {x : D} {xs : List D} : D.eqvs (x :: xs) [] = false := by simp [D.eqvs]
theorem eqvs_cc {x y : D} {xs ys : List D} : D.eqvs (x :: xs) (y :: ys) = (D.eqv x y && D.eqvs xs ys) := by simp [D.eqvs]
theorem upto_1 : upto 1 = [.int 0] := rfl
theorem upto_2 : upto 2 = [.int 0, .int 1] := rfl
theorem upto_3 : upto 3 = [.int 0, .int 1, .int 2] := rfl
theorem upto_7 : upto 7 = [.int 0, .int 1, .int 2, .int 3, .int 4, .int 5, .int 6] := rfl
theorem K_mAdd {a b : M B} : K (mAdd a b) ρ k e = K a ρ (kOp1 iAdd b k e) e := K_mOp
theorem K_mSub {a b : M B} : K (mSub a b) ρ k e = K a ρ (kOp1 iSub b k e) e := K_mOp
theorem K_mMul {a b : M B} : K (mMul a b) ρ k e = K a ρ (kOp1 iMul b k e) e := K_mOp
theorem K_mFdiv {a b : M B} : K (mFdiv a b) ρ k e = K a ρ (kOp1 iFdiv b k e) e := K_mOp
theorem K_mMod {a b : M B} : K (mMod a b) ρ k e = K a ρ (kOp1 iMod b k e) e := K_mOp
theorem K_mPow {a b : M B} : K (mPow a b) ρ k e = K a ρ (kOp1 iPow b k e) e := K_mOp
theorem K_mEq {a b : M B} : K (mEq a b) ρ k e = K a ρ (kOp1 iEq b k e) e := K_mOp
theorem K_mNe {a b : M B} : K (mNe a b) ρ k e = K a ρ (kOp1 iNe b k e) e := K_mOp
theorem K_mLt {a b : M B} : K (mLt a b) ρ k e = K a ρ (kOp1 iLt b k e) e := K_mOp
theorem K_mLe {a b : M B} : K (mLe a b) ρ k e = K a ρ (kOp1 iLe b k e) e := K_mOp
theorem K_mGt {a b : M B} : K (mGt a b) ρ k e = K a ρ (kOp1 iGt b k e) e := K_mOp
theorem K_mGe {a b : M B} : K (mGe a b) ρ k e = K a ρ (kOp1 iGe b k e) e := K_mOp
theorem K_mIn {a b : M B} : K (mIn a b) ρ k e = K a ρ (kOp1 iIn b k e) e := K_mOp
theorem K_mNin {a b : M B} : K (mNin a b) ρ k e = K a ρ (kOp1 iNin b k e) e := K_mOp
theorem K_mMin {a b : M B} : K (mMin a b) ρ k e = K a ρ (kOp1 iMin b k e) e := K_mOp
theorem K_mJoin {a b : M B} : K (mJoin a b) ρ k e = K a ρ (kOp1 iJoin b k e) e := K_mOp
theorem K_mIndex {a b : M B} : K (mIndex a b) ρ k e = K a ρ (kOp1 iIndex b k e) e := K_mOp
theorem K_mLen {a : M B} : K (mLen a) ρ k e = K a ρ (kUn iLen k) e := K_mUn
theorem K_mInt {a : M B} : K (mInt a) ρ k e = K a ρ (kUn iInt k) e := K_mUn
theorem K_mStr {a : M B} : K (mStr a) ρ k e = K a ρ (kUn iStr k) e := K_mUn
theorem K_mTuple {a : M B} : K (mTuple a) ρ k e = K a ρ (kUn iTuple k) e := K_mUn
theorem K_mList {a : M B} : K (mList a) ρ k e = K a ρ (kUn iList k) e := K_mUn
theorem K_mAll {a : M B} : K (mAll a) ρ k e = K a ρ (kUn iAll k) e := K_mUn
theorem K_mAny {a : M B} : K (mAny a) ρ k e = K a ρ (kUn iAny k) e := K_mUn
theorem K_mSorted {a : M B} : K (mSorted a) ρ k e = K a ρ (kUn iSorted k) e := K_mUn
theorem K_mDict {a : M B} : K (mDict a) ρ k e = K a ρ (kUn iDict k) e := K_mUn
theorem K_mIsA {t : Ty} {a : M B} : K (mIsA t a) ρ k e = K a ρ (kUn (iIsA t) k) e := K_mUn
theorem IsA_tup {t : Ty} {xs : List D} : iIsA t (.tup xs) = some (.sh (.bl (isA (.tup xs) t))) := rfl
theorem IsA_lst {t : Ty} {xs : List D} : iIsA t (.lst xs) = some (.sh (.bl (isA (.lst xs) t))) := rfl
theorem IsA_str {t : Ty} {xs : Txt} : iIsA t (.str xs) = some (.sh (.bl (isA (.str xs) t))) := rfl
theorem IsA_int {t : Ty} {i : Int} : iIsA t (.int i) = some (.sh (.bl (isA (.int i) t))) := rfl
theorem IsA_bl {t : Ty} {i : Bool} : iIsA t (.bl i) = some (.sh (.bl (isA (.bl i) t))) := rfl
theorem Sl_tup {xs : List D} {l h : Option Int} : iSl (.tup xs) l h = some (.sh (.tup (cutL xs (endI xs.length 0 l) (endI xs.length xs.length h)))) := rfl
theorem Sl_lst {xs : List D} {l h : Option Int} : iSl (.lst xs) l h = some (.ow (.lst (cutL xs (endI xs.length 0 l) (endI xs.length xs.length h)))) := rfl
theorem Sl_str {xs : Txt} {l h : Option Int} : iSl (.str xs) l h = some (.sh (.str (cutL xs (endI xs.length 0 l) (endI xs.length xs.length h)))) := rfl
theorem endI_no {n d : Nat} : endI n d none = d := rfl
theorem endI_so {n d : Nat} {i : Int} : endI n d (some i) = if i < 0 then (i + n).toNat else min i.toNat n := rfl
theorem cutL_eq {α : Type} {xs : List α} {a b : Nat} : cutL xs a b = (xs.drop a).take (b - a) := rfl
theorem Mul_tup {a : List D} {n : Int} : iMul (.tup a) (.int n) = if decide (2 ≤ n) && decide (n ≤ 1000) && decide (a.length ≤ 1000) && !a.isEmpty then some (.sh (.tup (repL a n.toNat))) else none := rfl
theorem txt_nc {a : Nat} {x : Txt} : (([] : Txt) == (a :: x)) = false := rfl
theorem txt_cn {a : Nat} {x : Txt} : ((a :: x) == ([] : Txt)) = false := rfl
theorem IsA_non {t : Ty} : iIsA t .non = some (.sh (.bl (isA .non t))) := rfl
end
end WF

set_option Elab.async false
set_option linter.all false
set_option maxRecDepth 100000
set_option maxHeartbeats 1000000
/-! WFQ: comprehensions whose turns change other names. -/
namespace WF
section
variable {ρ ρ1 ρ2 : Env}
/-- each turn brings an item that R ties to what was walked -/
theorem compGo_rel {t : Tg} {c : M Bool} {e : M B} (I : Env → Prop) (R : D → D → Prop) : ∀ {ds : List D}, (∀ d ∈ ds, ∀ ρ, I ρ → ∃ ρ1 ρ2 ρ3 x b, putTg (clr ρ t.slots) t d = some ρ1 ∧ c ρ1 = some (.ok true, ρ3) ∧ e ρ3 = some (.ok b, ρ2) ∧ noPl b = true ∧ b.dat ρ2 = some x ∧ R d x ∧ I ρ2) →
    ∀ acc ρ, I ρ → ∃ xs ρ', compGo t c e ds acc ρ = some (.ok (acc ++ xs), ρ') ∧ I ρ' ∧ xs.length = ds.length ∧ ∀ (i : Nat) d x, ds[i]? = some d → xs[i]? = some x → R d x
  | [], _, acc, ρ, h => ⟨[], ρ, by rw [List.append_nil]; rfl, h, rfl, fun i d x e => by simp at e⟩
  | d :: ds, st, acc, ρ, h => by
    obtain ⟨ρ1, ρ2, ρ3, x, b, e1, ec, ee, nb, ed, r, h2⟩ := st d List.mem_cons_self ρ h
    have u : compGo t c e (d :: ds) acc ρ = bind c (fun k => if k then bind e fun x => bind (kept [x]) fun v => compGo t c e ds (acc ++ v) else compGo t c e ds acc) ρ1 := by
      show (match putTg (clr ρ t.slots) t d with | none => none | some ρ1 => bind c _ ρ1) = _
      rw [e1]
    have ek : kept [b] ρ2 = some (.ok [x], ρ2) := by
      unfold kept
      rw [if_pos (by simp [nb])]
      show (match datsL ρ2 [b] with | none => none | some ds => some (Res.ok ds, ρ2)) = _
      have : datsL ρ2 [b] = some [x] := by
        show (match b.dat ρ2, datsL ρ2 [] with | some d, some ds => some (d :: ds) | _, _ => none) = _
        rw [ed]
        rfl
      rw [this]
    obtain ⟨xs, ρ', e3, h3, hl, hr⟩ := compGo_rel I R (fun d m => st d (List.mem_cons_of_mem _ m)) (acc ++ [x]) ρ2 h2
    refine ⟨x :: xs, ρ', ?_, h3, by simp [hl], fun i d' y q1 q2 => ?_⟩
    · rw [u, bind_eq ec]
      show bind e (fun x => bind (kept [x]) fun v => compGo t c e ds (acc ++ v)) ρ3 = _
      rw [bind_eq ee, bind_eq ek, e3, List.append_assoc]
      rfl
    · cases i with
      | zero => simp at q1 q2; subst q1; subst q2; exact r
      | succ i => exact hr i d' y (by simpa using q1) (by simpa using q2)
theorem mComp_rel {i : Nat} {it : M (List D)} {c : M Bool} {e : M B} {ds : List D} (I : Env → Prop) (R : D → D → Prop) (hit : it ρ = some (.ok ds, ρ1)) (hi : i < ρ1.length) (h0 : ρ1.at i = none) (hz : ds.length ≤ LIM) (hI : I ρ1)
    (st : ∀ d ∈ ds, ∀ ρ, I ρ → ∃ ρ1 ρ2 ρ3 x b, putTg (clr ρ [i]) (.one i) d = some ρ1 ∧ c ρ1 = some (.ok true, ρ3) ∧ e ρ3 = some (.ok b, ρ2) ∧ noPl b = true ∧ b.dat ρ2 = some x ∧ R d x ∧ I ρ2) :
    ∃ xs ρ', mComp (.one i) it c e ρ = some (.ok (.ow (.lst xs)), ρ'.set i none) ∧ I ρ' ∧ xs.length = ds.length ∧ ∀ (j : Nat) d x, ds[j]? = some d → xs[j]? = some x → R d x := by
  obtain ⟨xs, ρ', e1, h1, hl, hr⟩ := compGo_rel (t := .one i) I R st [] ρ1 hI
  refine ⟨xs, ρ', ?_, h1, hl, hr⟩
  unfold mComp
  rw [bind_eq hit]
  have fr : free ρ1 (Tg.one i).slots = true := by
    show (([i] : List Nat).all fun i => match ρ1.at i with | none => decide (i < ρ1.length) | some (.sh _) => true | some _ => false) = true
    simp [h0, hi]
  have ne : noExc (compGo (.one i) c e ds []) ρ1 = some (.ok xs, ρ') := by
    unfold noExc
    rw [e1]
    rfl
  show (if free ρ1 (Tg.one i).slots then match noExc (compGo (.one i) c e ds []) ρ1 with
      | some (.ok vs, ρ2) => if vs.length ≤ LIM then some (Res.ok (B.ow (.lst vs)), back ρ1 ρ2 (Tg.one i).slots) else none
      | _ => none else none) = _
  rw [fr, ne]
  show (if xs.length ≤ LIM then some (Res.ok (B.ow (.lst xs)), back ρ1 ρ' [i]) else none) = _
  rw [if_pos (by omega)]
  have : back ρ1 ρ' [i] = ρ'.set i none := by
    show ρ'.set i (ρ1.at i) = _
    rw [h0]
  rw [this]
end
end WF

set_option linter.all false
set_option maxRecDepth 100000
namespace WF
namespace K01
abbrev t_Say : Txt := [83, 97, 121]
abbrev t__32 : Txt := [32]
abbrev t_always : Txt := [97, 108, 119, 97, 121, 115]
abbrev t_any : Txt := [97, 110, 121]
abbrev t_bar : Txt := [98, 97, 114]
abbrev t_bars : Txt := [98, 97, 114, 115]
abbrev t_both : Txt := [98, 111, 116, 104]
abbrev t_both_32either_32last : Txt := [98, 111, 116, 104, 32, 101, 105, 116, 104, 101, 114, 32, 108, 97, 115, 116]
abbrev t_clear : Txt := [99, 108, 101, 97, 114]
abbrev t_come : Txt := [99, 111, 109, 101]
abbrev t_court : Txt := [99, 111, 117, 114, 116]
abbrev t_day : Txt := [100, 97, 121]
abbrev t_day_32use : Txt := [100, 97, 121, 32, 117, 115, 101]
abbrev t_either : Txt := [101, 105, 116, 104, 101, 114]
abbrev t_empty : Txt := []
abbrev t_lag : Txt := [108, 97, 103]
abbrev t_last : Txt := [108, 97, 115, 116]
abbrev t_morning : Txt := [109, 111, 114, 110, 105, 110, 103]
abbrev t_morning_32now : Txt := [109, 111, 114, 110, 105, 110, 103, 32, 110, 111, 119]
abbrev t_no : Txt := [110, 111]
abbrev t_now : Txt := [110, 111, 119]
abbrev t_once : Txt := [111, 110, 99, 101]
abbrev t_own : Txt := [111, 119, 110]
abbrev t_own_32win : Txt := [111, 119, 110, 32, 119, 105, 110]
abbrev t_paper : Txt := [112, 97, 112, 101, 114]
abbrev t_say : Txt := [115, 97, 121]
abbrev t_use : Txt := [117, 115, 101]
abbrev t_void : Txt := [118, 111, 105, 100]
abbrev t_win : Txt := [119, 105, 110]
abbrev t_words : Txt := [119, 111, 114, 100, 115]
abbrev t_yes : Txt := [121, 101, 115]
def c_MOST_EVENTS : D := D.int 60
def c_PART_NAMES : D := D.tup [(.str t_words), (.str t_bars), (.str t_lag), (.str t_court), (.str t_once), (.str t_void), (.str t_paper)]
def c_VALUES : D := D.tup [(.tup [(.str t_both), (.str t_either), (.str t_last)]), (.tup [(.str t_own), (.str t_win)]), (.tup [(.str t_morning), (.str t_now)]), (.tup [(.str t_morning), (.str t_now)]), (.tup [(.str t_day), (.str t_use)]), (.tup [(.bl false), (.bl true)]), (.tup [(.bl false), (.bl true)])]
def c_WORDS : D := D.tup [(.str t_always), (.str t_bar), (.str t_no), (.str t_once)]
def isC_FetchError (c : Nat) : Bool := c == 0 || c == 1
def isC_InvalidRule (c : Nat) : Bool := c == 1
def f_is_same : Fn := mkFn 2 2
  (sSeq (sIf (tOr (tV (mIsA .bool (mP 0))) (tV (mIsA .bool (mP 1)))) (sRet (mAnd (mIsA .bool (mP 0)) (mAnd (mIsA .bool (mP 1)) (mEq (mP 0) (mP 1))))) sPass)
  (sRet (mAnd (mIsA .str (mP 0)) (mAnd (mIsA .str (mP 1)) (mEq (mP 0) (mP 1))))))
def ce0_is_rule : M B :=
  (mCall f_is_same (mCons (mV 1) (mCons (mV 3) mNil)))
def ce1_is_rule : M B :=
  (mAny (mComp (.one 3) (items (mV 2)) yes ce0_is_rule))
def f_is_rule : Fn := mkFn 1 4
  (sSeq (sIf (tOr (tNot (tV (mIsA .tuple (mP 0)))) (tV (mNe (mLen (mP 0)) (mLen (mK c_PART_NAMES))))) (sRet (mK (.bl false))) sPass)
  (sRet (mAll (mComp (.tup [1, 2]) (itZip (mV 0) (mK c_VALUES)) yes ce1_is_rule))))
def f_is_number : Fn := mkFn 2 2
  (sRet (mAnd (mIsA .int (mP 0)) (mAnd (mNot (mIsA .bool (mP 0))) (mLeLe (mK (.int 0)) (mP 0) (mP 1)))))
def f_is_word : Fn := mkFn 1 1
  (sRet (mAnd (mIsA .str (mP 0)) (mIn (mP 0) (mK c_WORDS))))
def f_is_event : Fn := mkFn 1 1
  (sSeq (sIf (tOr (tNot (tV (mIsA .tuple (mP 0)))) (tOr (tV (mEq (mP 0) (mK (.tup [])))) (tNot (tV (mIsA .str (mIx (mP 0) (mK (.int 0)))))))) (sRet (mK (.bl false))) sPass)
  (sSeq (sIf (tV (mEq (mIx (mP 0) (mK (.int 0))) (mK (.str t_morning)))) (sRet (mEq (mLen (mP 0)) (mK (.int 1)))) sPass)
  (sSeq (sIf (tV (mEq (mIx (mP 0) (mK (.int 0))) (mK (.str t_say)))) (sRet (mAnd (mEq (mLen (mP 0)) (mK (.int 3))) (mAnd (mCall f_is_number (mCons (mIx (mP 0) (mK (.int 1))) (mCons (mK (.int 1)) mNil))) (mCall f_is_word (mCons (mIx (mP 0) (mK (.int 2))) mNil))))) sPass)
  (sSeq (sIf (tV (mEq (mIx (mP 0) (mK (.int 0))) (mK (.str t_come)))) (sRet (mAnd (mEq (mLen (mP 0)) (mK (.int 2))) (mCall f_is_number (mCons (mIx (mP 0) (mK (.int 1))) (mCons (mK (.int 2)) mNil))))) sPass)
  (sRet (mAnd (mIn (mIx (mP 0) (mK (.int 0))) (mK (.tup [(.str t_clear), (.str t_court), (.str t_paper)]))) (mAnd (mEq (mLen (mP 0)) (mK (.int 2))) (mCall f_is_number (mCons (mIx (mP 0) (mK (.int 1))) (mCons (mK (.int 1)) mNil))))))))))
def ce0_are_events : M B :=
  (mCall f_is_event (mCons (mV 1) mNil))
def f_are_events : Fn := mkFn 1 2
  (sRet (mAnd (mIsA .tuple (mP 0)) (mAnd (mLe (mLen (mP 0)) (mK c_MOST_EVENTS)) (mAll (mComp (.one 1) (items (mV 0)) yes ce0_are_events)))))
def f_need_rule : Fn := mkFn 1 1
  (sIf (tNot (tV (mCall f_is_rule (mCons (mP 0) mNil)))) (sRaise 1) sPass)
def cc0_rules_near : M Bool :=
  (tNot (tV (mCall f_is_same (mCons (mV 4) (mCons (mIx (mP 0) (mP 2)) mNil)))))
def ce0_rules_near : M B :=
  (mAdd (mAdd (mSl (mP 0) none (some (mP 2))) (mTup (mCons (mV 4) mNil))) (mSl (mP 0) (some (mAdd (mP 2) (mK (.int 1)))) none))
def fb0_rules_near : S :=
  (sSet 1 (mAdd (mP 1) (mComp (.one 4) (items (mV 3)) cc0_rules_near ce0_rules_near)))
def f_rules_near : Fn := mkFn 1 5
  (sSeq (sSet 1 (mLst (ret (List.map B.sh []))))
  (sSeq (sFor (.tup [2, 3]) (itEnum (mK c_VALUES)) fb0_rules_near)
  (sRet (mSorted (mP 1)))))
def f_is_row : Fn := mkFn 1 1
  (sRet (mCall f_are_events (mCons (mP 0) mNil)))
def f_near : Fn := mkFn 1 1
  (sSeq (sDrop (mCall f_need_rule (mCons (mP 0) mNil)))
  (sRet (mCall f_rules_near (mCons (mP 0) mNil))))
def f__law_pot : Fn := mkFn 2 3
  (sSeq (sSet 2 (mIf (tV (mGe (mP 0) (mPow (mK (.int 10)) (mK (.int 18))))) (mAdd (mFdiv (mP 0) (mK (.int 5))) (mP 1)) (mK (.int 0))))
  (sRet (mLst (mCons (mV 2) (mCons (mAdd (mMod (mInt (mAdd (mMul (mP 0) (mK (.int 43))) (mMul (mK (.int 6007)) (mP 1)))) (mK (.int 1610612711))) (mK (.int 6))) mNil)))))
def f__law_lot : Fn := mkFn 2 4
  (sSeq (sIf (tV (mGt (mIx (mP 0) (mK (.int 0))) (mK (.int 0)))) (sSeq (sSet 2 (mMod (mInt (mIx (mP 0) (mK (.int 0)))) (mP 1)))
  (sSeq (sIxSet 0 (mK (.int 0)) (mFdiv (mIx (mP 0) (mK (.int 0))) (mP 1)))
  (sRet (mMv 2)))) sPass)
  (sSeq (sIxSet 0 (mK (.int 1)) (mMod (mInt (mAdd (mMul (mIx (mP 0) (mK (.int 1))) (mK (.int 1103515))) (mK (.int 12343)))) (mK (.int 2147483549))))
  (sSeq (sSet 3 (mMod (mInt (mMul (mIx (mP 0) (mK (.int 1))) (mAdd (mIx (mP 0) (mK (.int 1))) (mK (.int 87))))) (mK (.int 2147483497))))
  (sRet (mMod (mInt (mFdiv (mP 3) (mK (.int 743)))) (mP 1))))))
def f__law_pick : Fn := mkFn 2 2
  (sRet (mIx (mP 1) (mCall f__law_lot (mCons (mP 0) (mCons (mLen (mP 1)) mNil)))))
def f__law_values : Fn := mkFn 0 1
  (sSeq (sSet 0 (mLst (mCons (mLst (ret (List.map B.sh [(.str t_both), (.str t_either), (.str t_last)]))) (mCons (mLst (ret (List.map B.sh [(.str t_own), (.str t_win)]))) (mCons (mLst (ret (List.map B.sh [(.str t_morning), (.str t_now)]))) (mCons (mLst (ret (List.map B.sh [(.str t_morning), (.str t_now)]))) (mCons (mLst (ret (List.map B.sh [(.str t_day), (.str t_use)]))) mNil)))))))
  (sRet (mAdd (mP 0) (mLst (mCons (mLst (ret (List.map B.sh [(.bl false), (.bl true)]))) (mCons (mLst (ret (List.map B.sh [(.bl false), (.bl true)]))) mNil))))))
def ce0__law_rule : M B :=
  (mCall f__law_pick (mCons (mP 0) (mCons (mV 1) mNil)))
def f__law_rule : Fn := mkFn 1 2
  (sRet (mTuple (mComp (.one 1) (items (mCall f__law_values mNil)) yes ce0__law_rule)))
def f__law_words : Fn := mkFn 0 0
  (sRet (mLst (ret (List.map B.sh [(.str t_always), (.str t_bar), (.str t_no), (.str t_once)]))))
def f__law_event : Fn := mkFn 1 4
  (sSeq (sSet 1 (mLst (ret (List.map B.sh [(.str t_say), (.str t_say), (.str t_say), (.str t_come), (.str t_come), (.str t_come), (.str t_morning), (.str t_morning), (.str t_paper), (.str t_court), (.str t_clear)]))))
  (sSeq (sSet 2 (mCall f__law_pick (mCons (mP 0) (mCons (mV 1) mNil))))
  (sSeq (sIf (tV (mEq (mP 2) (mK (.str t_morning)))) (sRet (mTp (mCons (mMv 2) mNil))) sPass)
  (sSeq (sIf (tV (mEq (mP 2) (mK (.str t_come)))) (sRet (mTp (mCons (mMv 2) (mCons (mCall f__law_pick (mCons (mP 0) (mCons (mLst (ret (List.map B.sh [(.int 0), (.int 1), (.int 2), (.int 2)]))) mNil))) mNil)))) sPass)
  (sSeq (sSet 3 (mCall f__law_lot (mCons (mP 0) (mCons (mK (.int 2)) mNil))))
  (sRet (mIf (tV (mEq (mP 2) (mK (.str t_say)))) (mTp (mCons (mMv 2) (mCons (mMv 3) (mCons (mCall f__law_pick (mCons (mP 0) (mCons (mAdd (mCall f__law_words mNil) (mLst (ret (List.map B.sh [(.str t_always)])))) mNil))) mNil)))) (mTp (mCons (mMv 2) (mCons (mMv 3) mNil))))))))))
def ce0__law_row : M B :=
  (mCall f__law_event (mCons (mP 0) mNil))
def f__law_row : Fn := mkFn 2 3
  (sRet (mTuple (mComp (.one 2) (itRange (mCall f__law_lot (mCons (mP 0) (mCons (mAdd (mP 1) (mK (.int 1))) mNil)))) yes ce0__law_row)))
def fb0__law_is_rule : S :=
  (sIf (tOr (tNot (tV (mIsA .str (mIx (mP 0) (mP 2))))) (tV (mNin (mIx (mP 0) (mP 2)) (mSplit (mIx (mP 1) (mP 2)) (mK (.str t__32)))))) (sRet (mK (.bl false))) sPass)
def f__law_is_rule : Fn := mkFn 1 3
  (sSeq (sIf (tOr (tNot (tV (mIsA .tuple (mP 0)))) (tV (mNe (mLen (mP 0)) (mK (.int 7))))) (sRet (mK (.bl false))) sPass)
  (sSeq (sSet 1 (mLst (ret (List.map B.sh [(.str t_both_32either_32last), (.str t_own_32win), (.str t_morning_32now), (.str t_morning_32now), (.str t_day_32use)]))))
  (sSeq (sFor (.one 2) (itRange (mK (.int 5))) fb0__law_is_rule)
  (sRet (mAnd (mIsA .bool (mIx (mP 0) (mK (.int 5)))) (mIsA .bool (mIx (mP 0) (mK (.int 6)))))))))
def f__law_is_event : Fn := mkFn 1 1
  (sSeq (sIf (tOr (tNot (tV (mIsA .tuple (mP 0)))) (tOr (tV (mEq (mP 0) (mK (.tup [])))) (tNot (tV (mIsA .str (mIx (mP 0) (mK (.int 0)))))))) (sRet (mK (.bl false))) sPass)
  (sSeq (sIf (tV (mEq (mIx (mP 0) (mK (.int 0))) (mK (.str t_morning)))) (sRet (mEq (mLen (mP 0)) (mK (.int 1)))) sPass)
  (sSeq (sIf (tOr (tV (mNin (mIx (mP 0) (mK (.int 0))) (mK (.tup [(.str t_clear), (.str t_come), (.str t_court), (.str t_paper), (.str t_say)])))) (tV (mNe (mLen (mP 0)) (mIf (tV (mEq (mIx (mP 0) (mK (.int 0))) (mK (.str t_say)))) (mK (.int 3)) (mK (.int 2)))))) (sRet (mK (.bl false))) sPass)
  (sSeq (sIf (tOr (tV (mIsA .bool (mIx (mP 0) (mK (.int 1))))) (tNot (tV (mIsA .int (mIx (mP 0) (mK (.int 1))))))) (sRet (mK (.bl false))) sPass)
  (sSeq (sIf (tNot (tV (mLeLe (mK (.int 0)) (mIx (mP 0) (mK (.int 1))) (mIf (tV (mEq (mIx (mP 0) (mK (.int 0))) (mK (.str t_come)))) (mK (.int 2)) (mK (.int 1)))))) (sRet (mK (.bl false))) sPass)
  (sRet (mOr (mEq (mLen (mP 0)) (mK (.int 2))) (mAnd (mIsA .str (mIx (mP 0) (mK (.int 2)))) (mIn (mIx (mP 0) (mK (.int 2))) (mK (.tup [(.str t_always), (.str t_bar), (.str t_no), (.str t_once)])))))))))))
def cc0__law_is_row : M Bool :=
  (tNot (tV (mCall f__law_is_event (mCons (mV 1) mNil))))
def ce0__law_is_row : M B :=
  (mV 1)
def f__law_is_row : Fn := mkFn 1 2
  (sSeq (sIf (tOr (tNot (tV (mIsA .tuple (mP 0)))) (tV (mGt (mLen (mP 0)) (mK (.int 60))))) (sRet (mK (.bl false))) sPass)
  (sRet (mEq (mComp (.one 1) (items (mV 0)) cc0__law_is_row ce0__law_is_row) (mLst (ret (List.map B.sh []))))))
def f__law_odd : Fn := mkFn 1 2
  (sSeq (sSet 1 (mLst (mCons (mK .non) (mCons (mK (.bl true)) (mCons (mK (.bl false)) (mCons (mK (.int 0)) (mCons (mK (.int 1)) (mCons (mK (.int 2)) (mCons (mK (.int 3)) (mCons (mK (.int (-1))) (mCons (mPow (mK (.int 10)) (mK (.int 30))) (mCons (mK (.str t_empty)) (mCons (mK (.str t_both)) (mCons (mK (.str t_win)) (mCons (mK (.str t_now)) (mCons (mK (.str t_day)) (mCons (mK (.str t_always)) (mCons (mK (.str t_once)) (mCons (mK (.str t_come)) mNil)))))))))))))))))))
  (sSeq (sSet 1 (mAdd (mP 1) (mLst (mCons (mK (.str t_Say)) (mCons (mK (.tup [])) (mCons (mLst (ret (List.map B.sh []))) (mCons (mK (.tup [(.str t_morning)])) (mCons (mK (.tup [(.str t_come), (.int 2)])) (mCons (mK (.tup [(.str t_paper), (.bl true)])) (mCons (mK (.tup [(.str t_say), (.int 0), (.str t_bar)])) (mCons (mK (.tup [(.str t_say), (.int 1)])) mNil)))))))))))
  (sRet (mCall f__law_pick (mCons (mP 0) (mCons (mV 1) mNil))))))
def f__law_bent : Nat → Fn
  | 0 => fun _ => none
  | n + 1 => mkFn 2 4
    (sSeq (sIf (tOr (tNot (tV (mIsA .tuple (mP 1)))) (tOr (tV (mEq (mP 1) (mK (.tup [])))) (tV (mEq (mCall f__law_lot (mCons (mP 0) (mCons (mK (.int 7)) mNil))) (mK (.int 0)))))) (sRet (mIf (tV (mIsA .bool (mP 1))) (mNot (mP 1)) (mCall f__law_odd (mCons (mP 0) mNil)))) sPass)
  (sSeq (sPar [2, 3] (mCons (mCall f__law_lot (mCons (mP 0) (mCons (mLen (mP 1)) mNil))) (mCons (mCall f__law_lot (mCons (mP 0) (mCons (mK (.int 11)) mNil))) mNil)))
  (sSeq (sIf (tV (mEq (mP 3) (mK (.int 0)))) (sRet (mAdd (mSl (mP 1) none (some (mP 2))) (mSl (mP 1) (some (mAdd (mP 2) (mK (.int 1)))) none))) sPass)
  (sSeq (sIf (tV (mEq (mP 3) (mK (.int 1)))) (sRet (mAdd (mSl (mP 1) none (some (mAdd (mP 2) (mK (.int 1))))) (mSl (mP 1) (some (mP 2)) none))) sPass)
  (sSeq (sIf (tV (mEq (mP 3) (mK (.int 2)))) (sRet (mAdd (mAdd (mSl (mP 1) none (some (mP 2))) (mTup (mCons (mCall f__law_odd (mCons (mP 0) mNil)) mNil))) (mSl (mP 1) (some (mP 2)) none))) sPass)
  (sSeq (sIf (tV (mEq (mP 3) (mK (.int 3)))) (sRet (mList (mP 1))) sPass)
  (sRet (mAdd (mAdd (mSl (mP 1) none (some (mP 2))) (mTup (mCons (mCall (f__law_bent n) (mCons (mP 0) (mCons (mIx (mP 1) (mP 2)) mNil))) mNil))) (mSl (mP 1) (some (mAdd (mP 2) (mK (.int 1)))) none)))))))))
def cc0__law_near : M Bool :=
  (tV (mNe (mP 4) (mIx (mP 0) (mP 3))))
def ce0__law_near : M B :=
  (mAdd (mAdd (mSl (mP 0) none (some (mP 3))) (mTup (mCons (mV 4) mNil))) (mSl (mP 0) (some (mAdd (mP 3) (mK (.int 1)))) none))
def fb0__law_near : S :=
  (sSet 1 (mAdd (mP 1) (mComp (.one 4) (items (mIx (mP 2) (mP 3))) cc0__law_near ce0__law_near)))
def f__law_near : Fn := mkFn 1 5
  (sSeq (sPar [1, 2] (mCons (mLst (ret (List.map B.sh []))) (mCons (mCall f__law_values mNil) mNil)))
  (sSeq (sFor (.one 3) (itRange (mK (.int 7))) fb0__law_near)
  (sRet (mSorted (mP 1)))))
def f__law_refused : Fn := mkFn 1 1
  (sSeq (sTry 2 (sDrop (mCall f_near (mCons (mP 0) mNil))) [(isC_InvalidRule, (sRet (mK (.bl true)))), (isC_FetchError, (sRet (mK (.bl false))))])
  (sRet (mK (.bl false))))
def cc0__law_right : M Bool :=
  (tOr (tNot (tV (mIsA .bool (mIx (mP 2) (mK (.int 0)))))) (tV (mNe (mIx (mP 2) (mK (.int 0))) (mIx (mP 2) (mK (.int 1))))))
def ce0__law_right : M B :=
  (mV 2)
def f__law_right : Fn := mkFn 1 3
  (sSeq (sSet 1 (mLst (mCons (mTup (mCons (mCall f_is_rule (mCons (mP 0) mNil)) (mCons (mCall f__law_is_rule (mCons (mP 0) mNil)) mNil))) (mCons (mTup (mCons (mCall f_is_row (mCons (mP 0) mNil)) (mCons (mCall f__law_is_row (mCons (mP 0) mNil)) mNil))) mNil))))
  (sSeq (sIf (tV (mNe (mComp (.one 2) (items (mV 1)) cc0__law_right ce0__law_right) (mLst (ret (List.map B.sh []))))) (sRet (mK (.bl false))) sPass)
  (sRet (mNe (mCall f__law_refused (mCons (mP 0) mNil)) (mCall f__law_is_rule (mCons (mP 0) mNil))))))
def fb0_law : S :=
  (sSeq (sIf (tNot (tV (mCall f__law_right (mCons (mV 6) mNil)))) (sRet (mK (.bl false))) sPass)
  (sSet 6 (mFz (mCall (f__law_bent 12) (mCons (mP 2) (mCons (mV 6) mNil))))))
def fb1_law : S :=
  (sSeq (sSet 6 (mFz (mCall f__law_pick (mCons (mP 2) (mCons (mLst (mCons (mV 3) (mCons (mCall f__law_row (mCons (mP 2) (mCons (mK (.int 12)) mNil))) mNil))) mNil)))))
  (sFor (.one 7) (itRange (mK (.int 3))) fb0_law))
def fb2_law : S :=
  (sSeq (sSet 2 (mCall f__law_pot (mCons (mV 1) (mCons (mK (.int 3)) mNil))))
  (sSeq (sSet 3 (mCall f__law_rule (mCons (mP 2) mNil)))
  (sSeq (sSet 4 (mCall f_near (mCons (mV 3) mNil)))
  (sSeq (sIf (tOr (tNot (tV (mCall f_is_rule (mCons (mV 3) mNil)))) (tOr (tV (mNe (mP 4) (mCall f__law_near (mCons (mV 3) mNil)))) (tOr (tNot (tV (mIsA .list (mP 4)))) (tV (mNe (mLen (mP 4)) (mK (.int 8))))))) (sRet (mK (.bl false))) sPass)
  (sSeq (sFor (.one 5) (itRange (mK (.int 10))) fb1_law)
  (sIf (tNot (tV (mCall f__law_right (mCons (mCall f__law_odd (mCons (mP 2) mNil)) mNil)))) (sRet (mK (.bl false))) sPass))))))
def ce0_law : M B :=
  (mAdd (mAdd (mSl (mP 3) none (some (mP 10))) (mTup (mCons (mV 11) mNil))) (mSl (mP 3) (some (mAdd (mP 10) (mK (.int 1)))) none))
def cc0_law : M Bool :=
  (tNot (tV (mCall f__law_right (mCons (mV 6) mNil))))
def ce1_law : M B :=
  (mV 6)
def f_law : Fn := mkFn 1 12
  (sSeq (sFor (.one 1) (items (mSl (mAdd (mLst (ret (List.map B.sh [(.int 0)]))) (mP 0)) none (some (mK (.int 8))))) fb2_law)
  (sSeq (sSet 3 (mK (.tup [(.str t_last), (.str t_own), (.str t_morning), (.str t_now), (.str t_use), (.bl true), (.bl false)])))
  (sSeq (sSet 8 (mK (.tup [(.tup [(.int 0), (.str t_any)]), (.tup [(.int 1), (.str t_both)]), (.tup [(.int 2), (.str t_use)]), (.tup [(.int 3), (.bl true)]), (.tup [(.int 4), (.str t_now)]), (.tup [(.int 5), (.int 1)]), (.tup [(.int 6), (.int 0)]), (.tup [(.int 6), (.str t_yes)])])))
  (sSeq (sSet 9 (mAdd (mComp (.tup [10, 11]) (items (mV 8)) yes ce0_law) (mLst (mCons (mSl (mP 3) none (some (mK (.int 6)))) (mCons (mAdd (mP 3) (mK (.tup [(.bl true)]))) (mCons (mList (mP 3)) mNil))))))
  (sSeq (sSet 9 (mAdd (mP 9) (mLst (mCons (mMul (mK (.tup [(.tup [(.str t_morning)])])) (mK (.int 60))) (mCons (mMul (mK (.tup [(.tup [(.str t_morning)])])) (mK (.int 61))) (mCons (mK (.tup [(.tup [(.str t_come), (.int 3)])])) (mCons (mK (.tup [(.tup [(.str t_paper), (.int 2)])])) (mCons (mK (.tup [(.tup [(.str t_say), (.int 0)])])) mNil))))))))
  (sSeq (sSet 9 (mAdd (mP 9) (mLst (ret (List.map B.sh [(.tup [(.tup [(.str t_say), (.int 0), (.str t_yes)])]), (.tup [(.tup [(.str t_say), (.bl true), (.str t_no)])]), (.tup [(.tup [(.str t_morning), (.int 0)])]), (.tup [(.str t_morning)])])))))
  (sSeq (sDrop (mApp 9 (mK (.tup [(.tup [(.str t_say), (.int 0), (.str t_no), (.int 1)])]))))
  (sRet (mEq (mComp (.one 6) (items (mV 9)) cc0_law ce1_law) (mLst (ret (List.map B.sh []))))))))))))
end K01
end WF

set_option Elab.async false
set_option linter.all false
set_option maxRecDepth 100000
set_option maxHeartbeats 4000000
/-! P_k01: the pure statement of k01. -/
namespace WF
namespace K01
/-- the pot of the law's draws -/
def Pot (g s : Int) : Prop := 0 ≤ g ∧ 0 ≤ s ∧ s < 2147483549
abbrev pot (g s : Int) : SB := .io (.lst [.int g, .int s])
theorem lot_spec {g s n : Int} (p : Pot g s) (h1 : 1 ≤ n) (h2 : n < 1000) : ∃ g' s' k, Pot g' s' ∧ 0 ≤ k ∧ k < n ∧ f__law_lot [pot g s, .sh (.int n)] = some (.ok (.sh (.int k)), [some (pot g' s'), none]) := by
  obtain ⟨p1, p2, p3⟩ := p
  have n1 : (0 : Int) < n := by omega
  have n2 : n < 1073741824 := by omega
  by_cases hg : 0 < g
  · refine ⟨g / n, s, g % n, ⟨Int.ediv_nonneg p1 (by omega), p2, p3⟩, Int.emod_nonneg _ (by omega), Int.emod_lt_of_pos _ n1, ?_⟩
    simp [f__law_lot, mkFn, sSeq, sSet, sIf, sRet, sDrop, sPass, sPar, sFor, sRaise, sIxSet, bindS, bindSs, ownB, ownBs, putS, bind, ret, lift, dat, B.dat, SB.toD, O.toD, SB.obj, SB.put, mK, mP, mV, mMv, mIx, ixB, iIx, WF.atI, mAdd, mSub, mMul, mFdiv, mMod, mPow, mNeg, mUn, mOp, iAdd, iSub, iMul, iFdiv, iMod, iPow, smallI, mInt, iInt, mLen, iLen, dLen, mEq, mNe, mGt, mLt, mGe, mLe, iEq, iNe, iGt, iLt, iGe, iLe, boo, tV, tAnd, tOr, tNot, D.tru, D.dep, D.deps, D.eqv, D.eqvs, mHas, kept, dats, datsL, noPl, putO, setAt, outs, Env.at, mCons, mNil, List.range_succ, mOr, mAnd, mNot, mIf, mIsA, iIsA, isA, D.boolV, mIn, mNin, iIn, iNin, isIn, memD, keyOf, keyS, mLeLe, mAll, mAny, iAll, iAny, bools, mTuple, iTuple, mList, iList, mCall, callF, nodupN, lent, handL, handB, backL, backB, mComp, compGo, free, noExc, clr, back, Tg.slots, putTg, putSs, items, dItems, itZip, iZip2, zipD, itEnum, enumD, upto, itRange, yes, mTup, mLst, mTp, few, sbBs, sbB, mSl, mEnd, iSl, endI, clip, cutL, mSplit, iSplit, splitT, mSorted, iSorted, forGo, mApp, addAt, isLstO, hg, n1, n2]
  · have e1 : 0 ≤ (s * 1103515 + 12343) % 2147483549 := Int.emod_nonneg _ (by omega)
    have e2 : (s * 1103515 + 12343) % 2147483549 < 2147483549 := Int.emod_lt_of_pos _ (by omega)
    have sm : (decide (-18446744073709551616 < (s * 1103515 + 12343) % 2147483549) && decide ((s * 1103515 + 12343) % 2147483549 < 18446744073709551616)) = true := by
      rw [Bool.and_eq_true, decide_eq_true_eq, decide_eq_true_eq]; omega
    refine ⟨g, (s * 1103515 + 12343) % 2147483549, ((((s * 1103515 + 12343) % 2147483549) * (((s * 1103515 + 12343) % 2147483549) + 87)) % 2147483497 / 743) % n, ⟨p1, e1, e2⟩, Int.emod_nonneg _ (by omega), Int.emod_lt_of_pos _ n1, ?_⟩
    simp [f__law_lot, mkFn, sSeq, sSet, sIf, sRet, sDrop, sPass, sPar, sFor, sRaise, sIxSet, bindS, bindSs, ownB, ownBs, putS, bind, ret, lift, dat, B.dat, SB.toD, O.toD, SB.obj, SB.put, mK, mP, mV, mMv, mIx, ixB, iIx, WF.atI, mAdd, mSub, mMul, mFdiv, mMod, mPow, mNeg, mUn, mOp, iAdd, iSub, iMul, iFdiv, iMod, iPow, smallI, mInt, iInt, mLen, iLen, dLen, mEq, mNe, mGt, mLt, mGe, mLe, iEq, iNe, iGt, iLt, iGe, iLe, boo, tV, tAnd, tOr, tNot, D.tru, D.dep, D.deps, D.eqv, D.eqvs, mHas, kept, dats, datsL, noPl, putO, setAt, outs, Env.at, mCons, mNil, List.range_succ, mOr, mAnd, mNot, mIf, mIsA, iIsA, isA, D.boolV, mIn, mNin, iIn, iNin, isIn, memD, keyOf, keyS, mLeLe, mAll, mAny, iAll, iAny, bools, mTuple, iTuple, mList, iList, mCall, callF, nodupN, lent, handL, handB, backL, backB, mComp, compGo, free, noExc, clr, back, Tg.slots, putTg, putSs, items, dItems, itZip, iZip2, zipD, itEnum, enumD, upto, itRange, yes, mTup, mLst, mTp, few, sbBs, sbB, mSl, mEnd, iSl, endI, clip, cutL, mSplit, iSplit, splitT, mSorted, iSorted, forGo, mApp, addAt, isLstO, hg, n1, n2, sm]
def eqS (a : D) (t : Txt) : Bool := match a with | .str s => s == t | _ => false
def eqB (a : D) (b : Bool) : Bool := match a with | .bl x => x == b | _ => false
theorem same_str {a : D} {t : Txt} (h : D.dep a ≤ 60) : f_is_same [.sh a, .sh (.str t)] = some (.ok (.sh (.bl (eqS a t))), [none, none]) := by
  cases a <;> simp [f_is_same, mkFn, sSeq, sSet, sIf, sRet, sDrop, sPass, sPar, sFor, sRaise, sIxSet, bindS, bindSs, ownB, ownBs, putS, bind, ret, lift, dat, B.dat, SB.toD, O.toD, SB.obj, SB.put, mK, mP, mV, mMv, mIx, ixB, iIx, WF.atI, mAdd, mSub, mMul, mFdiv, mMod, mPow, mNeg, mUn, mOp, iAdd, iSub, iMul, iFdiv, iMod, iPow, smallI, mInt, iInt, mLen, iLen, dLen, mEq, mNe, mGt, mLt, mGe, mLe, iEq, iNe, iGt, iLt, iGe, iLe, boo, tV, tAnd, tOr, tNot, D.tru, D.dep, D.deps, D.eqv, D.eqvs, mHas, kept, dats, datsL, noPl, putO, setAt, outs, Env.at, mCons, mNil, List.range_succ, mOr, mAnd, mNot, mIf, mIsA, iIsA, isA, D.boolV, mIn, mNin, iIn, iNin, isIn, memD, keyOf, keyS, mLeLe, mAll, mAny, iAll, iAny, bools, mTuple, iTuple, mList, iList, mCall, callF, nodupN, lent, handL, handB, backL, backB, mComp, compGo, free, noExc, clr, back, Tg.slots, putTg, putSs, items, dItems, itZip, iZip2, zipD, itEnum, enumD, upto, itRange, yes, mTup, mLst, mTp, few, sbBs, sbB, mSl, mEnd, iSl, endI, clip, cutL, mSplit, iSplit, splitT, mSorted, iSorted, forGo, mApp, addAt, isLstO, eqS] <;> simp_all [D.dep]
theorem same_bl {a : D} {t : Bool} (h : D.dep a ≤ 60) : f_is_same [.sh a, .sh (.bl t)] = some (.ok (.sh (.bl (eqB a t))), [none, none]) := by
  cases a <;> simp [f_is_same, mkFn, sSeq, sSet, sIf, sRet, sDrop, sPass, sPar, sFor, sRaise, sIxSet, bindS, bindSs, ownB, ownBs, putS, bind, ret, lift, dat, B.dat, SB.toD, O.toD, SB.obj, SB.put, mK, mP, mV, mMv, mIx, ixB, iIx, WF.atI, mAdd, mSub, mMul, mFdiv, mMod, mPow, mNeg, mUn, mOp, iAdd, iSub, iMul, iFdiv, iMod, iPow, smallI, mInt, iInt, mLen, iLen, dLen, mEq, mNe, mGt, mLt, mGe, mLe, iEq, iNe, iGt, iLt, iGe, iLe, boo, tV, tAnd, tOr, tNot, D.tru, D.dep, D.deps, D.eqv, D.eqvs, mHas, kept, dats, datsL, noPl, putO, setAt, outs, Env.at, mCons, mNil, List.range_succ, mOr, mAnd, mNot, mIf, mIsA, iIsA, isA, D.boolV, mIn, mNin, iIn, iNin, isIn, memD, keyOf, keyS, mLeLe, mAll, mAny, iAll, iAny, bools, mTuple, iTuple, mList, iList, mCall, callF, nodupN, lent, handL, handB, backL, backB, mComp, compGo, free, noExc, clr, back, Tg.slots, putTg, putSs, items, dItems, itZip, iZip2, zipD, itEnum, enumD, upto, itRange, yes, mTup, mLst, mTp, few, sbBs, sbB, mSl, mEnd, iSl, endI, clip, cutL, mSplit, iSplit, splitT, mSorted, iSorted, forGo, mApp, addAt, isLstO, eqB] <;> simp_all [D.dep]
/-- what a rule is -/
def ruleB (d : D) : Bool := match d with
  | .tup [a, b, c, d, e, f, g] => (eqS a t_both || eqS a t_either || eqS a t_last) && (eqS b t_own || eqS b t_win) && (eqS c t_morning || eqS c t_now) && (eqS d t_morning || eqS d t_now) && (eqS e t_day || eqS e t_use) && (eqB f false || eqB f true) && (eqB g false || eqB g true)
  | _ => false
theorem is_rule_7 {a b c d e f g : D} (ha : D.dep a ≤ 60) (hb : D.dep b ≤ 60) (hc : D.dep c ≤ 60) (hd : D.dep d ≤ 60) (he : D.dep e ≤ 60) (hf : D.dep f ≤ 60) (hg : D.dep g ≤ 60) :
    f_is_rule [.sh (.tup [a, b, c, d, e, f, g])] = some (.ok (.sh (.bl (ruleB (.tup [a, b, c, d, e, f, g])))), [none]) := by
  simp [f_is_rule, ce0_is_rule, ce1_is_rule, mkFn, sSeq, sSet, sIf, sRet, sDrop, sPass, sPar, sFor, sRaise, sIxSet, bindS, bindSs, ownB, ownBs, putS, bind, ret, lift, dat, B.dat, SB.toD, O.toD, SB.obj, SB.put, mK, mP, mV, mMv, mIx, ixB, iIx, WF.atI, mAdd, mSub, mMul, mFdiv, mMod, mPow, mNeg, mUn, mOp, iAdd, iSub, iMul, iFdiv, iMod, iPow, smallI, mInt, iInt, mLen, iLen, dLen, mEq, mNe, mGt, mLt, mGe, mLe, iEq, iNe, iGt, iLt, iGe, iLe, boo, tV, tAnd, tOr, tNot, D.tru, D.dep, D.deps, D.eqv, D.eqvs, mHas, kept, dats, datsL, noPl, putO, setAt, outs, Env.at, mCons, mNil, List.range_succ, mOr, mAnd, mNot, mIf, mIsA, iIsA, isA, D.boolV, mIn, mNin, iIn, iNin, isIn, memD, keyOf, keyS, mLeLe, mAll, mAny, iAll, iAny, bools, mTuple, iTuple, mList, iList, mCall, callF, nodupN, lent, handL, handB, backL, backB, mComp, compGo, free, noExc, clr, back, Tg.slots, putTg, putSs, items, dItems, itZip, iZip2, zipD, itEnum, enumD, upto, itRange, yes, mTup, mLst, mTp, few, sbBs, sbB, mSl, mEnd, iSl, endI, clip, cutL, mSplit, iSplit, splitT, mSorted, iSorted, forGo, mApp, addAt, isLstO, c_VALUES, c_PART_NAMES, same_str, same_bl, ha, hb, hc, hd, he, hf, hg, ruleB, LIM, Bool.and_assoc, Bool.or_assoc]
theorem dep_mem {xs : List D} {n : Nat} (h : D.deps xs ≤ n) : ∀ x ∈ xs, D.dep x ≤ n := by
  induction xs with
  | nil => intro x m; cases m
  | cons y ys ih =>
    have h' : max (D.dep y) (D.deps ys) ≤ n := by simpa [D.deps] using h
    intro x m
    rcases List.mem_cons.mp m with rfl | m
    · omega
    · exact ih (by omega) x m
theorem dep_tup {xs : List D} {n : Nat} (h : D.dep (.tup xs) ≤ n + 1) : ∀ x ∈ xs, D.dep x ≤ n := dep_mem (by simp [D.dep] at h; omega)
theorem is_rule_not {v : D} (h : ∀ t kvs, v ≠ .dic t kvs) (n : ∀ xs, v = .tup xs → xs.length ≠ 7) : f_is_rule [.sh v] = some (.ok (.sh (.bl false)), [none]) := by
  cases v with
  | dic t kvs => exact absurd rfl (h t kvs)
  | tup xs =>
    have hl := n xs rfl
    have hl' : ¬ (xs.length : Int) = 7 := by omega
    simp [f_is_rule, mkFn, sSeq, sSet, sIf, sRet, sDrop, sPass, sPar, sFor, sRaise, sIxSet, bindS, bindSs, ownB, ownBs, putS, bind, ret, lift, dat, B.dat, SB.toD, O.toD, SB.obj, SB.put, mK, mP, mV, mMv, mIx, ixB, iIx, WF.atI, mAdd, mSub, mMul, mFdiv, mMod, mPow, mNeg, mUn, mOp, iAdd, iSub, iMul, iFdiv, iMod, iPow, smallI, mInt, iInt, mLen, iLen, dLen, mEq, mNe, mGt, mLt, mGe, mLe, iEq, iNe, iGt, iLt, iGe, iLe, boo, tV, tAnd, tOr, tNot, D.tru, D.dep, D.deps, D.eqv, D.eqvs, mHas, kept, dats, datsL, noPl, putO, setAt, outs, Env.at, mCons, mNil, List.range_succ, mOr, mAnd, mNot, mIf, mIsA, iIsA, isA, D.boolV, mIn, mNin, iIn, iNin, isIn, memD, keyOf, keyS, mLeLe, mAll, mAny, iAll, iAny, bools, mTuple, iTuple, mList, iList, mCall, callF, nodupN, lent, handL, handB, backL, backB, mComp, compGo, free, noExc, clr, back, Tg.slots, putTg, putSs, items, dItems, itZip, iZip2, zipD, itEnum, enumD, upto, itRange, yes, mTup, mLst, mTp, few, sbBs, sbB, mSl, mEnd, iSl, endI, clip, cutL, mSplit, iSplit, splitT, mSorted, iSorted, forGo, mApp, addAt, isLstO, c_PART_NAMES, hl']
  | _ => simp [f_is_rule, mkFn, sSeq, sSet, sIf, sRet, sDrop, sPass, sPar, sFor, sRaise, sIxSet, bindS, bindSs, ownB, ownBs, putS, bind, ret, lift, dat, B.dat, SB.toD, O.toD, SB.obj, SB.put, mK, mP, mV, mMv, mIx, ixB, iIx, WF.atI, mAdd, mSub, mMul, mFdiv, mMod, mPow, mNeg, mUn, mOp, iAdd, iSub, iMul, iFdiv, iMod, iPow, smallI, mInt, iInt, mLen, iLen, dLen, mEq, mNe, mGt, mLt, mGe, mLe, iEq, iNe, iGt, iLt, iGe, iLe, boo, tV, tAnd, tOr, tNot, D.tru, D.dep, D.deps, D.eqv, D.eqvs, mHas, kept, dats, datsL, noPl, putO, setAt, outs, Env.at, mCons, mNil, List.range_succ, mOr, mAnd, mNot, mIf, mIsA, iIsA, isA, D.boolV, mIn, mNin, iIn, iNin, isIn, memD, keyOf, keyS, mLeLe, mAll, mAny, iAll, iAny, bools, mTuple, iTuple, mList, iList, mCall, callF, nodupN, lent, handL, handB, backL, backB, mComp, compGo, free, noExc, clr, back, Tg.slots, putTg, putSs, items, dItems, itZip, iZip2, zipD, itEnum, enumD, upto, itRange, yes, mTup, mLst, mTp, few, sbBs, sbB, mSl, mEnd, iSl, endI, clip, cutL, mSplit, iSplit, splitT, mSorted, iSorted, forGo, mApp, addAt, isLstO, c_PART_NAMES]
theorem nodic {v : D} {n : Nat} (h : D.dep v ≤ n) (hn : n < 1000) : ∀ t kvs, v ≠ .dic t kvs := fun t kvs e => by subst e; simp [D.dep] at h; omega
theorem ruleB_not {v : D} (n : ∀ xs, v = .tup xs → xs.length ≠ 7) : ruleB v = false := by
  unfold ruleB
  split
  · exact absurd rfl (n _ rfl)
  · rfl
theorem seven {xs : List D} (h : xs.length = 7) : ∃ a b c d e f g, xs = [a, b, c, d, e, f, g] := by
  match xs, h with
  | [a, b, c, d, e, f, g], _ => exact ⟨a, b, c, d, e, f, g, rfl⟩
theorem is_rule_spec {v : D} (h : D.dep v ≤ 60) : f_is_rule [.sh v] = some (.ok (.sh (.bl (ruleB v))), [none]) := by
  by_cases q : ∃ a b c d e f g, v = .tup [a, b, c, d, e, f, g]
  · obtain ⟨a, b, c, d, e, f, g, rfl⟩ := q
    have k := dep_tup (n := 59) h
    exact is_rule_7 (by have := k a (by simp); omega) (by have := k b (by simp); omega) (by have := k c (by simp); omega) (by have := k d (by simp); omega) (by have := k e (by simp); omega) (by have := k f (by simp); omega) (by have := k g (by simp); omega)
  · have n : ∀ xs, v = .tup xs → xs.length ≠ 7 := fun xs e hl => by
      obtain ⟨a, b, c, d, e', f, g, rfl⟩ := seven hl
      exact q ⟨a, b, c, d, e', f, g, e⟩
    rw [is_rule_not (nodic h (by decide)) n, ruleB_not n]
/-- for, while a turn may end the def -/
theorem forGo_step {t : Tg} {body : S} {d : D} {ds : List D} {ρ ρ1 : Env} (h : putTg ρ t d = some ρ1) : forGo t body (d :: ds) ρ = bind body (fun f => match f with | .nx => forGo t body ds | .ct => forGo t body ds | .bk => ret .nx | .rt b => ret (.rt b)) ρ1 := by
  show (match putTg ρ t d with | none => none | some ρ1 => bind body _ ρ1) = _
  rw [h] <;> rfl
def wordsD : List D := [.str t_both_32either_32last, .str t_own_32win, .str t_morning_32now, .str t_morning_32now, .str t_day_32use]
def posB (x : D) (k : Nat) : Bool := match k with
  | 0 => eqS x t_both || eqS x t_either || eqS x t_last
  | 1 => eqS x t_own || eqS x t_win
  | 2 => eqS x t_morning || eqS x t_now
  | 3 => eqS x t_morning || eqS x t_now
  | _ => eqS x t_day || eqS x t_use
theorem pos_step {xs : List D} {k : Nat} {x : D} (hk : k < 5) (hx : xs[k]? = some x) (hd : D.dep x ≤ 60) :
    fb0__law_is_rule [some (.sh (.tup xs)), some (.ow (.lst wordsD)), some (.sh (.int k))] = some (.ok (if posB x k then .nx else .rt (.sh (.bl false))), [some (.sh (.tup xs)), some (.ow (.lst wordsD)), some (.sh (.int k))]) := by
  have nd := nodic hd (by decide)
  obtain rfl | rfl | rfl | rfl | rfl : k = 0 ∨ k = 1 ∨ k = 2 ∨ k = 3 ∨ k = 4 := by omega
  all_goals
    have hx' := hx
    cases x with
    | dic t kvs => exact absurd rfl (nd t kvs)
    | str s =>
      have cm : ∀ t : Txt, (t == s) = (s == t) := fun t => BEq.comm
      have w0 : splitT 32 t_both_32either_32last = [t_both, t_either, t_last] := by decide
      have w1 : splitT 32 t_own_32win = [t_own, t_win] := by decide
      have w2 : splitT 32 t_morning_32now = [t_morning, t_now] := by decide
      have w3 : splitT 32 t_day_32use = [t_day, t_use] := by decide
      cases hp : posB (.str s) _ <;> simp [posB, eqS] at hp <;> simp [fb0__law_is_rule, wordsD, mkFn, sSeq, sSet, sIf, sRet, sDrop, sPass, sPar, sFor, sRaise, sIxSet, bindS, bindSs, ownB, ownBs, putS, bind, ret, lift, dat, B.dat, SB.toD, O.toD, SB.obj, SB.put, mK, mP, mV, mMv, mIx, ixB, iIx, WF.atI, mAdd, mSub, mMul, mFdiv, mMod, mPow, mNeg, mUn, mOp, iAdd, iSub, iMul, iFdiv, iMod, iPow, smallI, mInt, iInt, mLen, iLen, dLen, mEq, mNe, mGt, mLt, mGe, mLe, iEq, iNe, iGt, iLt, iGe, iLe, boo, tV, tAnd, tOr, tNot, D.tru, D.dep, D.deps, D.eqv, D.eqvs, mHas, kept, dats, datsL, noPl, putO, setAt, outs, Env.at, mCons, mNil, List.range_succ, mOr, mAnd, mNot, mIf, mIsA, iIsA, isA, D.boolV, mIn, mNin, iIn, iNin, isIn, memD, keyOf, keyS, mLeLe, mAll, mAny, iAll, iAny, bools, mTuple, iTuple, mList, iList, mCall, callF, nodupN, lent, handL, handB, backL, backB, mComp, compGo, free, noExc, clr, back, Tg.slots, putTg, putSs, items, dItems, itZip, iZip2, zipD, itEnum, enumD, upto, itRange, yes, mTup, mLst, mTp, few, sbBs, sbB, mSl, mEnd, iSl, endI, clip, cutL, mSplit, iSplit, mSorted, iSorted, forGo, mApp, addAt, isLstO, hx', w0, w1, w2, w3, cm, LIM, hp] <;> (split <;> first | rfl | (exfalso; simp_all; done) | simp_all)
    | _ => simp_all [fb0__law_is_rule, mkFn, sSeq, sSet, sIf, sRet, sDrop, sPass, sPar, sFor, sRaise, sIxSet, bindS, bindSs, ownB, ownBs, putS, bind, ret, lift, dat, B.dat, SB.toD, O.toD, SB.obj, SB.put, mK, mP, mV, mMv, mIx, ixB, iIx, WF.atI, mAdd, mSub, mMul, mFdiv, mMod, mPow, mNeg, mUn, mOp, iAdd, iSub, iMul, iFdiv, iMod, iPow, smallI, mInt, iInt, mLen, iLen, dLen, mEq, mNe, mGt, mLt, mGe, mLe, iEq, iNe, iGt, iLt, iGe, iLe, boo, tV, tAnd, tOr, tNot, D.tru, D.dep, D.deps, D.eqv, D.eqvs, mHas, kept, dats, datsL, noPl, putO, setAt, outs, Env.at, mCons, mNil, List.range_succ, mOr, mAnd, mNot, mIf, mIsA, iIsA, isA, D.boolV, mIn, mNin, iIn, iNin, isIn, memD, keyOf, keyS, mLeLe, mAll, mAny, iAll, iAny, bools, mTuple, iTuple, mList, iList, mCall, callF, nodupN, lent, handL, handB, backL, backB, mComp, compGo, free, noExc, clr, back, Tg.slots, putTg, putSs, items, dItems, itZip, iZip2, zipD, itEnum, enumD, upto, itRange, yes, mTup, mLst, mTp, few, sbBs, sbB, mSl, mEnd, iSl, endI, clip, cutL, mSplit, iSplit, splitT, mSorted, iSorted, forGo, mApp, addAt, isLstO, posB, eqS]
theorem upto5 : upto 5 = [.int 0, .int 1, .int 2, .int 3, .int 4] := by rfl
theorem for_bit {t : Tg} {body : S} {d : D} {ds : List D} {ρ ρ1 ρ2 : Env} {p : Bool} {b : B} (h : putTg ρ t d = some ρ1) (hb : body ρ1 = some (.ok (if p then .nx else .rt b), ρ2)) : forGo t body (d :: ds) ρ = if p then forGo t body ds ρ2 else some (.ok (.rt b), ρ2) := by
  rw [forGo_step h]
  unfold bind
  rw [hb]
  cases p <;> rfl
theorem law_is_rule_7 {a b c d e f g : D} (ha : D.dep a ≤ 60) (hb : D.dep b ≤ 60) (hc : D.dep c ≤ 60) (hd : D.dep d ≤ 60) (he : D.dep e ≤ 60) (hf : D.dep f ≤ 60) (hg : D.dep g ≤ 60) :
    f__law_is_rule [.sh (.tup [a, b, c, d, e, f, g])] = some (.ok (.sh (.bl (ruleB (.tup [a, b, c, d, e, f, g])))), [none]) := by
  have s0 := pos_step (xs := [a, b, c, d, e, f, g]) (k := 0) (by decide) rfl ha
  have s1 := pos_step (xs := [a, b, c, d, e, f, g]) (k := 1) (by decide) rfl hb
  have s2 := pos_step (xs := [a, b, c, d, e, f, g]) (k := 2) (by decide) rfl hc
  have s3 := pos_step (xs := [a, b, c, d, e, f, g]) (k := 3) (by decide) rfl hd
  have s4 := pos_step (xs := [a, b, c, d, e, f, g]) (k := 4) (by decide) rfl he
  have fin : forGo (.one 2) fb0__law_is_rule (upto 5) [some (.sh (.tup [a, b, c, d, e, f, g])), some (.ow (.lst wordsD)), none] =
      if posB a 0 then (if posB b 1 then (if posB c 2 then (if posB d 3 then (if posB e 4 then some (.ok .nx, [some (.sh (.tup [a, b, c, d, e, f, g])), some (.ow (.lst wordsD)), some (.sh (.int 4))]) else some (.ok (.rt (.sh (.bl false))), [some (.sh (.tup [a, b, c, d, e, f, g])), some (.ow (.lst wordsD)), some (.sh (.int 4))]))
        else some (.ok (.rt (.sh (.bl false))), [some (.sh (.tup [a, b, c, d, e, f, g])), some (.ow (.lst wordsD)), some (.sh (.int 3))])) else some (.ok (.rt (.sh (.bl false))), [some (.sh (.tup [a, b, c, d, e, f, g])), some (.ow (.lst wordsD)), some (.sh (.int 2))])) else some (.ok (.rt (.sh (.bl false))), [some (.sh (.tup [a, b, c, d, e, f, g])), some (.ow (.lst wordsD)), some (.sh (.int 1))])) else some (.ok (.rt (.sh (.bl false))), [some (.sh (.tup [a, b, c, d, e, f, g])), some (.ow (.lst wordsD)), some (.sh (.int 0))]) := by
    rw [upto5, for_bit rfl s0, for_bit rfl s1, for_bit rfl s2, for_bit rfl s3, for_bit rfl s4]
    rfl
  have e5 : isA f .bool = (eqB f false || eqB f true) := by cases f <;> first | rfl | (rename_i q; cases q <;> rfl)
  have e6 : isA g .bool = (eqB g false || eqB g true) := by cases g <;> first | rfl | (rename_i q; cases q <;> rfl)
  have nf := nodic hf (by decide)
  have ng := nodic hg (by decide)
  have i5 : iIsA .bool f = some (boo (isA f .bool)) := by cases f <;> first | rfl | exact absurd rfl (nf _ _)
  have i6 : iIsA .bool g = some (boo (isA g .bool)) := by cases g <;> first | rfl | exact absurd rfl (ng _ _)
  have r : ruleB (.tup [a, b, c, d, e, f, g]) = (posB a 0 && (posB b 1 && (posB c 2 && (posB d 3 && (posB e 4 && (isA f .bool && isA g .bool)))))) := by
    rw [e5, e6]
    simp [ruleB, posB, Bool.and_assoc, Bool.or_assoc]
  rw [r]
  simp only [wordsD] at fin
  have it : ∀ xs, iIsA .tuple (.tup xs) = some (boo true) := fun _ => rfl
  simp [f__law_is_rule, mkFn, sSeq, sSet, sIf, sRet, sDrop, sPass, sPar, sFor, sRaise, sIxSet, bindS, bindSs, ownB, ownBs, putS, bind, ret, lift, dat, B.dat, SB.toD, O.toD, SB.obj, SB.put, mK, mP, mV, mMv, mIx, ixB, iIx, WF.atI, mAdd, mSub, mMul, mFdiv, mMod, mPow, mNeg, mUn, mOp, iAdd, iSub, iMul, iFdiv, iMod, iPow, smallI, mInt, iInt, mLen, iLen, dLen, mEq, mNe, mGt, mLt, mGe, mLe, iEq, iNe, iGt, iLt, iGe, iLe, boo, tV, tAnd, tOr, tNot, D.tru, D.dep, D.deps, D.eqv, D.eqvs, mHas, kept, dats, datsL, noPl, putO, setAt, outs, Env.at, mCons, mNil, List.range_succ, mOr, mAnd, mNot, mIf, mIsA, D.boolV, mIn, mNin, iIn, iNin, isIn, memD, keyOf, keyS, mLeLe, mAll, mAny, iAll, iAny, bools, mTuple, iTuple, mList, iList, mCall, callF, nodupN, lent, handL, handB, backL, backB, mComp, compGo, free, noExc, clr, back, Tg.slots, putTg, putSs, items, dItems, itZip, iZip2, zipD, itEnum, enumD, itRange, yes, mTup, mLst, mTp, few, sbBs, sbB, mSl, mEnd, iSl, endI, clip, cutL, mSplit, iSplit, mSorted, iSorted, mApp, addAt, isLstO, fin, LIM, it, i5, i6]
  cases posB a 0 <;> cases posB b 1 <;> cases posB c 2 <;> cases posB d 3 <;> cases posB e 4 <;> first | rfl | (simp [mkFn, sSeq, sSet, sIf, sRet, sDrop, sPass, sPar, sFor, sRaise, sIxSet, bindS, bindSs, ownB, ownBs, putS, bind, ret, lift, dat, B.dat, SB.toD, O.toD, SB.obj, SB.put, mK, mP, mV, mMv, mIx, ixB, iIx, WF.atI, mAdd, mSub, mMul, mFdiv, mMod, mPow, mNeg, mUn, mOp, iAdd, iSub, iMul, iFdiv, iMod, iPow, smallI, mInt, iInt, mLen, iLen, dLen, mEq, mNe, mGt, mLt, mGe, mLe, iEq, iNe, iGt, iLt, iGe, iLe, boo, tV, tAnd, tOr, tNot, D.tru, D.dep, D.deps, D.eqv, D.eqvs, mHas, kept, dats, datsL, noPl, putO, setAt, outs, Env.at, mCons, mNil, List.range_succ, mOr, mAnd, mNot, mIf, mIsA, D.boolV, mIn, mNin, iIn, iNin, isIn, memD, keyOf, keyS, mLeLe, mAll, mAny, iAll, iAny, bools, mTuple, iTuple, mList, iList, mCall, callF, nodupN, lent, handL, handB, backL, backB, mComp, compGo, free, noExc, clr, back, Tg.slots, putTg, putSs, items, dItems, itZip, iZip2, zipD, itEnum, enumD, itRange, yes, mTup, mLst, mTp, few, sbBs, sbB, mSl, mEnd, iSl, endI, clip, cutL, mSplit, iSplit, mSorted, iSorted, mApp, addAt, isLstO, i5, i6]; cases isA f .bool <;> simp [mkFn, sSeq, sSet, sIf, sRet, sDrop, sPass, sPar, sFor, sRaise, sIxSet, bindS, bindSs, ownB, ownBs, putS, bind, ret, lift, dat, B.dat, SB.toD, O.toD, SB.obj, SB.put, mK, mP, mV, mMv, mIx, ixB, iIx, WF.atI, mAdd, mSub, mMul, mFdiv, mMod, mPow, mNeg, mUn, mOp, iAdd, iSub, iMul, iFdiv, iMod, iPow, smallI, mInt, iInt, mLen, iLen, dLen, mEq, mNe, mGt, mLt, mGe, mLe, iEq, iNe, iGt, iLt, iGe, iLe, boo, tV, tAnd, tOr, tNot, D.tru, D.dep, D.deps, D.eqv, D.eqvs, mHas, kept, dats, datsL, noPl, putO, setAt, outs, Env.at, mCons, mNil, List.range_succ, mOr, mAnd, mNot, mIf, mIsA, D.boolV, mIn, mNin, iIn, iNin, isIn, memD, keyOf, keyS, mLeLe, mAll, mAny, iAll, iAny, bools, mTuple, iTuple, mList, iList, mCall, callF, nodupN, lent, handL, handB, backL, backB, mComp, compGo, free, noExc, clr, back, Tg.slots, putTg, putSs, items, dItems, itZip, iZip2, zipD, itEnum, enumD, itRange, yes, mTup, mLst, mTp, few, sbBs, sbB, mSl, mEnd, iSl, endI, clip, cutL, mSplit, iSplit, mSorted, iSorted, mApp, addAt, isLstO, i6])
theorem law_is_rule_not {v : D} (h : ∀ t kvs, v ≠ .dic t kvs) (n : ∀ xs, v = .tup xs → xs.length ≠ 7) : f__law_is_rule [.sh v] = some (.ok (.sh (.bl false)), [none]) := by
  cases v with
  | dic t kvs => exact absurd rfl (h t kvs)
  | tup xs =>
    have hl := n xs rfl
    have hl' : ¬ (xs.length : Int) = 7 := by omega
    simp [f__law_is_rule, mkFn, sSeq, sSet, sIf, sRet, sDrop, sPass, sPar, sFor, sRaise, sIxSet, bindS, bindSs, ownB, ownBs, putS, bind, ret, lift, dat, B.dat, SB.toD, O.toD, SB.obj, SB.put, mK, mP, mV, mMv, mIx, ixB, iIx, WF.atI, mAdd, mSub, mMul, mFdiv, mMod, mPow, mNeg, mUn, mOp, iAdd, iSub, iMul, iFdiv, iMod, iPow, smallI, mInt, iInt, mLen, iLen, dLen, mEq, mNe, mGt, mLt, mGe, mLe, iEq, iNe, iGt, iLt, iGe, iLe, boo, tV, tAnd, tOr, tNot, D.tru, D.dep, D.deps, D.eqv, D.eqvs, mHas, kept, dats, datsL, noPl, putO, setAt, outs, Env.at, mCons, mNil, List.range_succ, mOr, mAnd, mNot, mIf, mIsA, iIsA, isA, D.boolV, mIn, mNin, iIn, iNin, isIn, memD, keyOf, keyS, mLeLe, mAll, mAny, iAll, iAny, bools, mTuple, iTuple, mList, iList, mCall, callF, nodupN, lent, handL, handB, backL, backB, mComp, compGo, free, noExc, clr, back, Tg.slots, putTg, putSs, items, dItems, itZip, iZip2, zipD, itEnum, enumD, upto, itRange, yes, mTup, mLst, mTp, few, sbBs, sbB, mSl, mEnd, iSl, endI, clip, cutL, mSplit, iSplit, splitT, mSorted, iSorted, forGo, mApp, addAt, isLstO, hl']
  | _ => simp [f__law_is_rule, mkFn, sSeq, sSet, sIf, sRet, sDrop, sPass, sPar, sFor, sRaise, sIxSet, bindS, bindSs, ownB, ownBs, putS, bind, ret, lift, dat, B.dat, SB.toD, O.toD, SB.obj, SB.put, mK, mP, mV, mMv, mIx, ixB, iIx, WF.atI, mAdd, mSub, mMul, mFdiv, mMod, mPow, mNeg, mUn, mOp, iAdd, iSub, iMul, iFdiv, iMod, iPow, smallI, mInt, iInt, mLen, iLen, dLen, mEq, mNe, mGt, mLt, mGe, mLe, iEq, iNe, iGt, iLt, iGe, iLe, boo, tV, tAnd, tOr, tNot, D.tru, D.dep, D.deps, D.eqv, D.eqvs, mHas, kept, dats, datsL, noPl, putO, setAt, outs, Env.at, mCons, mNil, List.range_succ, mOr, mAnd, mNot, mIf, mIsA, iIsA, isA, D.boolV, mIn, mNin, iIn, iNin, isIn, memD, keyOf, keyS, mLeLe, mAll, mAny, iAll, iAny, bools, mTuple, iTuple, mList, iList, mCall, callF, nodupN, lent, handL, handB, backL, backB, mComp, compGo, free, noExc, clr, back, Tg.slots, putTg, putSs, items, dItems, itZip, iZip2, zipD, itEnum, enumD, upto, itRange, yes, mTup, mLst, mTp, few, sbBs, sbB, mSl, mEnd, iSl, endI, clip, cutL, mSplit, iSplit, splitT, mSorted, iSorted, forGo, mApp, addAt, isLstO]
theorem law_is_rule_spec {v : D} (h : D.dep v ≤ 60) : f__law_is_rule [.sh v] = some (.ok (.sh (.bl (ruleB v))), [none]) := by
  by_cases q : ∃ a b c d e f g, v = .tup [a, b, c, d, e, f, g]
  · obtain ⟨a, b, c, d, e, f, g, rfl⟩ := q
    have k := dep_tup (n := 59) h
    exact law_is_rule_7 (by have := k a (by simp); omega) (by have := k b (by simp); omega) (by have := k c (by simp); omega) (by have := k d (by simp); omega) (by have := k e (by simp); omega) (by have := k f (by simp); omega) (by have := k g (by simp); omega)
  · have n : ∀ xs, v = .tup xs → xs.length ≠ 7 := fun xs e hl => by
      obtain ⟨a, b, c, d, e', f, g, rfl⟩ := seven hl
      exact q ⟨a, b, c, d, e', f, g, e⟩
    rw [law_is_rule_not (nodic h (by decide)) n, ruleB_not n]
/-! ### events -/
def numB (d : D) (hi : Int) : Bool := match d with | .int i => decide (0 ≤ i) && decide (i ≤ hi) | _ => false
theorem number_spec {v : D} {hi : Int} (h : D.dep v ≤ 60) : f_is_number [.sh v, .sh (.int hi)] = some (.ok (.sh (.bl (numB v hi))), [none, none]) := by
  have nd := nodic h (by decide)
  cases v with
  | dic t kvs => exact absurd rfl (nd t kvs)
  | int i =>
    simp [f_is_number, mkFn, sSeq, sSet, sIf, sRet, sDrop, sPass, sPar, sFor, sRaise, sIxSet, bindS, bindSs, ownB, ownBs, putS, bind, ret, lift, dat, B.dat, SB.toD, O.toD, SB.obj, SB.put, mK, mP, mV, mMv, mIx, ixB, iIx, WF.atI, mAdd, mSub, mMul, mFdiv, mMod, mPow, mNeg, mUn, mOp, iAdd, iSub, iMul, iFdiv, iMod, iPow, smallI, mInt, iInt, mLen, iLen, dLen, mEq, mNe, mGt, mLt, mGe, mLe, iEq, iNe, iGt, iLt, iGe, iLe, boo, tV, tAnd, tOr, tNot, D.tru, D.dep, D.deps, D.eqv, D.eqvs, mHas, kept, dats, datsL, noPl, putO, setAt, outs, Env.at, mCons, mNil, List.range_succ, mOr, mAnd, mNot, mIf, mIsA, iIsA, isA, D.boolV, mIn, mNin, iIn, iNin, isIn, memD, keyOf, keyS, mLeLe, mAll, mAny, iAll, iAny, bools, mTuple, iTuple, mList, iList, mCall, callF, nodupN, lent, handL, handB, backL, backB, mComp, compGo, free, noExc, clr, back, Tg.slots, putTg, putSs, items, dItems, itZip, iZip2, zipD, itEnum, enumD, upto, itRange, yes, mTup, mLst, mTp, few, sbBs, sbB, mSl, mEnd, iSl, endI, clip, cutL, mSplit, iSplit, splitT, mSorted, iSorted, forGo, mApp, addAt, isLstO, numB]
    by_cases h0 : 0 ≤ i <;> simp [h0, mkFn, sSeq, sSet, sIf, sRet, sDrop, sPass, sPar, sFor, sRaise, sIxSet, bindS, bindSs, ownB, ownBs, putS, bind, ret, lift, dat, B.dat, SB.toD, O.toD, SB.obj, SB.put, mK, mP, mV, mMv, mIx, ixB, iIx, WF.atI, mAdd, mSub, mMul, mFdiv, mMod, mPow, mNeg, mUn, mOp, iAdd, iSub, iMul, iFdiv, iMod, iPow, smallI, mInt, iInt, mLen, iLen, dLen, mEq, mNe, mGt, mLt, mGe, mLe, iEq, iNe, iGt, iLt, iGe, iLe, boo, tV, tAnd, tOr, tNot, D.tru, D.dep, D.deps, D.eqv, D.eqvs, mHas, kept, dats, datsL, noPl, putO, setAt, outs, Env.at, mCons, mNil, List.range_succ, mOr, mAnd, mNot, mIf, mIsA, iIsA, isA, D.boolV, mIn, mNin, iIn, iNin, isIn, memD, keyOf, keyS, mLeLe, mAll, mAny, iAll, iAny, bools, mTuple, iTuple, mList, iList, mCall, callF, nodupN, lent, handL, handB, backL, backB, mComp, compGo, free, noExc, clr, back, Tg.slots, putTg, putSs, items, dItems, itZip, iZip2, zipD, itEnum, enumD, upto, itRange, yes, mTup, mLst, mTp, few, sbBs, sbB, mSl, mEnd, iSl, endI, clip, cutL, mSplit, iSplit, splitT, mSorted, iSorted, forGo, mApp, addAt, isLstO]
  | bl b => cases b <;> simp [f_is_number, mkFn, sSeq, sSet, sIf, sRet, sDrop, sPass, sPar, sFor, sRaise, sIxSet, bindS, bindSs, ownB, ownBs, putS, bind, ret, lift, dat, B.dat, SB.toD, O.toD, SB.obj, SB.put, mK, mP, mV, mMv, mIx, ixB, iIx, WF.atI, mAdd, mSub, mMul, mFdiv, mMod, mPow, mNeg, mUn, mOp, iAdd, iSub, iMul, iFdiv, iMod, iPow, smallI, mInt, iInt, mLen, iLen, dLen, mEq, mNe, mGt, mLt, mGe, mLe, iEq, iNe, iGt, iLt, iGe, iLe, boo, tV, tAnd, tOr, tNot, D.tru, D.dep, D.deps, D.eqv, D.eqvs, mHas, kept, dats, datsL, noPl, putO, setAt, outs, Env.at, mCons, mNil, List.range_succ, mOr, mAnd, mNot, mIf, mIsA, iIsA, isA, D.boolV, mIn, mNin, iIn, iNin, isIn, memD, keyOf, keyS, mLeLe, mAll, mAny, iAll, iAny, bools, mTuple, iTuple, mList, iList, mCall, callF, nodupN, lent, handL, handB, backL, backB, mComp, compGo, free, noExc, clr, back, Tg.slots, putTg, putSs, items, dItems, itZip, iZip2, zipD, itEnum, enumD, upto, itRange, yes, mTup, mLst, mTp, few, sbBs, sbB, mSl, mEnd, iSl, endI, clip, cutL, mSplit, iSplit, splitT, mSorted, iSorted, forGo, mApp, addAt, isLstO, numB]
  | _ => simp [f_is_number, mkFn, sSeq, sSet, sIf, sRet, sDrop, sPass, sPar, sFor, sRaise, sIxSet, bindS, bindSs, ownB, ownBs, putS, bind, ret, lift, dat, B.dat, SB.toD, O.toD, SB.obj, SB.put, mK, mP, mV, mMv, mIx, ixB, iIx, WF.atI, mAdd, mSub, mMul, mFdiv, mMod, mPow, mNeg, mUn, mOp, iAdd, iSub, iMul, iFdiv, iMod, iPow, smallI, mInt, iInt, mLen, iLen, dLen, mEq, mNe, mGt, mLt, mGe, mLe, iEq, iNe, iGt, iLt, iGe, iLe, boo, tV, tAnd, tOr, tNot, D.tru, D.dep, D.deps, D.eqv, D.eqvs, mHas, kept, dats, datsL, noPl, putO, setAt, outs, Env.at, mCons, mNil, List.range_succ, mOr, mAnd, mNot, mIf, mIsA, iIsA, isA, D.boolV, mIn, mNin, iIn, iNin, isIn, memD, keyOf, keyS, mLeLe, mAll, mAny, iAll, iAny, bools, mTuple, iTuple, mList, iList, mCall, callF, nodupN, lent, handL, handB, backL, backB, mComp, compGo, free, noExc, clr, back, Tg.slots, putTg, putSs, items, dItems, itZip, iZip2, zipD, itEnum, enumD, upto, itRange, yes, mTup, mLst, mTp, few, sbBs, sbB, mSl, mEnd, iSl, endI, clip, cutL, mSplit, iSplit, splitT, mSorted, iSorted, forGo, mApp, addAt, isLstO, numB]
def wordB (d : D) : Bool := eqS d t_always || eqS d t_bar || eqS d t_no || eqS d t_once
theorem word_spec {v : D} (h : D.dep v ≤ 60) : f_is_word [.sh v] = some (.ok (.sh (.bl (wordB v))), [none]) := by
  have nd := nodic h (by decide)
  cases v with
  | dic t kvs => exact absurd rfl (nd t kvs)
  | str s =>
    have cm : ∀ t : Txt, (t == s) = (s == t) := fun t => BEq.comm
    simp [f_is_word, mkFn, sSeq, sSet, sIf, sRet, sDrop, sPass, sPar, sFor, sRaise, sIxSet, bindS, bindSs, ownB, ownBs, putS, bind, ret, lift, dat, B.dat, SB.toD, O.toD, SB.obj, SB.put, mK, mP, mV, mMv, mIx, ixB, iIx, WF.atI, mAdd, mSub, mMul, mFdiv, mMod, mPow, mNeg, mUn, mOp, iAdd, iSub, iMul, iFdiv, iMod, iPow, smallI, mInt, iInt, mLen, iLen, dLen, mEq, mNe, mGt, mLt, mGe, mLe, iEq, iNe, iGt, iLt, iGe, iLe, boo, tV, tAnd, tOr, tNot, D.tru, D.dep, D.deps, D.eqv, D.eqvs, mHas, kept, dats, datsL, noPl, putO, setAt, outs, Env.at, mCons, mNil, List.range_succ, mOr, mAnd, mNot, mIf, mIsA, iIsA, isA, D.boolV, mIn, mNin, iIn, iNin, isIn, memD, keyOf, keyS, mLeLe, mAll, mAny, iAll, iAny, bools, mTuple, iTuple, mList, iList, mCall, callF, nodupN, lent, handL, handB, backL, backB, mComp, compGo, free, noExc, clr, back, Tg.slots, putTg, putSs, items, dItems, itZip, iZip2, zipD, itEnum, enumD, upto, itRange, yes, mTup, mLst, mTp, few, sbBs, sbB, mSl, mEnd, iSl, endI, clip, cutL, mSplit, iSplit, splitT, mSorted, iSorted, forGo, mApp, addAt, isLstO, wordB, eqS, c_WORDS, cm, Bool.or_assoc]
  | _ => simp [f_is_word, mkFn, sSeq, sSet, sIf, sRet, sDrop, sPass, sPar, sFor, sRaise, sIxSet, bindS, bindSs, ownB, ownBs, putS, bind, ret, lift, dat, B.dat, SB.toD, O.toD, SB.obj, SB.put, mK, mP, mV, mMv, mIx, ixB, iIx, WF.atI, mAdd, mSub, mMul, mFdiv, mMod, mPow, mNeg, mUn, mOp, iAdd, iSub, iMul, iFdiv, iMod, iPow, smallI, mInt, iInt, mLen, iLen, dLen, mEq, mNe, mGt, mLt, mGe, mLe, iEq, iNe, iGt, iLt, iGe, iLe, boo, tV, tAnd, tOr, tNot, D.tru, D.dep, D.deps, D.eqv, D.eqvs, mHas, kept, dats, datsL, noPl, putO, setAt, outs, Env.at, mCons, mNil, List.range_succ, mOr, mAnd, mNot, mIf, mIsA, iIsA, isA, D.boolV, mIn, mNin, iIn, iNin, isIn, memD, keyOf, keyS, mLeLe, mAll, mAny, iAll, iAny, bools, mTuple, iTuple, mList, iList, mCall, callF, nodupN, lent, handL, handB, backL, backB, mComp, compGo, free, noExc, clr, back, Tg.slots, putTg, putSs, items, dItems, itZip, iZip2, zipD, itEnum, enumD, upto, itRange, yes, mTup, mLst, mTp, few, sbBs, sbB, mSl, mEnd, iSl, endI, clip, cutL, mSplit, iSplit, splitT, mSorted, iSorted, forGo, mApp, addAt, isLstO, wordB, eqS]
def eventB (d : D) : Bool := match d with
  | .tup [a] => eqS a t_morning
  | .tup [a, b] => (eqS a t_come && numB b 2) || ((eqS a t_clear || eqS a t_court || eqS a t_paper) && numB b 1)
  | .tup [a, b, c] => eqS a t_say && (numB b 1 && wordB c)
  | _ => false
theorem nd_mem {xs : List D} {n : Nat} (h : D.dep (.tup xs) ≤ n + 1) (hn : n < 1000) : ∀ x ∈ xs, ∀ t kvs, x ≠ .dic t kvs := fun x m => nodic (dep_tup h x m) hn
end K01
end WF

set_option Elab.async false
set_option linter.all false
set_option maxRecDepth 100000
set_option maxHeartbeats 400000
/-! P2_k01: events, rows. -/
namespace WF
namespace K01
theorem num_call {ρ ρ1 : Env} {a : M B} {x : D} {hi : Int} (ha : a ρ = some (.ok (.sh x), ρ1)) (h : D.dep x ≤ 60) : mCall f_is_number (mCons a (mCons (mK (.int hi)) mNil)) ρ = some (.ok (.sh (.bl (numB x hi))), ρ1) :=
  mCall_sh (ds := [x, .int hi]) (mCons_eq ha (mCons_eq (ρ1 := ρ1) rfl mNil_eq)) (number_spec h)
theorem word_call {ρ ρ1 : Env} {a : M B} {x : D} (ha : a ρ = some (.ok (.sh x), ρ1)) (h : D.dep x ≤ 60) : mCall f_is_word (mCons a mNil) ρ = some (.ok (.sh (.bl (wordB x))), ρ1) :=
  mCall_sh (ds := [x]) (mCons_eq ha mNil_eq) (word_spec h)
theorem lenEq {s : D} {r : List D} {n : Int} : mEq (mLen (mP 0)) (mK (.int n)) [some (.sh (.tup (s :: r)))] = some (.ok (.sh (.bl ((r.length : Int) + 1 == n))), [some (.sh (.tup (s :: r)))]) := by
  refine mOp_sh (x := .int ((s :: r).length : Int)) (mUn_sh (mP_sh rfl) rfl) rfl ?_
  rw [eq_bl (Nat.zero_le _) (Nat.zero_le _), List.length_cons]
  rfl
theorem event_str {s : Txt} {r : List D} (k : ∀ x ∈ r, D.dep x ≤ 58) (hv : D.dep (.tup (.str s :: r)) ≤ 60) : f_is_event [.sh (.tup (.str s :: r))] = some (.ok (.sh (.bl (eventB (.tup (.str s :: r))))), [none]) := by
  refine fn_rt (ρ := [some (.sh (.tup (.str s :: r)))]) rfl ?_
  have at0 : mIx (mP 0) (mK (.int 0)) [some (.sh (.tup (.str s :: r)))] = some (.ok (.sh (.str s)), [some (.sh (.tup (.str s :: r)))]) := rfl
  have is : ∀ t : Txt, tV (mEq (mIx (mP 0) (mK (.int 0))) (mK (.str t))) [some (.sh (.tup (.str s :: r)))] = some (.ok (s == t), [some (.sh (.tup (.str s :: r)))]) := fun t => tV_bl (mOp_sh at0 rfl (eq_bl (Nat.zero_le _) (Nat.zero_le _)))
  have g0 : tOr (tNot (tV (mIsA .tuple (mP 0)))) (tOr (tV (mEq (mP 0) (mK (.tup [])))) (tNot (tV (mIsA .str (mIx (mP 0) (mK (.int 0))))))) [some (.sh (.tup (.str s :: r)))] = some (.ok false, [some (.sh (.tup (.str s :: r)))]) := by
    exact tOr_eq (p := false) (q := false) rfl fun _ => tOr_eq (p := false) (q := false) (tV_bl (mOp_sh (mP_sh rfl) rfl (eq_bl hv (by decide)))) fun _ => rfl
  show sSeq _ _ [some (.sh (.tup (.str s :: r)))] = _
  rw [guard_no g0, guard_eq (is t_morning) fun _ => lenEq]
  have len_ne : ∀ {m : Nat} {n : Int}, (m : Int) ≠ n → ((m : Int) == n) = false := fun h => beq_false_of_ne h
  by_cases hm : s = t_morning
  · subst hm
    rw [if_pos (beq_self_eq_true _)]
    match r with
    | [] => rfl
    | [b] => rfl
    | [b, c] => rfl
    | b :: c :: e :: r' =>
      have : ((((b :: c :: e :: r').length : Nat) : Int) + 1 == 1) = false := beq_false_of_ne (by simp; omega)
      rw [this]
      rfl
  rw [if_neg (by simp [hm])]
  have go : ∀ {n : Int} {m : M B} {q : Bool}, (∀ (h : (r.length : Int) + 1 = n), m [some (.sh (.tup (.str s :: r)))] = some (.ok (.sh (.bl q)), [some (.sh (.tup (.str s :: r)))])) →
      mAnd (mEq (mLen (mP 0)) (mK (.int n))) m [some (.sh (.tup (.str s :: r)))] = some (.ok (.sh (.bl ((r.length : Int) + 1 == n && q))), [some (.sh (.tup (.str s :: r)))]) := fun h => mAnd_bl lenEq fun e => h (eq_of_beq e)
  have at1 : ∀ {b : D} {r' : List D}, r = b :: r' → mIx (mP 0) (mK (.int 1)) [some (.sh (.tup (.str s :: r)))] = some (.ok (.sh b), [some (.sh (.tup (.str s :: r)))]) := fun e => by subst e; rfl
  have at2 : ∀ {b c : D} {r' : List D}, r = b :: c :: r' → mIx (mP 0) (mK (.int 2)) [some (.sh (.tup (.str s :: r)))] = some (.ok (.sh c), [some (.sh (.tup (.str s :: r)))]) := fun e => by subst e; rfl
  have L1 : ∀ (n : Int), (r.length : Int) + 1 = n → r.length = (n - 1).toNat := fun n h => by omega
  by_cases hs : s = t_say
  · subst hs
    rw [guard_eq (d := .bl ((r.length : Int) + 1 == 3 && (match r with | [b, c] => numB b 1 && wordB c | _ => false))) (is t_say) fun _ => go fun h => ?_]
    · rw [if_pos (beq_self_eq_true _)]
      match r with
      | [] => rfl
      | [b] => rfl
      | [b, c] => rfl
      | b :: c :: e :: r' =>
        show some (Res.ok (Fl.rt (.sh (.bl (_ && false)))), _) = _
        rw [Bool.and_false]
        rfl
    · match r, h with
      | [b, c], _ =>
        exact mAnd_bl (num_call (at1 rfl) (by have := k b (by simp); omega)) fun _ => word_call (at2 rfl) (by have := k c (by simp); omega)
      | [], h => simp at h
      | [b], h => simp at h
      | b :: c :: e :: r', h => simp at h; omega
  have n1 : tV (mEq (mIx (mP 0) (mK (.int 0))) (mK (.str t_say))) [some (.sh (.tup (.str s :: r)))] = some (.ok false, [some (.sh (.tup (.str s :: r)))]) := by rw [is]; simp [hs]
  rw [guard_no n1]
  by_cases hc : s = t_come
  · subst hc
    rw [guard_eq (d := .bl ((r.length : Int) + 1 == 2 && (match r with | [b] => numB b 2 | _ => false))) (is t_come) fun _ => go fun h => ?_]
    · rw [if_pos (beq_self_eq_true _)]
      match r with
      | [] => rfl
      | [b] =>
        show some (Res.ok (Fl.rt (.sh (.bl (numB b 2)))), _) = some (Res.ok (Fl.rt (.sh (.bl (numB b 2 || false)))), _)
        rw [Bool.or_false]
      | [b, c] => rfl
      | b :: c :: e :: r' =>
        show some (Res.ok (Fl.rt (.sh (.bl (_ && false)))), _) = _
        rw [Bool.and_false]
        rfl
    · match r, h with
      | [b], _ => exact num_call (at1 rfl) (by have := k b (by simp); omega)
      | [], h => simp at h
      | b :: c :: r', h => simp at h; omega
  have n2 : tV (mEq (mIx (mP 0) (mK (.int 0))) (mK (.str t_come))) [some (.sh (.tup (.str s :: r)))] = some (.ok false, [some (.sh (.tup (.str s :: r)))]) := by rw [is]; simp [hc]
  rw [guard_no n2]
  have mem : mIn (mIx (mP 0) (mK (.int 0))) (mK (.tup [.str t_clear, .str t_court, .str t_paper])) [some (.sh (.tup (.str s :: r)))] = some (.ok (.sh (.bl (eqS (.str s) t_clear || eqS (.str s) t_court || eqS (.str s) t_paper))), [some (.sh (.tup (.str s :: r)))]) := by
    refine mOp_sh at0 rfl ?_
    have cm : ∀ t : Txt, (t == s) = (s == t) := fun t => BEq.comm
    simp [iIn, isIn, D.dep, D.deps, memD, D.eqv, boo, eqS, cm, Bool.or_assoc]
  refine sRet_sh ?_
  have e1 : eventB (.tup (.str s :: r)) = ((eqS (.str s) t_clear || eqS (.str s) t_court || eqS (.str s) t_paper) && ((r.length : Int) + 1 == 2 && (match r with | [b] => numB b 1 | _ => false))) := by
    have z1 : eqS (.str s) t_morning = false := by simp [eqS, hm]
    have z2 : eqS (.str s) t_come = false := by simp [eqS, hc]
    have z3 : eqS (.str s) t_say = false := by simp [eqS, hs]
    match r with
    | [] => simp [eventB, z1]
    | [b] => simp [eventB, z2]
    | [b, c] => simp [eventB, z3]
    | b :: c :: e :: r' => simp [eventB]
  rw [e1]
  refine mAnd_bl mem fun _ => go fun h => ?_
  match r, h with
  | [b], _ => exact num_call (at1 rfl) (by have := k b (by simp); omega)
  | [], h => simp at h
  | b :: c :: r', h => simp at h; omega
theorem notStr_eventB {a : D} {r : List D} (h : ∀ s, a ≠ .str s) : eventB (.tup (a :: r)) = false := by
  have z : ∀ t, eqS a t = false := fun t => by
    cases a with
    | str s => exact absurd rfl (h s)
    | _ => rfl
  match r with
  | [] => simp [eventB, z]
  | [b] => simp [eventB, z]
  | [b, c] => simp [eventB, z]
  | b :: c :: e :: r' => simp [eventB]
theorem isA_notStr {a : D} (h : ∀ s, a ≠ .str s) (nd : ∀ t kvs, a ≠ .dic t kvs) : iIsA .str a = some (.sh (.bl false)) := by
  cases a with
  | str s => exact absurd rfl (h s)
  | dic t kvs => exact absurd rfl (nd t kvs)
  | _ => rfl
theorem event_spec {v : D} (h : D.dep v ≤ 59) : f_is_event [.sh v] = some (.ok (.sh (.bl (eventB v))), [none]) := by
  have nd := nodic h (by decide)
  cases v with
  | dic t kvs => exact absurd rfl (nd t kvs)
  | tup xs =>
    match xs with
    | [] => rfl
    | a :: r =>
      by_cases q : ∃ s, a = .str s
      · obtain ⟨s, rfl⟩ := q
        exact event_str (fun x m => dep_tup (n := 58) h x (List.mem_cons_of_mem _ m)) (by omega)
      · have q' : ∀ s, a ≠ .str s := fun s e => q ⟨s, e⟩
        have na := nd_mem (n := 58) h (by decide) a List.mem_cons_self
        rw [notStr_eventB q']
        refine fn_rt (ρ := [some (.sh (.tup (a :: r)))]) rfl ?_
        refine guard_yes ?_ rfl
        exact tOr_eq (p := false) (q := true) rfl fun _ => tOr_eq (p := false) (q := true) (tV_bl (mOp_sh (mP_sh rfl) rfl (eq_bl (by omega) (by decide)))) fun _ => tNot_eq (p := false) (tV_bl (mUn_sh (mIx_sh (mP_sh rfl) rfl rfl) (isA_notStr q' na)))
  | _ => rfl
/-! the law's own -/
theorem is_bl {v : D} (nd : ∀ t kvs, v ≠ .dic t kvs) (t : Ty) : iIsA t v = some (.sh (.bl (isA v t))) := by
  cases v with
  | dic t kvs => exact absurd rfl (nd t kvs)
  | _ => rfl
theorem numB_is {b : D} {hi : Int} : numB b hi = (!isA b .bool && isA b .int && (match b with | .int i => decide (0 ≤ i) && decide (i ≤ hi) | _ => false)) := by
  cases b <;> rfl
theorem wordB_is {b : D} : wordB b = (isA b .str && memD b [.str t_always, .str t_bar, .str t_no, .str t_once]) := by
  cases b with
  | str s =>
    have cm : ∀ t : Txt, (t == s) = (s == t) := fun t => BEq.comm
    simp [wordB, eqS, isA, memD, D.eqv, cm, Bool.or_assoc]
  | _ => rfl
theorem mLeLe_int {ρ : Env} {a b c : M B} {x y z : Int} (ha : a ρ = some (.ok (.sh (.int x)), ρ)) (hb : b ρ = some (.ok (.sh (.int y)), ρ)) (hc : c ρ = some (.ok (.sh (.int z)), ρ)) : mLeLe a b c ρ = some (.ok (.sh (.bl (decide (x ≤ y) && decide (y ≤ z)))), ρ) := by
  unfold mLeLe
  rw [bind_eq ha, bind_eq hb]
  show (match Res.ok (B.sh (.bl (decide (x ≤ y)))) with | .ok r => (match r with | .sh (.bl true) => bind c fun z => bind (dat z) fun g => lift (iLe (.int y) g) | .sh (.bl false) => ret (boo false) | _ => stuck) ρ | .exc c p => some (.exc c p, ρ)) = _
  cases decide (x ≤ y) with
  | true =>
    show bind c (fun z => bind (dat z) fun g => lift (iLe (.int y) g)) ρ = _
    rw [bind_eq hc]
    rfl
  | false => rfl
theorem tail_spec {s : Txt} {b : D} {r : List D} {hi : Int} {mh fin : M B} {q : Bool} (nb : ∀ t kvs, b ≠ .dic t kvs) (hh : mh [some (.sh (.tup (.str s :: b :: r)))] = some (.ok (.sh (.int hi)), [some (.sh (.tup (.str s :: b :: r)))])) (hf : fin [some (.sh (.tup (.str s :: b :: r)))] = some (.ok (.sh (.bl q)), [some (.sh (.tup (.str s :: b :: r)))])) :
    sSeq (sIf (tOr (tV (mIsA .bool (mIx (mP 0) (mK (.int 1))))) (tNot (tV (mIsA .int (mIx (mP 0) (mK (.int 1))))))) (sRet (mK (.bl false))) sPass)
      (sSeq (sIf (tNot (tV (mLeLe (mK (.int 0)) (mIx (mP 0) (mK (.int 1))) mh))) (sRet (mK (.bl false))) sPass) (sRet fin)) [some (.sh (.tup (.str s :: b :: r)))] = some (.ok (.rt (.sh (.bl (numB b hi && q)))), [some (.sh (.tup (.str s :: b :: r)))]) := by
  have at1 : mIx (mP 0) (mK (.int 1)) [some (.sh (.tup (.str s :: b :: r)))] = some (.ok (.sh b), [some (.sh (.tup (.str s :: b :: r)))]) := rfl
  have g4 : tOr (tV (mIsA .bool (mIx (mP 0) (mK (.int 1))))) (tNot (tV (mIsA .int (mIx (mP 0) (mK (.int 1)))))) [some (.sh (.tup (.str s :: b :: r)))] = some (.ok (isA b .bool || !isA b .int), [some (.sh (.tup (.str s :: b :: r)))]) :=
    tOr_eq (tV_bl (mUn_sh at1 (is_bl nb .bool))) fun _ => tNot_eq (tV_bl (mUn_sh at1 (is_bl nb .int)))
  cases b with
  | dic t kvs => exact absurd rfl (nb t kvs)
  | int i =>
    rw [guard_no g4]
    have g5 : tNot (tV (mLeLe (mK (.int 0)) (mIx (mP 0) (mK (.int 1))) mh)) [some (.sh (.tup (.str s :: .int i :: r)))] = some (.ok (!(decide (0 ≤ i) && decide (i ≤ hi))), [some (.sh (.tup (.str s :: .int i :: r)))]) := tNot_eq (tV_bl (mLeLe_int rfl at1 hh))
    rw [guard_eq (d := .bl false) g5 fun _ => rfl]
    have e : numB (.int i) hi = (decide (0 ≤ i) && decide (i ≤ hi)) := rfl
    rw [e]
    cases hq : (decide (0 ≤ i) && decide (i ≤ hi)) with
    | true =>
      rw [if_neg (by simp)]
      exact sRet_sh hf
    | false => rfl
  | _ => exact guard_yes g4 rfl
theorem ne_len {s : D} {r : List D} {mn : M B} {n : Int} (hn : mn [some (.sh (.tup (s :: r)))] = some (.ok (.sh (.int n)), [some (.sh (.tup (s :: r)))])) : tV (mNe (mLen (mP 0)) mn) [some (.sh (.tup (s :: r)))] = some (.ok (!((r.length : Int) + 1 == n)), [some (.sh (.tup (s :: r)))]) := by
  refine tV_bl (mOp_sh (x := .int ((s :: r).length : Int)) (mUn_sh (mP_sh rfl) rfl) hn ?_)
  rw [ne_bl (Nat.zero_le _) (Nat.zero_le _), List.length_cons]
  rfl
theorem word1 (s : Txt) : s = t_morning ∨ s = t_say ∨ s = t_come ∨ s = t_clear ∨ s = t_court ∨ s = t_paper ∨ ((s == t_morning) = false ∧ (s == t_say) = false ∧ (s == t_come) = false ∧ (s == t_clear) = false ∧ (s == t_court) = false ∧ (s == t_paper) = false) := by
  by_cases h1 : s = t_morning
  · exact .inl h1
  by_cases h2 : s = t_say
  · exact .inr (.inl h2)
  by_cases h3 : s = t_come
  · exact .inr (.inr (.inl h3))
  by_cases h4 : s = t_clear
  · exact .inr (.inr (.inr (.inl h4)))
  by_cases h5 : s = t_court
  · exact .inr (.inr (.inr (.inr (.inl h5))))
  by_cases h6 : s = t_paper
  · exact .inr (.inr (.inr (.inr (.inr (.inl h6)))))
  exact .inr (.inr (.inr (.inr (.inr (.inr ⟨beq_false_of_ne h1, beq_false_of_ne h2, beq_false_of_ne h3, beq_false_of_ne h4, beq_false_of_ne h5, beq_false_of_ne h6⟩)))))
theorem law_event_str {s : Txt} {r : List D} (kd : ∀ x ∈ r, ∀ t kvs, x ≠ .dic t kvs) (k : ∀ x ∈ r, D.dep x ≤ 58) (hv : D.dep (.tup (.str s :: r)) ≤ 60) : f__law_is_event [.sh (.tup (.str s :: r))] = some (.ok (.sh (.bl (eventB (.tup (.str s :: r))))), [none]) := by
  refine fn_rt (ρ := [some (.sh (.tup (.str s :: r)))]) rfl ?_
  have at0 : mIx (mP 0) (mK (.int 0)) [some (.sh (.tup (.str s :: r)))] = some (.ok (.sh (.str s)), [some (.sh (.tup (.str s :: r)))]) := rfl
  have is : ∀ t : Txt, tV (mEq (mIx (mP 0) (mK (.int 0))) (mK (.str t))) [some (.sh (.tup (.str s :: r)))] = some (.ok (s == t), [some (.sh (.tup (.str s :: r)))]) := fun t => tV_bl (mOp_sh at0 rfl (eq_bl (Nat.zero_le _) (Nat.zero_le _)))
  have g0 : tOr (tNot (tV (mIsA .tuple (mP 0)))) (tOr (tV (mEq (mP 0) (mK (.tup [])))) (tNot (tV (mIsA .str (mIx (mP 0) (mK (.int 0))))))) [some (.sh (.tup (.str s :: r)))] = some (.ok false, [some (.sh (.tup (.str s :: r)))]) :=
    tOr_eq (p := false) (q := false) rfl fun _ => tOr_eq (p := false) (q := false) (tV_bl (mOp_sh (mP_sh rfl) rfl (eq_bl hv (by decide)))) fun _ => rfl
  show sSeq _ _ [some (.sh (.tup (.str s :: r)))] = _
  rw [guard_no g0, guard_eq (is t_morning) fun _ => lenEq]
  by_cases hm : s = t_morning
  · subst hm
    rw [if_pos (beq_self_eq_true _)]
    match r with
    | [] => rfl
    | [b] => rfl
    | [b, c] => rfl
    | b :: c :: e :: r' =>
      have : ((((b :: c :: e :: r').length : Nat) : Int) + 1 == 1) = false := beq_false_of_ne (by simp; omega)
      rw [this]
      rfl
  rw [if_neg (by simp [hm])]
  have nin : tV (mNin (mIx (mP 0) (mK (.int 0))) (mK (.tup [.str t_clear, .str t_come, .str t_court, .str t_paper, .str t_say]))) [some (.sh (.tup (.str s :: r)))] = some (.ok (!memD (.str s) [.str t_clear, .str t_come, .str t_court, .str t_paper, .str t_say]), [some (.sh (.tup (.str s :: r)))]) := by
    refine tV_bl (mOp_sh at0 rfl ?_)
    simp [iNin, isIn, D.dep, D.deps, boo]
  have want : ∀ t n : Int, mIf (tV (mEq (mIx (mP 0) (mK (.int 0))) (mK (.str t_say)))) (mK (.int t)) (mK (.int n)) [some (.sh (.tup (.str s :: r)))] = some (.ok (.sh (.int (if s == t_say then t else n))), [some (.sh (.tup (.str s :: r)))]) := fun t n => by
    rw [mIf_eq (is t_say)]
    cases s == t_say <;> rfl
  have hiM : mIf (tV (mEq (mIx (mP 0) (mK (.int 0))) (mK (.str t_come)))) (mK (.int 2)) (mK (.int 1)) [some (.sh (.tup (.str s :: r)))] = some (.ok (.sh (.int (if s == t_come then 2 else 1))), [some (.sh (.tup (.str s :: r)))]) := by
    rw [mIf_eq (is t_come)]
    cases s == t_come <;> rfl
  have g3 := tOr_eq nin fun _ => ne_len (want 3 2)
  have eL : ∀ t : Txt, (t == s) = (s == t) := fun t => BEq.comm
  -- the words with one number behind them
  have two : (s == t_say) = false → memD (.str s) [.str t_clear, .str t_come, .str t_court, .str t_paper, .str t_say] = true → eventB (.tup (.str s :: r)) = (match r with | [b] => numB b (if s == t_come then 2 else 1) | _ => false) →
      sSeq (sIf (tOr (tV (mNin (mIx (mP 0) (mK (.int 0))) (mK (.tup [.str t_clear, .str t_come, .str t_court, .str t_paper, .str t_say])))) (tV (mNe (mLen (mP 0)) (mIf (tV (mEq (mIx (mP 0) (mK (.int 0))) (mK (.str t_say)))) (mK (.int 3)) (mK (.int 2)))))) (sRet (mK (.bl false))) sPass)
        (sSeq (sIf (tOr (tV (mIsA .bool (mIx (mP 0) (mK (.int 1))))) (tNot (tV (mIsA .int (mIx (mP 0) (mK (.int 1))))))) (sRet (mK (.bl false))) sPass)
          (sSeq (sIf (tNot (tV (mLeLe (mK (.int 0)) (mIx (mP 0) (mK (.int 1))) (mIf (tV (mEq (mIx (mP 0) (mK (.int 0))) (mK (.str t_come)))) (mK (.int 2)) (mK (.int 1)))))) (sRet (mK (.bl false))) sPass)
            (sRet (mOr (mEq (mLen (mP 0)) (mK (.int 2))) (mAnd (mIsA .str (mIx (mP 0) (mK (.int 2)))) (mIn (mIx (mP 0) (mK (.int 2))) (mK (.tup [.str t_always, .str t_bar, .str t_no, .str t_once]))))))))
        [some (.sh (.tup (.str s :: r)))] = some (.ok (.rt (.sh (.bl (eventB (.tup (.str s :: r)))))), [some (.sh (.tup (.str s :: r)))]) := fun hsay hmem he => by
    rw [hsay, hmem] at g3
    rw [he]
    match r with
    | [b] =>
      rw [guard_no g3]
      have := tail_spec (s := s) (r := []) (kd b (by simp)) hiM (fin := mOr (mEq (mLen (mP 0)) (mK (.int 2))) (mAnd (mIsA .str (mIx (mP 0) (mK (.int 2)))) (mIn (mIx (mP 0) (mK (.int 2))) (mK (.tup [.str t_always, .str t_bar, .str t_no, .str t_once]))))) (q := true)
        ((mOr_eq lenEq).trans rfl)
      rw [Bool.and_true] at this
      exact this
    | [] => exact guard_yes g3 rfl
    | b :: c :: r' =>
      have z : (!true || !((((b :: c :: r').length : Nat) : Int) + 1 == (if false = true then (3 : Int) else 2))) = true := by simp; omega
      rw [z] at g3
      exact guard_yes g3 rfl
  rcases word1 s with rfl | rfl | rfl | rfl | rfl | rfl | ⟨h1, h2, h3, h4, h5, h6⟩
  · exact absurd rfl hm
  · -- say
    match r with
    | [b, c] =>
      rw [guard_no g3]
      have e1 : eventB (.tup [.str t_say, b, c]) = (numB b 1 && wordB c) := rfl
      rw [e1]
      refine tail_spec (kd b (by simp)) hiM ?_
      rw [wordB_is]
      refine mOr_bl (p := false) lenEq fun _ => mAnd_bl (mUn_sh (mIx_sh (z := c) (mP_sh rfl) rfl rfl) (is_bl (kd c (by simp)) .str)) fun _ => mOp_sh (x := c) (mIx_sh (z := c) (mP_sh rfl) rfl rfl) rfl ?_
      have := k c (by simp)
      simp [iIn, isIn, boo, D.deps, D.dep, show D.dep c ≤ 60 by omega]
    | [] => exact guard_yes g3 rfl
    | [b] =>
      have e1 : eventB (.tup [.str t_say, b]) = false := rfl
      rw [e1]
      exact guard_yes g3 rfl
    | b :: c :: e :: r' =>
      have z : (!memD (.str t_say) [.str t_clear, .str t_come, .str t_court, .str t_paper, .str t_say] || !((((b :: c :: e :: r').length : Nat) : Int) + 1 == 3)) = true := by simp; omega
      have g3' := g3
      rw [show (if (t_say == t_say) = true then (3 : Int) else 2) = 3 from rfl] at g3'
      rw [z] at g3'
      exact guard_yes g3' rfl
  · refine two rfl rfl ?_
    match r with
    | [b] => show (numB b 2 || false) = _; rw [Bool.or_false]; rfl
    | [] => rfl
    | [b, c] => rfl
    | b :: c :: e :: r' => rfl
  · refine two rfl rfl ?_
    match r with
    | [b] => rfl
    | [] => rfl
    | [b, c] => rfl
    | b :: c :: e :: r' => rfl
  · refine two rfl rfl ?_
    match r with
    | [b] => rfl
    | [] => rfl
    | [b, c] => rfl
    | b :: c :: e :: r' => rfl
  · refine two rfl rfl ?_
    match r with
    | [b] => rfl
    | [] => rfl
    | [b, c] => rfl
    | b :: c :: e :: r' => rfl
  · have z : memD (.str s) [.str t_clear, .str t_come, .str t_court, .str t_paper, .str t_say] = false := by
      simp only [memD, List.any_cons, List.any_nil, D.eqv, eL, h2, h3, h4, h5, h6, Bool.or_false]
    have e1 : eventB (.tup (.str s :: r)) = false := by
      match r with
      | [] => exact h1
      | [b] => simp only [eventB, eqS, h3, h4, h5, h6, Bool.false_and, Bool.or_false]
      | [b, c] => simp only [eventB, eqS, h2, Bool.false_and]
      | b :: c :: e :: r' => rfl
    rw [e1]
    rw [z] at g3
    exact guard_yes g3 rfl
theorem law_event_spec {v : D} (h : D.dep v ≤ 59) : f__law_is_event [.sh v] = some (.ok (.sh (.bl (eventB v))), [none]) := by
  have nd := nodic h (by decide)
  cases v with
  | dic t kvs => exact absurd rfl (nd t kvs)
  | tup xs =>
    match xs with
    | [] => rfl
    | a :: r =>
      by_cases q : ∃ s, a = .str s
      · obtain ⟨s, rfl⟩ := q
        exact law_event_str (fun x m => nd_mem (n := 58) h (by decide) x (List.mem_cons_of_mem _ m)) (fun x m => dep_tup (n := 58) h x (List.mem_cons_of_mem _ m)) (by omega)
      · have q' : ∀ s, a ≠ .str s := fun s e => q ⟨s, e⟩
        have na := nd_mem (n := 58) h (by decide) a List.mem_cons_self
        rw [notStr_eventB q']
        refine fn_rt (ρ := [some (.sh (.tup (a :: r)))]) rfl ?_
        refine guard_yes ?_ rfl
        exact tOr_eq (p := false) (q := true) rfl fun _ => tOr_eq (p := false) (q := true) (tV_bl (mOp_sh (mP_sh rfl) rfl (eq_bl (by omega) (by decide)))) fun _ => tNot_eq (p := false) (tV_bl (mUn_sh (mIx_sh (mP_sh rfl) rfl rfl) (isA_notStr q' na)))
  | _ => rfl
end K01
end WF

set_option Elab.async false
set_option linter.all false
set_option maxRecDepth 100000
set_option maxHeartbeats 400000
/-! P3_k01: rows. -/
namespace WF
namespace K01
theorem dep_le {xs : List D} {n : Nat} (h : ∀ x ∈ xs, D.dep x ≤ n) : D.deps xs ≤ n := by
  induction xs with
  | nil => exact Nat.zero_le _
  | cons y ys ih =>
    have h1 := h y List.mem_cons_self
    have h2 := ih fun x m => h x (List.mem_cons_of_mem _ m)
    show max (D.dep y) (D.deps ys) ≤ n
    omega
def rowB (v : D) : Bool := match v with | .tup xs => decide (xs.length ≤ 60) && xs.all eventB | _ => false
theorem are_events_spec {v : D} (h : D.dep v ≤ 60) (hz : ∀ xs, v = .tup xs → xs.length ≤ LIM) : f_are_events [.sh v] = some (.ok (.sh (.bl (rowB v))), [none]) := by
  have nd := nodic h (by decide)
  cases v with
  | dic t kvs => exact absurd rfl (nd t kvs)
  | tup xs =>
    have k := dep_tup (n := 59) h
    refine fn_rt (ρ := [some (.sh (.tup xs)), none]) rfl ?_
    refine sRet_sh ?_
    have c : mComp (.one 1) (items (mV 0)) yes ce0_are_events [some (.sh (.tup xs)), none] = some (.ok (.ow (.lst (xs.filterMap fun d => some (.bl (eventB d))))), [some (.sh (.tup xs)), none]) :=
      mComp_pure (i := 1) _ (items_sh (mV_sh rfl) rfl) (by simp) rfl (hz xs rfl) fun d m => .inr ⟨_, rfl, rfl, mCall_sh (ds := [d]) (mCons_eq (mV_sh rfl) mNil_eq) (event_spec (k d m))⟩
    rw [filterMap_some] at c
    have hl : mLe (mLen (mP 0)) (mK c_MOST_EVENTS) [some (.sh (.tup xs)), none] = some (.ok (.sh (.bl (decide ((xs.length : Int) ≤ 60)))), [some (.sh (.tup xs)), none]) := rfl
    have := mAnd_bl (p := true) (a := mIsA .tuple (mP 0)) (ρ := [some (.sh (.tup xs)), none]) rfl fun _ => mAnd_bl hl fun _ => all_ow c
    have e : rowB (.tup xs) = (true && (decide ((xs.length : Int) ≤ 60) && xs.all eventB)) := by
      have : decide ((xs.length : Int) ≤ 60) = decide (xs.length ≤ 60) := by
        by_cases q : xs.length ≤ 60
        · rw [decide_eq_true q, decide_eq_true (by omega)]
        · rw [decide_eq_false q, decide_eq_false (by omega)]
      rw [this]; rfl
    rw [e]
    exact this
  | _ => rfl
theorem is_row_spec {v : D} (h : D.dep v ≤ 60) (hz : ∀ xs, v = .tup xs → xs.length ≤ LIM) : f_is_row [.sh v] = some (.ok (.sh (.bl (rowB v))), [none]) := by
  refine fn_rt (ρ := [some (.sh v)]) rfl ?_
  exact sRet_sh (mCall_sh (ds := [v]) (mCons_eq (mP_sh rfl) mNil_eq) (are_events_spec h hz))
theorem filter_none {p : D → Bool} : ∀ ds : List D, (ds.filterMap fun d => if p d then none else some d) = ds.filter fun d => !p d
  | [] => rfl
  | d :: ds => by
    have ih := filter_none (p := p) ds
    cases h : p d with
    | true => rw [List.filterMap_cons_none (by rw [h]; rfl), List.filter_cons_of_neg (by rw [h]; decide), ih]
    | false => rw [List.filterMap_cons_some (b := d) (by rw [h]; rfl), List.filter_cons_of_pos (by rw [h]; decide), ih]
theorem law_is_row_spec {v : D} (h : D.dep v ≤ 59) (hz : ∀ xs, v = .tup xs → xs.length ≤ LIM) : f__law_is_row [.sh v] = some (.ok (.sh (.bl (rowB v))), [none]) := by
  have nd := nodic h (by decide)
  cases v with
  | dic t kvs => exact absurd rfl (nd t kvs)
  | tup xs =>
    have k := dep_tup (n := 58) h
    refine fn_rt (ρ := [some (.sh (.tup xs)), none]) rfl ?_
    have g : tOr (tNot (tV (mIsA .tuple (mP 0)))) (tV (mGt (mLen (mP 0)) (mK (.int 60)))) [some (.sh (.tup xs)), none] = some (.ok (decide ((60 : Int) < xs.length)), [some (.sh (.tup xs)), none]) := by
      have := tOr_eq (a := tNot (tV (mIsA .tuple (mP 0)))) (b := tV (mGt (mLen (mP 0)) (mK (.int 60)))) (ρ := [some (.sh (.tup xs)), none]) (p := false) (q := decide ((60 : Int) < xs.length)) rfl fun _ => rfl
      rw [Bool.false_or] at this
      exact this
    show sSeq _ _ [some (.sh (.tup xs)), none] = _
    rw [guard_eq (d := .bl false) g fun _ => rfl]
    by_cases hl : xs.length ≤ 60
    · rw [if_neg (by simp; omega)]
      have c : mComp (.one 1) (items (mV 0)) cc0__law_is_row ce0__law_is_row [some (.sh (.tup xs)), none] = some (.ok (.ow (.lst (xs.filterMap fun d => if eventB d then none else some d))), [some (.sh (.tup xs)), none]) :=
        mComp_pure (i := 1) _ (items_sh (mV_sh rfl) rfl) (by simp) rfl (hz xs rfl) fun d m => by
          have ec : cc0__law_is_row [some (.sh (.tup xs)), some (.sh d)] = some (.ok (!eventB d), [some (.sh (.tup xs)), some (.sh d)]) := tNot_eq (tV_bl (mCall_sh (ds := [d]) (mCons_eq (mV_sh rfl) mNil_eq) (law_event_spec (by have := k d m; omega))))
          cases q : eventB d with
          | true => rw [q] at ec; exact .inl ⟨rfl, ec⟩
          | false => rw [q] at ec; exact .inr ⟨d, rfl, ec, rfl⟩
      rw [filter_none] at c
      refine sRet_sh ?_
      have dp : D.dep (.lst (xs.filter fun d => !eventB d)) ≤ 60 := by
        have := dep_le (n := 58) (xs := xs.filter fun d => !eventB d) fun x m => k x (List.mem_filter.mp m).1
        show D.deps _ + 1 ≤ 60
        omega
      refine mOp_dat (dx := .lst (xs.filter fun d => !eventB d)) (dy := .lst []) c (b := mLst (ret (List.map B.sh []))) (ρ2 := [some (.sh (.tup xs)), none]) (y := .ow (.lst [])) rfl rfl rfl ?_
      rw [eq_bl dp (by decide)]
      have e : D.eqv (.lst (xs.filter fun d => !eventB d)) (.lst []) = rowB (.tup xs) := by
        show D.eqvs _ [] = (decide (xs.length ≤ 60) && xs.all eventB)
        rw [decide_eq_true hl, Bool.true_and]
        cases q : xs.all eventB with
        | true =>
          have : (xs.filter fun d => !eventB d) = [] := List.filter_eq_nil_iff.mpr fun d m => by
            have := List.all_eq_true.mp q d m
            simp [this]
          rw [this]
          rfl
        | false =>
          cases hf : xs.filter fun d => !eventB d with
          | nil =>
            have := List.filter_eq_nil_iff.mp hf
            have : xs.all eventB = true := List.all_eq_true.mpr fun d m => by
              have := this d m
              simpa using this
            rw [this] at q
            cases q
          | cons a r => rfl
      rw [e]
    · rw [if_pos (by simp; omega)]
      have : rowB (.tup xs) = false := by simp [rowB, hl]
      rw [this]
  | _ => rfl
end K01
end WF

set_option Elab.async false
set_option linter.all false
set_option maxRecDepth 100000
set_option maxHeartbeats 1000000
/-! P4_k01: rules that are near. -/
namespace WF
namespace K01
mutual
/-- the very same data -/
def same : D → D → Bool
  | .non, .non => true
  | .bl a, .bl b => a == b
  | .int i, .int j => i == j
  | .str x, .str y => x == y
  | .tup xs, .tup ys => sames xs ys
  | .lst xs, .lst ys => sames xs ys
  | _, _ => false
def sames : List D → List D → Bool
  | [], [] => true
  | x :: xs, y :: ys => same x y && sames xs ys
  | _, _ => false
end
mutual
theorem same_eq : ∀ x y : D, same x y = true → x = y
  | .non, y, h => by cases y <;> first | rfl | cases h
  | .bl a, y, h => by cases y <;> first | (cases h; done) | (have h' : (a == _) = true := h; rw [eq_of_beq h'])
  | .int a, y, h => by cases y <;> first | (cases h; done) | (have h' : (a == _) = true := h; rw [eq_of_beq h'])
  | .str a, y, h => by cases y <;> first | (cases h; done) | (have h' : (a == _) = true := h; rw [eq_of_beq h'])
  | .tup xs, y, h => by
    cases y with
    | tup ys => rw [sames_eq xs ys h]
    | _ => cases h
  | .lst xs, y, h => by
    cases y with
    | lst ys => rw [sames_eq xs ys h]
    | _ => cases h
  | .dic _ _, y, h => by cases y <;> cases h
theorem sames_eq : ∀ xs ys : List D, sames xs ys = true → xs = ys
  | [], [], _ => rfl
  | [], _ :: _, h => by cases h
  | _ :: _, [], h => by cases h
  | x :: xs, y :: ys, h => by
    have h' : (same x y && sames xs ys) = true := h
    rw [Bool.and_eq_true] at h'
    rw [same_eq x y h'.1, sames_eq xs ys h'.2]
end
def vals : List (List D) := [[.str t_both, .str t_either, .str t_last], [.str t_own, .str t_win], [.str t_morning, .str t_now], [.str t_morning, .str t_now], [.str t_day, .str t_use], [.bl false, .bl true], [.bl false, .bl true]]
def prods : List (List D) → List (List D)
  | [] => [[]]
  | xs :: r => xs.flatMap fun x => (prods r).map fun l => x :: l
def allRules : List D := (prods vals).map D.tup
theorem prods_mem : ∀ {vs : List (List D)} {l : List D}, l.length = vs.length → (∀ (i : Nat) x v, l[i]? = some x → vs[i]? = some v → x ∈ v) → l ∈ prods vs
  | [], [], _, _ => List.mem_cons_self
  | [], _ :: _, h, _ => by simp at h
  | _ :: _, [], h, _ => by simp at h
  | v :: vs, x :: l, h, k => by
    refine List.mem_flatMap.mpr ⟨x, k 0 x v rfl rfl, List.mem_map.mpr ⟨l, prods_mem (by simpa using h) fun i y w e1 e2 => k (i + 1) y w (by simpa using e1) (by simpa using e2), rfl⟩⟩
theorem eqS_is {a : D} {t : Txt} (h : eqS a t = true) : a = .str t := by
  cases a with
  | str s => rw [eq_of_beq (show (s == t) = true from h)]
  | _ => cases h
theorem eqB_is {a : D} {t : Bool} (h : eqB a t = true) : a = .bl t := by
  cases a with
  | bl s => rw [eq_of_beq (show (s == t) = true from h)]
  | _ => cases h
theorem rule_all {v : D} (h : ruleB v = true) : v ∈ allRules := by
  unfold ruleB at h
  split at h
  · rename_i a b c d e f g
    simp only [Bool.and_eq_true, Bool.or_eq_true] at h
    obtain ⟨⟨⟨⟨⟨⟨h1, h2⟩, h3⟩, h4⟩, h5⟩, h6⟩, h7⟩ := h
    refine List.mem_map.mpr ⟨_, prods_mem rfl fun i x v e1 e2 => ?_, rfl⟩
    match i with
    | 0 => simp at e1; simp [vals] at e2; subst e1; subst e2; rcases h1 with (q | q) | q <;> rw [eqS_is q] <;> simp
    | 1 => simp at e1; simp [vals] at e2; subst e1; subst e2; rcases h2 with q | q <;> rw [eqS_is q] <;> simp
    | 2 => simp at e1; simp [vals] at e2; subst e1; subst e2; rcases h3 with q | q <;> rw [eqS_is q] <;> simp
    | 3 => simp at e1; simp [vals] at e2; subst e1; subst e2; rcases h4 with q | q <;> rw [eqS_is q] <;> simp
    | 4 => simp at e1; simp [vals] at e2; subst e1; subst e2; rcases h5 with q | q <;> rw [eqS_is q] <;> simp
    | 5 => simp at e1; simp [vals] at e2; subst e1; subst e2; rcases h6 with q | q <;> rw [eqB_is q] <;> simp
    | 6 => simp at e1; simp [vals] at e2; subst e1; subst e2; rcases h7 with q | q <;> rw [eqB_is q] <;> simp
    | i + 7 => simp at e1
  · cases h
/-- the lists ahead of sorted -/
def preA (r : D) : Option (List D × Env) := match sSeq (sSet 1 (mLst (ret (List.map B.sh [])))) (sFor (.tup [2, 3]) (itEnum (mK c_VALUES)) fb0_rules_near) [some (.sh r), none, none, none, none] with
  | some (.ok .nx, ρ) => (match ρ with | [some (.sh _), some (.ow (.lst L)), _, _, _] => some (L, ρ) | _ => none)
  | _ => none
def preB (r : D) : Option (List D × Env) := match sSeq (sPar [1, 2] (mCons (mLst (ret (List.map B.sh []))) (mCons (mCall f__law_values mNil) mNil))) (sFor (.one 3) (itRange (mK (.int 7))) fb0__law_near) [some (.sh r), none, none, none, none] with
  | some (.ok .nx, ρ) => (match ρ with | [some (.sh _), some (.ow (.lst L)), _, _, _] => some (L, ρ) | _ => none)
  | _ => none
def check (r : D) : Bool := match preA r, preB r with
  | some (L, _), some (L', _) => sames L L' && (L.length == 8) && canSort L && decide (D.deps L ≤ 50)
  | _, _ => false
theorem all_check0 : ((allRules.drop 0).take 24).all check = true := by decide +kernel
theorem all_check1 : ((allRules.drop 24).take 24).all check = true := by decide +kernel
theorem all_check2 : ((allRules.drop 48).take 24).all check = true := by decide +kernel
theorem all_check3 : ((allRules.drop 72).take 24).all check = true := by decide +kernel
theorem all_check4 : ((allRules.drop 96).take 24).all check = true := by decide +kernel
theorem all_check5 : ((allRules.drop 120).take 24).all check = true := by decide +kernel
theorem all_check6 : ((allRules.drop 144).take 24).all check = true := by decide +kernel
theorem all_check7 : ((allRules.drop 168).take 24).all check = true := by decide +kernel
theorem all_check {r : D} (h : r ∈ allRules) : check r = true := by
  have e : allRules = (allRules.drop 0).take 24 ++ ((allRules.drop 24).take 24 ++ ((allRules.drop 48).take 24 ++ ((allRules.drop 72).take 24 ++ ((allRules.drop 96).take 24 ++ ((allRules.drop 120).take 24 ++ ((allRules.drop 144).take 24 ++ (allRules.drop 168).take 24)))))) := by rfl
  rw [e] at h
  simp only [List.mem_append] at h
  rcases h with h | h | h | h | h | h | h | h
  · exact List.all_eq_true.mp all_check0 r h
  · exact List.all_eq_true.mp all_check1 r h
  · exact List.all_eq_true.mp all_check2 r h
  · exact List.all_eq_true.mp all_check3 r h
  · exact List.all_eq_true.mp all_check4 r h
  · exact List.all_eq_true.mp all_check5 r h
  · exact List.all_eq_true.mp all_check6 r h
  · exact List.all_eq_true.mp all_check7 r h
end K01
end WF

set_option Elab.async false
set_option linter.all false
set_option maxRecDepth 100000
set_option maxHeartbeats 1000000
/-! P5_k01: near, refused, right. -/
namespace WF
namespace K01
theorem mUn_dat {ρ ρ1 : Env} {f : D → Option B} {a : M B} {x : B} {d : D} {r : B} (ha : a ρ = some (.ok x, ρ1)) (hx : x.dat ρ1 = some d) (h : f d = some r) : mUn f a ρ = some (.ok r, ρ1) := by
  unfold mUn
  rw [bind_eq ha]
  have ex : dat x ρ1 = some (.ok d, ρ1) := by unfold dat; rw [hx]
  show bind (dat x) (fun d => lift (f d)) ρ1 = _
  rw [bind_eq ex]
  show lift (f d) ρ1 = _
  rw [h]
  rfl
theorem pre_sort {a b : S} {ρ ρ' : Env} {L : List D} {h : D} {x y z : Option SB} (e : sSeq a b ρ = some (.ok .nx, ρ')) (e' : ρ' = [some (.sh h), some (.ow (.lst L)), x, y, z]) (hc : canSort L = true) : ∃ ρ2, sSeq a (sSeq b (sRet (mSorted (mP 1)))) ρ = some (.ok (.rt (.ow (.lst (L.mergeSort leD)))), ρ2) ∧ outs 1 ρ2 = [none] := by
  subst e'
  refine ⟨[some (.sh h), some (.ow (.lst L)), x, y, z], ?_, rfl⟩
  rw [← sSeq_assoc, sSeq_nx e]
  refine sRet_ow ?_
  refine mUn_dat (x := .pl 1) (d := .lst L) rfl rfl ?_
  unfold iSorted
  simp only [hc, if_true]
/-- what near gives of a rule, here and in the law -/
theorem near_rule {r : D} (h : ruleB r = true) : ∃ L : List D, L.length = 8 ∧ D.deps L ≤ 50 ∧ f_rules_near [.sh r] = some (.ok (.ow (.lst (L.mergeSort leD))), [none]) ∧ f__law_near [.sh r] = some (.ok (.ow (.lst (L.mergeSort leD))), [none]) := by
  have hc := all_check (rule_all h)
  unfold check at hc
  split at hc
  · rename_i L ρ1 L' ρ2 e1 e2
    simp only [Bool.and_eq_true, decide_eq_true_eq, beq_iff_eq] at hc
    obtain ⟨⟨⟨h1, h2⟩, h3⟩, h4⟩ := hc
    have h1 := sames_eq L L' h1
    subst h1
    refine ⟨L, h2, h4, ?_, ?_⟩
    · unfold preA at e1
      split at e1
      · rename_i ρ em
        split at e1
        · cases e1
          obtain ⟨ρ2, g1, g2⟩ := pre_sort em rfl h3
          rw [← g2]
          exact fn_rt rfl g1
        · cases e1
      · cases e1
    · unfold preB at e2
      split at e2
      · rename_i ρ em
        split at e2
        · cases e2
          obtain ⟨ρ2, g1, g2⟩ := pre_sort em rfl h3
          rw [← g2]
          exact fn_rt rfl g1
        · cases e2
      · cases e2
  · cases hc
theorem need_spec {v : D} (h : D.dep v ≤ 60) : f_need_rule [.sh v] = some (if ruleB v then .ok (.sh .non) else .exc 1 none, [none]) := by
  have t : tNot (tV (mCall f_is_rule (mCons (mP 0) mNil))) [some (.sh v)] = some (.ok (!ruleB v), [some (.sh v)]) := tNot_eq (tV_bl (mCall_sh (ds := [v]) (mCons_eq (mP_sh rfl) mNil_eq) (is_rule_spec h)))
  have b := sIf_eq (a := sRaise 1) (b := sPass) t
  cases q : ruleB v with
  | true =>
    rw [q] at b
    exact fn_nx (ρ := [some (.sh v)]) rfl b
  | false =>
    rw [q] at b
    exact fn_exc (ρ := [some (.sh v)]) rfl b
theorem near_spec {v : D} (h : D.dep v ≤ 60) : (ruleB v = true → ∃ L : List D, L.length = 8 ∧ D.deps L ≤ 50 ∧ f_near [.sh v] = some (.ok (.ow (.lst (L.mergeSort leD))), [none]) ∧ f__law_near [.sh v] = some (.ok (.ow (.lst (L.mergeSort leD))), [none])) ∧ (ruleB v = false → f_near [.sh v] = some (.exc 1 none, [none])) := by
  have n : mCall f_need_rule (mCons (mP 0) mNil) [some (.sh v)] = some (if ruleB v then .ok (.sh .non) else .exc 1 none, [some (.sh v)]) := mCall_sh (ds := [v]) (mCons_eq (mP_sh rfl) mNil_eq) (need_spec h)
  refine ⟨fun q => ?_, fun q => ?_⟩
  · obtain ⟨L, h1, h2, h3, h4⟩ := near_rule q
    refine ⟨L, h1, h2, ?_, h4⟩
    rw [q] at n
    refine fn_rt (ρ := [some (.sh v)]) rfl ?_
    show sSeq _ _ [some (.sh v)] = _
    rw [sSeq_nx (sDrop_eq n)]
    exact sRet_ow (mCall_sh (ds := [v]) (mCons_eq (mP_sh rfl) mNil_eq) h3)
  · rw [q] at n
    refine fn_exc (ρ := [some (.sh v)]) rfl ?_
    refine sSeq_exc ?_
    unfold sDrop
    exact bind_exc n
theorem refused_spec {v : D} (h : D.dep v ≤ 60) : f__law_refused [.sh v] = some (.ok (.sh (.bl (!ruleB v))), [none]) := by
  obtain ⟨h1, h2⟩ := near_spec h
  cases q : ruleB v with
  | true =>
    obtain ⟨L, _, _, e, _⟩ := h1 q
    have n : sDrop (mCall f_near (mCons (mP 0) mNil)) [some (.sh v)] = some (.ok .nx, [some (.sh v)]) := sDrop_eq (mCall_sh (ds := [v]) (mCons_eq (mP_sh rfl) mNil_eq) e)
    refine fn_rt (ρ := [some (.sh v)]) rfl ?_
    have t : sTry 2 (sDrop (mCall f_near (mCons (mP 0) mNil))) [(isC_InvalidRule, (sRet (mK (.bl true)))), (isC_FetchError, (sRet (mK (.bl false))))] [some (.sh v)] = some (.ok .nx, [some (.sh v)]) := by
      unfold sTry
      rw [n]
    exact (sSeq_nx t).trans rfl
  | false =>
    have n : sDrop (mCall f_near (mCons (mP 0) mNil)) [some (.sh v)] = some (.exc 1 none, [some (.sh v)]) := by
      unfold sDrop
      exact bind_exc (mCall_sh (ds := [v]) (mCons_eq (mP_sh rfl) mNil_eq) (h2 q))
    refine fn_rt (ρ := [some (.sh v)]) rfl ?_
    have t : sTry 2 (sDrop (mCall f_near (mCons (mP 0) mNil))) [(isC_InvalidRule, (sRet (mK (.bl true)))), (isC_FetchError, (sRet (mK (.bl false))))] [some (.sh v)] = some (.ok (.rt (.sh (.bl true))), [some (.sh v)]) := by
      unfold sTry
      rw [n]
      rfl
    exact sSeq_rt t
end K01
end WF

set_option Elab.async false
set_option linter.all false
set_option maxRecDepth 100000
set_option maxHeartbeats 1000000
/-! P6_k01: right; draws. -/
namespace WF
namespace K01
theorem one_call {f : Fn} {v : D} {b : Bool} {i : Nat} {ρ : Env} {os : Env} (hv : ρ.at i = some (.sh v)) (h : f [.sh v] = some (.ok (.sh (.bl b)), os)) : mCall f (mCons (mP i) mNil) ρ = some (.ok (.sh (.bl b)), ρ) :=
  mCall_sh (ds := [v]) (mCons_eq (mP_sh hv) mNil_eq) h
theorem right_spec {v : D} (h : D.dep v ≤ 58) (hz : ∀ xs, v = .tup xs → xs.length ≤ LIM) : f__law_right [.sh v] = some (.ok (.sh (.bl true)), [none]) := by
  have r1 := is_rule_spec (v := v) (by omega)
  have r2 := law_is_rule_spec (v := v) (by omega)
  have r3 := is_row_spec (v := v) (by omega) hz
  have r4 := law_is_row_spec (v := v) (by omega) hz
  have r5 := refused_spec (v := v) (by omega)
  refine fn_rt (ρ := [some (.sh v), some (.sh (.lst [.tup [.bl (ruleB v), .bl (ruleB v)], .tup [.bl (rowB v), .bl (rowB v)]])), none]) rfl ?_
  show sSeq _ _ [some (.sh v), none, none] = _
  rw [sSeq_nx (ρ1 := [some (.sh v), some (.ow (.lst [.tup [.bl (ruleB v), .bl (ruleB v)], .tup [.bl (rowB v), .bl (rowB v)]])), none])
    (sSet_ow (mLst_eq (mCons_eq (mTup_eq (mCons_eq (one_call rfl r1) (mCons_eq (one_call rfl r2) mNil_eq)) rfl rfl) (mCons_eq (mTup_eq (mCons_eq (one_call rfl r3) (mCons_eq (one_call rfl r4) mNil_eq)) rfl rfl) mNil_eq)) rfl rfl) rfl)]
  have g : tV (mNe (mComp (.one 2) (items (mV 1)) cc0__law_right ce0__law_right) (mLst (ret (List.map B.sh [])))) [some (.sh v), some (.ow (.lst [.tup [.bl (ruleB v), .bl (ruleB v)], .tup [.bl (rowB v), .bl (rowB v)]])), none] =
      some (.ok false, [some (.sh v), some (.sh (.lst [.tup [.bl (ruleB v), .bl (ruleB v)], .tup [.bl (rowB v), .bl (rowB v)]])), none]) := by
    cases ruleB v <;> cases rowB v <;> rfl
  rw [guard_no g]
  refine sRet_sh ?_
  refine mOp_sh (one_call rfl r5) (one_call rfl r2) ?_
  cases ruleB v <;> rfl
/-! ### draws -/
theorem pick_spec {g s : Int} {xs : List D} (p : Pot g s) (h0 : xs ≠ []) (hl : xs.length < 1000) : ∃ g' s' x, Pot g' s' ∧ x ∈ xs ∧ f__law_pick [pot g s, .sh (.lst xs)] = some (.ok (.sh x), [some (pot g' s'), none]) := by
  have hn : 1 ≤ (xs.length : Int) := by
    cases xs with
    | nil => exact absurd rfl h0
    | cons a r => simp; omega
  obtain ⟨g', s', k, p', k0, k1, e⟩ := lot_spec p hn (by omega)
  obtain ⟨x, ex⟩ : ∃ x, xs[k.toNat]? = some x := ⟨_, List.getElem?_eq_getElem (by omega)⟩
  refine ⟨g', s', x, p', List.mem_of_getElem? ex, ?_⟩
  refine fn_rt (ρ := [some (pot g' s'), some (.sh (.lst xs))]) rfl ?_
  refine sRet_sh ?_
  have c : mCall f__law_lot (mCons (mP 0) (mCons (mLen (mP 1)) mNil)) [some (pot g s), some (.sh (.lst xs))] = some (.ok (.sh (.int k)), [some (pot g' s'), some (.sh (.lst xs))]) := by
    unfold mCall
    rw [bind_eq (a := [B.pl 0, B.sh (.int xs.length)]) (ρ1 := [some (pot g s), some (.sh (.lst xs))]) rfl]
    unfold callF
    show (match f__law_lot [pot g s, .sh (.int xs.length)] with | none => none | some (r, outs) => some (r, backL [some (pot g s), some (.sh (.lst xs))] [B.pl 0, B.sh (.int xs.length)] outs)) = _
    rw [e]
    rfl
  refine mIx_sh (x := .lst xs) (y := .int k) rfl c ?_
  show (WF.atI xs k).map B.sh = _
  unfold WF.atI
  rw [if_pos k0, ex]
  rfl
end K01
end WF

set_option Elab.async false
set_option linter.all false
set_option maxRecDepth 100000
set_option maxHeartbeats 1000000
/-! P7_k01: drawn values. -/
namespace WF
namespace K01
def odd1 : List D := [.non, .bl true, .bl false, .int 0, .int 1, .int 2, .int 3, .int (-1), .int 1000000000000000000000000000000, .str t_empty, .str t_both, .str t_win, .str t_now, .str t_day, .str t_always, .str t_once, .str t_come]
def oddL : List D := odd1 ++ [.str t_Say, .tup [], .lst [], .tup [.str t_morning], .tup [.str t_come, .int 2], .tup [.str t_paper, .bl true], .tup [.str t_say, .int 0, .str t_bar], .tup [.str t_say, .int 1]]
theorem oddL_dep : ∀ x ∈ oddL, D.dep x ≤ 2 := by
  have : oddL.all (fun x => decide (D.dep x ≤ 2)) = true := by decide +kernel
  intro x m
  exact of_decide_eq_true (List.all_eq_true.mp this x m)
theorem oddL_len : ∀ x ∈ oddL, ∀ xs, x = .tup xs → xs.length ≤ 3 := by
  have : oddL.all (fun x => match x with | .tup xs => decide (xs.length ≤ 3) | _ => true) = true := by decide +kernel
  intro x m xs e
  have := List.all_eq_true.mp this x m
  subst e
  exact of_decide_eq_true this
theorem odd_spec {g s : Int} (p : Pot g s) : ∃ g' s' x, Pot g' s' ∧ x ∈ oddL ∧ f__law_odd [pot g s] = some (.ok (.sh x), [some (pot g' s')]) := by
  obtain ⟨g', s', x, p', m, e⟩ := pick_spec (xs := oddL) p (by decide) (by decide)
  refine ⟨g', s', x, p', m, ?_⟩
  refine fn_rt (ρ := [some (pot g' s'), some (.sh (.lst oddL))]) rfl ?_
  show sSeq _ _ [some (pot g s), none] = _
  rw [sSeq_nx (ρ1 := [some (pot g s), some (.ow (.lst odd1))]) rfl, sSeq_nx (ρ1 := [some (pot g s), some (.ow (.lst oddL))]) rfl]
  refine sRet_sh ?_
  unfold mCall
  rw [bind_eq (a := [B.pl 0, B.sh (.lst oddL)]) (ρ1 := [some (pot g s), some (.sh (.lst oddL))]) rfl]
  unfold callF
  show (match f__law_pick [pot g s, .sh (.lst oddL)] with | none => none | some (r, outs) => some (r, backL [some (pot g s), some (.sh (.lst oddL))] [B.pl 0, B.sh (.lst oddL)] outs)) = _
  rw [e]
  rfl
end K01
end WF

set_option Elab.async false
set_option linter.all false
set_option maxRecDepth 100000
set_option maxHeartbeats 1000000
/-! P8_k01: a drawn rule. -/
namespace WF
namespace K01
theorem values_spec : f__law_values [] = some (.ok (.ow (.lst (vals.map D.lst))), []) := rfl
theorem rule_draw {g s : Int} (p : Pot g s) : ∃ g' s' xs, Pot g' s' ∧ ruleB (.tup xs) = true ∧ f__law_rule [pot g s] = some (.ok (.sh (.tup xs)), [some (pot g' s')]) := by
  have hit : items (mCall f__law_values mNil) [some (pot g s), none] = some (.ok (vals.map D.lst), [some (pot g s), none]) := rfl
  obtain ⟨xs, ρ', e, ⟨g', s', o, p', rfl⟩, hl, hr⟩ := mComp_rel (i := 1) (c := yes) (e := ce0__law_rule) (fun ρ => ∃ g s o, Pot g s ∧ ρ = [some (pot g s), o]) (fun d x => ∃ ys, d = .lst ys ∧ x ∈ ys) hit (by simp) rfl (by decide) ⟨g, s, none, p, rfl⟩ fun d m ρ ⟨g, s, o, p, h⟩ => by
    subst h
    obtain ⟨ys, my, rfl⟩ := List.mem_map.mp m
    have hy : ys ≠ [] ∧ ys.length < 1000 := by
      have : vals.all (fun ys => !ys.isEmpty && decide (ys.length < 1000)) = true := by decide
      have := List.all_eq_true.mp this ys my
      rw [Bool.and_eq_true] at this
      refine ⟨fun z => ?_, of_decide_eq_true this.2⟩
      subst z
      exact absurd this.1 (by decide)
    obtain ⟨g', s', x, p', mx, e⟩ := pick_spec p hy.1 hy.2
    refine ⟨[some (pot g s), some (.sh (.lst ys))], [some (pot g' s'), some (.sh (.lst ys))], [some (pot g s), some (.sh (.lst ys))], x, .sh x, rfl, rfl, ?_, rfl, rfl, ⟨ys, rfl, mx⟩, g', s', _, p', rfl⟩
    show mCall f__law_pick (mCons (mP 0) (mCons (mV 1) mNil)) _ = _
    unfold mCall
    rw [bind_eq (a := [B.pl 0, B.sh (.lst ys)]) (ρ1 := [some (pot g s), some (.sh (.lst ys))]) rfl]
    unfold callF
    show (match f__law_pick [pot g s, .sh (.lst ys)] with | none => none | some (r, outs) => some (r, backL [some (pot g s), some (.sh (.lst ys))] [B.pl 0, B.sh (.lst ys)] outs)) = _
    rw [e]
    rfl
  refine ⟨g', s', xs, p', ?_, ?_⟩
  · have h7 : xs.length = 7 := hl
    obtain ⟨a, b, c, d, k, f, q, rfl⟩ := seven h7
    have h0 : a ∈ [D.str t_both, .str t_either, .str t_last] := by obtain ⟨ys, e1, m⟩ := hr 0 _ a rfl rfl; cases e1; exact m
    have h1 : b ∈ [D.str t_own, .str t_win] := by obtain ⟨ys, e1, m⟩ := hr 1 _ b rfl rfl; cases e1; exact m
    have h2 : c ∈ [D.str t_morning, .str t_now] := by obtain ⟨ys, e1, m⟩ := hr 2 _ c rfl rfl; cases e1; exact m
    have h3 : d ∈ [D.str t_morning, .str t_now] := by obtain ⟨ys, e1, m⟩ := hr 3 _ d rfl rfl; cases e1; exact m
    have h4 : k ∈ [D.str t_day, .str t_use] := by obtain ⟨ys, e1, m⟩ := hr 4 _ k rfl rfl; cases e1; exact m
    have h5 : f ∈ [D.bl false, .bl true] := by obtain ⟨ys, e1, m⟩ := hr 5 _ f rfl rfl; cases e1; exact m
    have h6 : q ∈ [D.bl false, .bl true] := by obtain ⟨ys, e1, m⟩ := hr 6 _ q rfl rfl; cases e1; exact m
    have i0 : (eqS a t_both || eqS a t_either || eqS a t_last) = true := by simp at h0; rcases h0 with rfl | rfl | rfl <;> rfl
    have i1 : (eqS b t_own || eqS b t_win) = true := by simp at h1; rcases h1 with rfl | rfl <;> rfl
    have i2 : (eqS c t_morning || eqS c t_now) = true := by simp at h2; rcases h2 with rfl | rfl <;> rfl
    have i3 : (eqS d t_morning || eqS d t_now) = true := by simp at h3; rcases h3 with rfl | rfl <;> rfl
    have i4 : (eqS k t_day || eqS k t_use) = true := by simp at h4; rcases h4 with rfl | rfl <;> rfl
    have i5 : (eqB f false || eqB f true) = true := by simp at h5; rcases h5 with rfl | rfl <;> rfl
    have i6 : (eqB q false || eqB q true) = true := by simp at h6; rcases h6 with rfl | rfl <;> rfl
    show ((eqS a t_both || eqS a t_either || eqS a t_last) && (eqS b t_own || eqS b t_win) && (eqS c t_morning || eqS c t_now) && (eqS d t_morning || eqS d t_now) && (eqS k t_day || eqS k t_use) && (eqB f false || eqB f true) && (eqB q false || eqB q true)) = true
    rw [i0, i1, i2, i3, i4, i5, i6]
    rfl
  · refine fn_rt (ρ := [some (pot g' s'), none]) rfl ?_
    refine sRet_sh ?_
    show mTuple _ [some (pot g s), none] = _
    unfold mTuple mUn
    rw [bind_eq e]
    rfl
end K01
end WF

set_option Elab.async false
set_option linter.all false
set_option maxRecDepth 100000
set_option maxHeartbeats 1000000
/-! P9_k01: the pot of a cell; drawn events. -/
namespace WF
namespace K01
theorem pot_spec (cell : Int) : ∃ g s, Pot g s ∧ f__law_pot [.sh (.int cell), .sh (.int 3)] = some (.ok (.ow (.lst [.int g, .int s])), [none, none]) := by
  have key : ∀ gr : Int, 0 ≤ gr → sSet 2 (mIf (tV (mGe (mP 0) (mPow (mK (.int 10)) (mK (.int 18))))) (mAdd (mFdiv (mP 0) (mK (.int 5))) (mP 1)) (mK (.int 0))) [some (.sh (.int cell)), some (.sh (.int 3)), none] = some (.ok .nx, [some (.sh (.int cell)), some (.sh (.int 3)), some (.sh (.int gr))]) →
      ∃ g s, Pot g s ∧ f__law_pot [.sh (.int cell), .sh (.int 3)] = some (.ok (.ow (.lst [.int g, .int s])), [none, none]) := fun gr h0 h => by
    have e1 : 0 ≤ (cell * 43 + 6007 * 3) % 1610612711 := Int.emod_nonneg _ (by omega)
    have e2 : (cell * 43 + 6007 * 3) % 1610612711 < 1610612711 := Int.emod_lt_of_pos _ (by omega)
    refine ⟨gr, (cell * 43 + 6007 * 3) % 1610612711 + 6, ⟨h0, by omega, by omega⟩, ?_⟩
    refine fn_rt (ρ := [some (.sh (.int cell)), some (.sh (.int 3)), some (.sh (.int gr))]) rfl ?_
    refine (sSeq_nx h).trans ?_
    refine sRet_ow (mLst_eq (bs := [.sh (.int gr), .sh (.int ((cell * 43 + 6007 * 3) % 1610612711 + 6))]) (mCons_eq (mV_sh rfl) (mCons_eq ?_ mNil_eq)) rfl rfl)
    refine mOp_sh (x := .int ((cell * 43 + 6007 * 3) % 1610612711)) (mOp_sh (x := .int (cell * 43 + 6007 * 3)) (mUn_sh (x := .int (cell * 43 + 6007 * 3)) (mOp_sh (x := .int (cell * 43)) (mOp_sh (x := .int cell) (mP_sh rfl) rfl ?_) (mOp_sh (x := .int 6007) rfl (mP_sh rfl) rfl) rfl) rfl) rfl rfl) rfl rfl
    show (if smallI cell || smallI 43 then some (B.sh (.int (cell * 43))) else none) = _
    rw [show smallI 43 = true from rfl, Bool.or_true]
    rfl
  have t : tV (mGe (mP 0) (mPow (mK (.int 10)) (mK (.int 18)))) [some (.sh (.int cell)), some (.sh (.int 3)), none] = some (.ok (decide (1000000000000000000 ≤ cell)), [some (.sh (.int cell)), some (.sh (.int 3)), none]) := rfl
  by_cases h : 1000000000000000000 ≤ cell
  · refine key (cell / 5 + 3) (by omega) (sSet_sh (d := .int (cell / 5 + 3)) (ρ1 := [some (.sh (.int cell)), some (.sh (.int 3)), none]) ((mIf_eq t).trans ?_) rfl)
    rw [decide_eq_true h]
    show mAdd (mFdiv (mP 0) (mK (.int 5))) (mP 1) [some (.sh (.int cell)), some (.sh (.int 3)), none] = _
    rfl
  · refine key 0 (by omega) (sSet_sh (d := .int 0) (ρ1 := [some (.sh (.int cell)), some (.sh (.int 3)), none]) ((mIf_eq t).trans ?_) rfl)
    rw [decide_eq_false h]
    rfl
theorem words_spec : f__law_words [] = some (.ok (.ow (.lst [.str t_always, .str t_bar, .str t_no, .str t_once])), []) := rfl
end K01
end WF

set_option Elab.async false
set_option linter.all false
set_option maxRecDepth 100000
set_option maxHeartbeats 1000000
/-! P10_k01: drawn events, drawn rows. -/
namespace WF
section
variable {ρ ρ1 : Env}
theorem backL_sh1 : ∀ (ds : List D) (os : Env) (ρ : Env), backL ρ (ds.map B.sh) os = ρ
  | [], os, _ => by cases os <;> rfl
  | _ :: _, [], _ => rfl
  | _ :: ds, _ :: os, ρ => backL_sh1 ds os ρ
theorem handL_sh1 : ∀ (ds : List D) (ρ : Env), handL ρ (ds.map B.sh) = some (ds.map SB.sh)
  | [], _ => rfl
  | d :: ds, ρ => by
    show (match handB ρ (.sh d), handL ρ (ds.map B.sh) with | some x, some xs => some (x :: xs) | _, _ => none) = _
    rw [handL_sh1 ds ρ]
    rfl
/-- a call that is lent the object of one name -/
theorem lend_eq {f : Fn} {as : M (List B)} {i : Nat} {c : SB} {o o' : O} {ds : List D} {r : Res B} {os : Env} (ha : as ρ = some (.ok (.pl i :: ds.map B.sh), ρ1)) (hc : ρ1.at i = some c) (ho : handB ρ1 (.pl i) = some (.io o)) (h : f (.io o :: ds.map SB.sh) = some (r, some (.io o') :: os)) : mCall f as ρ = some (r, ρ1.set i (some (c.put o'))) := by
  unfold mCall
  rw [bind_eq ha]
  unfold callF
  have e1 : lent (B.pl i :: ds.map B.sh) = [i] := by
    show i :: lent (ds.map B.sh) = _
    rw [lent_sh]
  have e2 : handL ρ1 (B.pl i :: ds.map B.sh) = some (.io o :: ds.map SB.sh) := by
    show (match handB ρ1 (.pl i), handL ρ1 (ds.map B.sh) with | some x, some xs => some (x :: xs) | _, _ => none) = _
    rw [ho, handL_sh1]
  rw [e1, e2]
  show (if nodupN [i] = true then (match f (.io o :: ds.map SB.sh) with | none => none | some (r, outs) => some (r, backL ρ1 (B.pl i :: ds.map B.sh) outs)) else none) = _
  rw [if_pos (show nodupN [i] = true from rfl), h]
  show some (r, backL (backB ρ1 (.pl i) (some (.io o'))) (ds.map B.sh) os) = _
  rw [backL_sh1]
  show some (r, (match ρ1.at i, some (SB.io o') with | some c, some (.io o) => ρ1.set i (some (c.put o)) | _, _ => ρ1)) = _
  rw [hc]
theorem sbsD_sh : ∀ ds : List D, sbsD (ds.map SB.sh) = some ds
  | [] => rfl
  | d :: ds => by
    show (match SB.toD (.sh d), sbsD (ds.map SB.sh) with | some d, some ds => some (d :: ds) | _, _ => none) = _
    rw [sbsD_sh ds]
    rfl
theorem tp_dat (ds : List D) : (B.tp (ds.map SB.sh)).dat ρ = some (.tup ds) := by
  show (match sbsD (ds.map SB.sh) with | some ds => some (D.tup ds) | none => none) = _
  rw [sbsD_sh]
theorem sRet_tp {m : M B} {bs : List SB} (h : m ρ = some (.ok (.tp bs), ρ1)) : sRet m ρ = some (.ok (.rt (.tp bs)), ρ1) := by
  unfold sRet
  rw [bind_eq h]
  rfl
end
namespace K01
def evWords : List D := [.str t_say, .str t_say, .str t_say, .str t_come, .str t_come, .str t_come, .str t_morning, .str t_morning, .str t_paper, .str t_court, .str t_clear]
theorem evWords_cases {x : D} (m : x ∈ evWords) : x = .str t_say ∨ x = .str t_come ∨ x = .str t_morning ∨ x = .str t_paper ∨ x = .str t_court ∨ x = .str t_clear := by
  simp [evWords] at m
  rcases m with h | h | h | h | h | h <;> simp [h]
theorem event_draw {g s : Int} (p : Pot g s) : ∃ g' s' xs, Pot g' s' ∧ xs.length ≤ 3 ∧ D.deps xs = 0 ∧ f__law_event [pot g s] = some (.ok (.tp (xs.map SB.sh)), [some (pot g' s')]) := by
  obtain ⟨g1, s1, x, p1, mx, e1⟩ := pick_spec (xs := evWords) p (by decide) (by decide)
  have st1 : sSet 1 (mLst (ret (List.map B.sh evWords))) [some (pot g s), none, none, none] = some (.ok .nx, [some (pot g s), some (.ow (.lst evWords)), none, none]) := rfl
  have st2 : sSet 2 (mCall f__law_pick (mCons (mP 0) (mCons (mV 1) mNil))) [some (pot g s), some (.ow (.lst evWords)), none, none] = some (.ok .nx, [some (pot g1 s1), some (.sh (.lst evWords)), some (.sh x), none]) :=
    sSet_sh (lend_eq (ρ1 := [some (pot g s), some (.sh (.lst evWords)), none, none]) (ds := [.lst evWords]) rfl rfl rfl e1) rfl
  rcases evWords_cases mx with h | h | h | h | h | h
  · subst h
    obtain ⟨g2, s2, k, p2, k0, k1, e2⟩ := lot_spec (n := 2) p1 (by decide) (by decide)
    obtain ⟨g3, s3, y, p3, my, e3⟩ := pick_spec (xs := [.str t_always, .str t_bar, .str t_no, .str t_once, .str t_always]) p2 (by decide) (by decide)
    have fy : D.dep y = 0 := by simp at my; rcases my with h | h | h | h | h <;> subst h <;> rfl
    refine ⟨g3, s3, [.str t_say, .int k, y], p3, by simp, by show max 0 (max 0 (max (D.dep y) 0)) = 0; rw [fy]; rfl, ?_⟩
    refine fn_rt (ρ := [some (pot g3 s3), some (.sh (.lst evWords)), some (.sh (.str t_say)), some (.sh (.int k))]) rfl ?_
    refine (sSeq_nx st1).trans ((sSeq_nx st2).trans ?_)
    refine (guard_no rfl).trans ((guard_no rfl).trans ?_)
    refine (sSeq_nx (sSet_sh (lend_eq (ρ1 := [some (pot g1 s1), some (.sh (.lst evWords)), some (.sh (.str t_say)), none]) (ds := [.int 2]) rfl rfl rfl e2) rfl)).trans ?_
    refine sRet_tp ((mIf_eq (p := true) rfl).trans ?_)
    have c : mCall f__law_pick (mCons (mP 0) (mCons (mAdd (mCall f__law_words mNil) (mLst (ret (List.map B.sh [(.str t_always)])))) mNil)) [some (pot g2 s2), some (.sh (.lst evWords)), some (.sh (.str t_say)), some (.sh (.int k))] = some (.ok (.sh y), [some (pot g3 s3), some (.sh (.lst evWords)), some (.sh (.str t_say)), some (.sh (.int k))]) := by
      unfold mCall
      rw [bind_eq (a := [B.pl 0, B.ow (.lst [.str t_always, .str t_bar, .str t_no, .str t_once, .str t_always])]) (ρ1 := [some (pot g2 s2), some (.sh (.lst evWords)), some (.sh (.str t_say)), some (.sh (.int k))]) rfl]
      unfold callF
      show (match f__law_pick [pot g2 s2, .sh (.lst [.str t_always, .str t_bar, .str t_no, .str t_once, .str t_always])] with | none => none | some (r, outs) => some (r, backL [some (pot g2 s2), some (.sh (.lst evWords)), some (.sh (.str t_say)), some (.sh (.int k))] [B.pl 0, B.ow (.lst [.str t_always, .str t_bar, .str t_no, .str t_once, .str t_always])] outs)) = _
      rw [e3]
      rfl
    have l : mCons (mMv 2) (mCons (mMv 3) (mCons (mCall f__law_pick (mCons (mP 0) (mCons (mAdd (mCall f__law_words mNil) (mLst (ret (List.map B.sh [(.str t_always)])))) mNil))) mNil)) [some (pot g2 s2), some (.sh (.lst evWords)), some (.sh (.str t_say)), some (.sh (.int k))] = some (.ok [.sh (.str t_say), .sh (.int k), .sh y], [some (pot g3 s3), some (.sh (.lst evWords)), some (.sh (.str t_say)), some (.sh (.int k))]) :=
      mCons_eq (mMv_sh rfl) (mCons_eq (mMv_sh rfl) (mCons_eq c mNil_eq))
    show mTp _ _ = _
    exact (bind_eq l).trans rfl
  · subst h
    obtain ⟨g3, s3, y, p3, my, e3⟩ := pick_spec (xs := [.int 0, .int 1, .int 2, .int 2]) p1 (by decide) (by decide)
    have fy : D.dep y = 0 := by simp at my; rcases my with h | h | h <;> subst h <;> rfl
    refine ⟨g3, s3, [.str t_come, y], p3, by simp, by show max 0 (max (D.dep y) 0) = 0; rw [fy]; rfl, ?_⟩
    refine fn_rt (ρ := [some (pot g3 s3), some (.sh (.lst evWords)), some (.sh (.str t_come)), none]) rfl ?_
    refine (sSeq_nx st1).trans ((sSeq_nx st2).trans ?_)
    refine (guard_no rfl).trans ?_
    have c : mCall f__law_pick (mCons (mP 0) (mCons (mLst (ret (List.map B.sh [(.int 0), (.int 1), (.int 2), (.int 2)]))) mNil)) [some (pot g1 s1), some (.sh (.lst evWords)), some (.sh (.str t_come)), none] = some (.ok (.sh y), [some (pot g3 s3), some (.sh (.lst evWords)), some (.sh (.str t_come)), none]) := by
      unfold mCall
      rw [bind_eq (a := [B.pl 0, B.ow (.lst [.int 0, .int 1, .int 2, .int 2])]) (ρ1 := [some (pot g1 s1), some (.sh (.lst evWords)), some (.sh (.str t_come)), none]) rfl]
      unfold callF
      show (match f__law_pick [pot g1 s1, .sh (.lst [.int 0, .int 1, .int 2, .int 2])] with | none => none | some (r, outs) => some (r, backL [some (pot g1 s1), some (.sh (.lst evWords)), some (.sh (.str t_come)), none] [B.pl 0, B.ow (.lst [.int 0, .int 1, .int 2, .int 2])] outs)) = _
      rw [e3]
      rfl
    have l : mCons (mMv 2) (mCons (mCall f__law_pick (mCons (mP 0) (mCons (mLst (ret (List.map B.sh [(.int 0), (.int 1), (.int 2), (.int 2)]))) mNil))) mNil) [some (pot g1 s1), some (.sh (.lst evWords)), some (.sh (.str t_come)), none] = some (.ok [.sh (.str t_come), .sh y], [some (pot g3 s3), some (.sh (.lst evWords)), some (.sh (.str t_come)), none]) :=
      mCons_eq (mMv_sh rfl) (mCons_eq c mNil_eq)
    have r : sIf (tV (mEq (mP 2) (mK (.str t_come)))) (sRet (mTp (mCons (mMv 2) (mCons (mCall f__law_pick (mCons (mP 0) (mCons (mLst (ret (List.map B.sh [(.int 0), (.int 1), (.int 2), (.int 2)]))) mNil))) mNil)))) sPass [some (pot g1 s1), some (.sh (.lst evWords)), some (.sh (.str t_come)), none] = some (.ok (.rt (.tp [.sh (.str t_come), .sh y])), [some (pot g3 s3), some (.sh (.lst evWords)), some (.sh (.str t_come)), none]) := by
      refine (sIf_eq (p := true) rfl).trans ?_
      refine sRet_tp ?_
      unfold mTp
      rw [bind_eq l]
      rfl
    exact sSeq_rt r
  · subst h
    refine ⟨g1, s1, [.str t_morning], p1, by simp, rfl, ?_⟩
    refine fn_rt (ρ := [some (pot g1 s1), some (.sh (.lst evWords)), some (.sh (.str t_morning)), none]) rfl ?_
    exact (sSeq_nx st1).trans ((sSeq_nx st2).trans rfl)
  · subst h
    obtain ⟨g2, s2, k, p2, k0, k1, e2⟩ := lot_spec (n := 2) p1 (by decide) (by decide)
    refine ⟨g2, s2, [.str t_paper, .int k], p2, by simp, rfl, ?_⟩
    refine fn_rt (ρ := [some (pot g2 s2), some (.sh (.lst evWords)), some (.sh (.str t_paper)), some (.sh (.int k))]) rfl ?_
    refine (sSeq_nx st1).trans ((sSeq_nx st2).trans ?_)
    refine (guard_no rfl).trans ((guard_no rfl).trans ?_)
    refine (sSeq_nx (sSet_sh (lend_eq (ρ1 := [some (pot g1 s1), some (.sh (.lst evWords)), some (.sh (.str t_paper)), none]) (ds := [.int 2]) rfl rfl rfl e2) rfl)).trans ?_
    exact rfl
  · subst h
    obtain ⟨g2, s2, k, p2, k0, k1, e2⟩ := lot_spec (n := 2) p1 (by decide) (by decide)
    refine ⟨g2, s2, [.str t_court, .int k], p2, by simp, rfl, ?_⟩
    refine fn_rt (ρ := [some (pot g2 s2), some (.sh (.lst evWords)), some (.sh (.str t_court)), some (.sh (.int k))]) rfl ?_
    refine (sSeq_nx st1).trans ((sSeq_nx st2).trans ?_)
    refine (guard_no rfl).trans ((guard_no rfl).trans ?_)
    refine (sSeq_nx (sSet_sh (lend_eq (ρ1 := [some (pot g1 s1), some (.sh (.lst evWords)), some (.sh (.str t_court)), none]) (ds := [.int 2]) rfl rfl rfl e2) rfl)).trans ?_
    exact rfl
  · subst h
    obtain ⟨g2, s2, k, p2, k0, k1, e2⟩ := lot_spec (n := 2) p1 (by decide) (by decide)
    refine ⟨g2, s2, [.str t_clear, .int k], p2, by simp, rfl, ?_⟩
    refine fn_rt (ρ := [some (pot g2 s2), some (.sh (.lst evWords)), some (.sh (.str t_clear)), some (.sh (.int k))]) rfl ?_
    refine (sSeq_nx st1).trans ((sSeq_nx st2).trans ?_)
    refine (guard_no rfl).trans ((guard_no rfl).trans ?_)
    refine (sSeq_nx (sSet_sh (lend_eq (ρ1 := [some (pot g1 s1), some (.sh (.lst evWords)), some (.sh (.str t_clear)), none]) (ds := [.int 2]) rfl rfl rfl e2) rfl)).trans ?_
    exact rfl
end K01
end WF

set_option Elab.async false
set_option linter.all false
set_option maxRecDepth 100000
set_option maxHeartbeats 1000000
/-! P11_k01: drawn rows. -/
namespace WF
namespace K01
theorem deps_le {n : Nat} : ∀ {xs : List D}, (∀ x ∈ xs, D.dep x ≤ n) → D.deps xs ≤ n
  | [], _ => Nat.zero_le _
  | x :: xs, h => Nat.max_le.2 ⟨h x List.mem_cons_self, deps_le fun y m => h y (List.mem_cons_of_mem _ m)⟩
theorem row_draw {g s : Int} (p : Pot g s) : ∃ g' s' xs, Pot g' s' ∧ xs.length ≤ 12 ∧ (∀ x ∈ xs, ∃ ys, x = .tup ys ∧ ys.length ≤ 3 ∧ D.deps ys = 0) ∧ f__law_row [pot g s, .sh (.int 12)] = some (.ok (.sh (.tup xs)), [some (pot g' s'), none]) := by
  obtain ⟨g1, s1, k, p1, k0, k1, e1⟩ := lot_spec (n := 13) p (by decide) (by decide)
  have hit : itRange (mCall f__law_lot (mCons (mP 0) (mCons (mAdd (mP 1) (mK (.int 1))) mNil))) [some (pot g s), some (.sh (.int 12)), none] = some (.ok (upto k.toNat), [some (pot g1 s1), some (.sh (.int 12)), none]) := by
    unfold itRange
    rw [bind_eq (lend_eq (ρ1 := [some (pot g s), some (.sh (.int 12)), none]) (ds := [.int 13]) rfl rfl rfl e1)]
    show (if decide (k < 2 ^ 62) && decide (-(2 ^ 62) ≤ k) then ret (upto k.toNat) else stuck) [some (pot g1 s1), some (.sh (.int 12)), none] = _
    rw [if_pos (by rw [decide_eq_true (show k < 2 ^ 62 by omega), decide_eq_true (show -(2 ^ 62) ≤ k by omega)]; rfl)]
    rfl
  have hz : (upto k.toNat).length = k.toNat := by simp [upto]
  obtain ⟨xs, ρ', e, ⟨g', s', o, p', rfl⟩, hl, hr⟩ := mComp_rel (i := 2) (c := yes) (e := ce0__law_row) (fun ρ => ∃ g s o, Pot g s ∧ ρ = [some (pot g s), some (.sh (.int 12)), o]) (fun d x => ∃ ys, x = .tup ys ∧ ys.length ≤ 3 ∧ D.deps ys = 0) hit (by simp) rfl (by rw [hz]; show _ ≤ 16777216; omega) ⟨g1, s1, none, p1, rfl⟩ fun d m ρ ⟨g, s, o, p, h⟩ => by
    subst h
    obtain ⟨g', s', ys, p', h1, h2, e⟩ := event_draw p
    refine ⟨[some (pot g s), some (.sh (.int 12)), some (.sh d)], [some (pot g' s'), some (.sh (.int 12)), some (.sh d)], [some (pot g s), some (.sh (.int 12)), some (.sh d)], .tup ys, .tp (ys.map SB.sh), rfl, rfl, ?_, rfl, tp_dat ys, ⟨ys, rfl, h1, h2⟩, g', s', _, p', rfl⟩
    exact lend_eq (i := 0) (c := pot g s) (o := .lst [.int g, .int s]) (o' := .lst [.int g', .int s']) (ρ1 := [some (pot g s), some (.sh (.int 12)), some (.sh d)]) (ds := []) rfl rfl rfl e
  refine ⟨g', s', xs, p', by rw [hl, hz]; omega, fun x mx => ?_, ?_⟩
  · obtain ⟨j, hj, ex⟩ := List.getElem_of_mem mx
    have : (upto k.toNat)[j]? = some (upto k.toNat)[j] := List.getElem?_eq_getElem (by omega)
    exact hr j _ x this (by rw [List.getElem?_eq_getElem hj, ex])
  · refine fn_rt (ρ := [some (pot g' s'), some (.sh (.int 12)), none]) rfl ?_
    refine sRet_sh ?_
    show mTuple _ [some (pot g s), some (.sh (.int 12)), none] = _
    unfold mTuple mUn
    rw [bind_eq e]
    rfl
end K01
end WF

set_option Elab.async false
set_option linter.all false
set_option maxRecDepth 100000
set_option maxHeartbeats 1000000
/-! P12_k01: bent values. -/
namespace WF
mutual
/-- the longest tuple in it, lists left out -/
def D.wid : D → Nat
  | .tup xs => max xs.length (D.wids xs)
  | _ => 0
def D.wids : List D → Nat
  | [] => 0
  | x :: xs => max (D.wid x) (D.wids xs)
end
namespace K01
theorem wids_le {n : Nat} : ∀ {xs : List D}, (∀ x ∈ xs, D.wid x ≤ n) → D.wids xs ≤ n
  | [], _ => Nat.zero_le _
  | x :: xs, h => Nat.max_le.2 ⟨h x List.mem_cons_self, wids_le fun y m => h y (List.mem_cons_of_mem _ m)⟩
theorem mem_wid : ∀ {xs : List D} {x : D}, x ∈ xs → D.wid x ≤ D.wids xs
  | y :: ys, x, m => by
    show D.wid x ≤ max (D.wid y) (D.wids ys)
    rcases List.mem_cons.mp m with h | h
    · subst h; exact Nat.le_max_left _ _
    · exact Nat.le_trans (mem_wid h) (Nat.le_max_right _ _)
theorem mem_dep : ∀ {xs : List D} {x : D}, x ∈ xs → D.dep x ≤ D.deps xs
  | y :: ys, x, m => by
    show D.dep x ≤ max (D.dep y) (D.deps ys)
    rcases List.mem_cons.mp m with h | h
    · subst h; exact Nat.le_max_left _ _
    · exact Nat.le_trans (mem_dep h) (Nat.le_max_right _ _)
theorem tup_fine {zs : List D} {d m : Nat} (hl : zs.length ≤ m) (h : ∀ z ∈ zs, D.dep z ≤ d ∧ D.wid z ≤ m) : D.dep (.tup zs) ≤ d + 1 ∧ D.wid (.tup zs) ≤ m :=
  ⟨Nat.succ_le_succ (deps_le fun z mz => (h z mz).1), Nat.max_le.2 ⟨hl, wids_le fun z mz => (h z mz).2⟩⟩
theorem oddL_wid : ∀ x ∈ oddL, D.wid x ≤ 3 := by
  have : oddL.all (fun x => decide (D.wid x ≤ 3)) = true := by decide +kernel
  intro x m
  exact of_decide_eq_true (List.all_eq_true.mp this x m)
end K01
end WF

set_option Elab.async false
set_option linter.all false
set_option maxRecDepth 100000
set_option maxHeartbeats 1000000
/-! P13_k01: the bent value's first part. -/
namespace WF
namespace K01
theorem oddpart {g s : Int} {v : D} (p : Pot g s) (hd : D.dep v ≤ 58) : ∃ g' s' x, Pot g' s' ∧ D.dep x ≤ 2 ∧ D.wid x ≤ 3 ∧
    sRet (mIf (tV (mIsA .bool (mP 1))) (mNot (mP 1)) (mCall f__law_odd (mCons (mP 0) mNil))) [some (pot g s), some (.sh v), none, none] = some (.ok (.rt (.sh x)), [some (pot g' s'), some (.sh v), none, none]) := by
  obtain ⟨g1, s1, x1, p1, m1, e1⟩ := odd_spec p
  have c : mCall f__law_odd (mCons (mP 0) mNil) [some (pot g s), some (.sh v), none, none] = some (.ok (.sh x1), [some (pot g1 s1), some (.sh v), none, none]) :=
    lend_eq (i := 0) (c := pot g s) (o := .lst [.int g, .int s]) (o' := .lst [.int g1, .int s1]) (ρ1 := [some (pot g s), some (.sh v), none, none]) (ds := []) rfl rfl rfl e1
  have no : tV (mIsA .bool (mP 1)) [some (pot g s), some (.sh v), none, none] = some (.ok false, [some (pot g s), some (.sh v), none, none]) → ∃ g' s' x, Pot g' s' ∧ D.dep x ≤ 2 ∧ D.wid x ≤ 3 ∧
    sRet (mIf (tV (mIsA .bool (mP 1))) (mNot (mP 1)) (mCall f__law_odd (mCons (mP 0) mNil))) [some (pot g s), some (.sh v), none, none] = some (.ok (.rt (.sh x)), [some (pot g' s'), some (.sh v), none, none]) := fun t =>
    ⟨g1, s1, x1, p1, oddL_dep _ m1, oddL_wid _ m1, sRet_sh ((mIf_eq t).trans c)⟩
  cases v with
  | bl b => exact ⟨g, s, .bl (!b), p, Nat.zero_le _, Nat.zero_le _, rfl⟩
  | dic t kvs => exact absurd hd (by show ¬ (1000 ≤ 58); decide)
  | non => exact no rfl
  | int i => exact no rfl
  | str t => exact no rfl
  | tup xs => exact no rfl
  | lst xs => exact no rfl
end K01
end WF

set_option Elab.async false
set_option linter.all false
set_option maxRecDepth 100000
set_option maxHeartbeats 1000000
/-! P14_k01: slices of a tuple. -/
namespace WF
section
variable {ρ ρ1 ρ2 : Env}
theorem cut_take {α : Type} (xs : List α) (j : Nat) : cutL xs 0 j = xs.take j := rfl
theorem cut_drop {α : Type} (xs : List α) (j : Nat) : cutL xs j xs.length = xs.drop j := by
  show (xs.drop j).take (xs.length - j) = _
  rw [List.take_of_length_le (by simp)]
theorem clip_nat {n j : Nat} (h : j ≤ n) : clip n (j : Int) = j := by
  unfold clip
  rw [if_neg (by omega)]
  simp [Nat.min_eq_left h]
theorem mSl_to {a e : M B} {xs : List D} {j : Nat} (ha : a ρ = some (.ok (.sh (.tup xs)), ρ)) (he : e ρ = some (.ok (.sh (.int j)), ρ)) (h : j ≤ xs.length) : mSl a none (some e) ρ = some (.ok (.sh (.tup (xs.take j))), ρ) := by
  unfold mSl
  rw [bind_eq ha, bind_eq (a := none) (ρ1 := ρ) rfl, bind_eq (a := some (j : Int)) (ρ1 := ρ) (show mEnd (some e) ρ = _ from (bind_eq he).trans rfl)]
  show some (Res.ok (B.sh (.tup (cutL xs 0 (clip xs.length j)))), ρ) = _
  rw [clip_nat h, cut_take]
theorem mSl_from {a e : M B} {xs : List D} {j : Nat} (ha : a ρ = some (.ok (.sh (.tup xs)), ρ)) (he : e ρ = some (.ok (.sh (.int j)), ρ)) (h : j ≤ xs.length) : mSl a (some e) none ρ = some (.ok (.sh (.tup (xs.drop j))), ρ) := by
  unfold mSl
  rw [bind_eq ha, bind_eq (a := some (j : Int)) (ρ1 := ρ) (show mEnd (some e) ρ = _ from (bind_eq he).trans rfl), bind_eq (a := none) (ρ1 := ρ) rfl]
  show some (Res.ok (B.sh (.tup (cutL xs (clip xs.length j) xs.length))), ρ) = _
  rw [clip_nat h, cut_drop]
theorem mAdd_tup {a b : M B} {xs ys : List D} (ha : a ρ = some (.ok (.sh (.tup xs)), ρ1)) (hb : b ρ1 = some (.ok (.sh (.tup ys)), ρ2)) (h : xs.length + ys.length ≤ LIM) : mAdd a b ρ = some (.ok (.sh (.tup (xs ++ ys))), ρ2) :=
  mOp_sh (f := iAdd) ha hb (if_pos h)
end
end WF

set_option Elab.async false
set_option linter.all false
set_option maxRecDepth 100000
set_option maxHeartbeats 1000000
/-! P16_k01: a bent value. -/
namespace WF
theorem Sl_to {xs : List D} {j : Nat} (h : j ≤ xs.length) : iSl (.tup xs) none (some (j : Int)) = some (.sh (.tup (xs.take j))) := by
  show some (B.sh (.tup (cutL xs 0 (clip xs.length j)))) = _
  rw [clip_nat h, cut_take]
theorem Sl_from {xs : List D} {j : Nat} (h : j ≤ xs.length) : iSl (.tup xs) (some (j : Int)) none = some (.sh (.tup (xs.drop j))) := by
  show some (B.sh (.tup (cutL xs (clip xs.length j) xs.length))) = _
  rw [clip_nat h, cut_drop]
theorem atI_nat {α : Type} {xs : List α} {j : Nat} (h : j < xs.length) : atI xs (j : Int) = some xs[j] := by
  unfold atI
  rw [if_pos (by omega), Int.toNat_natCast, List.getElem?_eq_getElem h]
namespace K01
/-- what bent gives: shared data, or a new list -/
def Bent (b : B) (x : D) : Prop := b = .sh x ∨ ∃ xs, x = .lst xs ∧ b = .ow (.lst xs)
theorem isTup_no {v : D} (h : D.dep v ≤ 50) (hn : ∀ xs, v ≠ .tup xs) : iIsA .tuple v = some (.sh (.bl false)) := by
  cases v with
  | tup xs => exact absurd rfl (hn xs)
  | dic t kvs => exact absurd h (by show ¬ (1000 ≤ 50); decide)
  | _ => rfl
theorem oddp {g s : Int} {v : D} (p : Pot g s) (hd : D.dep v ≤ 50) : ∃ g' s' x, Pot g' s' ∧ D.dep x ≤ 2 ∧ D.wid x ≤ 3 ∧
    ∀ (k : Ct Fl (Res B × Env)) (e : Ex (Res B × Env)), K (sRet (mIf (tV (mIsA .bool (mP 1))) (mNot (mP 1)) (mCall f__law_odd (mCons (mP 0) mNil)))) [some (pot g s), some (.sh v), none, none] k e = k (.rt (.sh x)) [some (pot g' s'), some (.sh v), none, none] := by
  obtain ⟨g', s', x, p', d, w, e⟩ := oddpart (v := v) p (by omega)
  exact ⟨g', s', x, p', d, w, fun k ex => K_eq e⟩
theorem bent_spec : ∀ (n : Nat) {v : D} {g s : Int} {m : Nat}, D.dep v < n → D.dep v ≤ 50 → D.wid v ≤ m → 3 ≤ m → m < 900 → Pot g s →
    ∃ g' s' b x, Pot g' s' ∧ Bent b x ∧ D.dep x ≤ D.dep v + 2 ∧ D.wid x ≤ m + 1 ∧ f__law_bent n [pot g s, .sh v] = some (.ok b, [some (pot g' s'), none])
  | 0, v, g, s, m, h, _, _, _, _, _ => absurd h (Nat.not_lt_zero _)
  | n + 1, v, g, s, m, hn, hd, hw, h3, hm, p => by
    by_cases tv : ∀ xs, v ≠ .tup xs
    · obtain ⟨g', s', x, p', mx, e⟩ := odd_spec p
      have dx := oddL_dep _ mx
      have wx := oddL_wid _ mx
      cases v with
      | tup xs => exact absurd rfl (tv xs)
      | dic t kvs => exact absurd hd (by show ¬ (1000 ≤ 50); decide)
      | bl b =>
        refine ⟨g, s, .sh (.bl (!b)), .bl (!b), p, .inl rfl, Nat.zero_le _, Nat.zero_le _, ?_⟩
        rw [f__law_bent, mkFn_eq]
        simp only [KO_some, KO_none, KO_ite, KE_some, KE_none, KE_ite, K_ret, K_stuck, K_lift, kId_eq, eId_eq, un1_some, op2_some, dat_sh, dat_ow, dat_pl, dat_tp, sbsD_nil, sbsD_cons, toD_sh, toD_ow, toD_io, toD_lst, toD_dic, at_zero, at_succ, kV_sh, kV_lst, kV_dic, K_mV, kP_sh, kP_ow, kP_io, K_mP, kM_sh, kM_ow, K_mMv, K_mK, kOp2_eq, kOp1_eq, K_mOp, kUn_eq, K_mUn, K_mNeg, isNB_eq, notNB_eq, K_mIsN, K_mNotN, lele_int, kLL3_eq, kLL2_eq, kLL1_eq, K_mLeLe, kTV_eq, K_tV, kTA_eq, K_tAnd, kTO_eq, K_tOr, kTN_eq, K_tNot, K_yes, kMA2_eq, kMA1_eq, K_mAnd, kMO2_eq, kMO1_eq, K_mOr, notB_bl, K_mNot, kIf_eq, K_mIf, boolV_bl, tru_bl, tru_non, tru_int, tru_str, tru_tup, tru_lst, K_mNil, kC2_eq, kC1_eq, K_mCons, keptO_nil, keptO_sh, keptO_ow, keptO_tp, tupO_eq, lstO_eq, kTup_eq, kLst_eq, K_mTup, K_mLst, fzO_eq, kFz_eq, K_mFz, lzip2_eq, kLZ2_eq, kLZ1_eq, K_mLZip, K_mDic0, dic1_eq, kD2_eq, kD1_eq, K_mDic1, elB_sh, elB_ow, ixO_sh, ixO_ow, ixO_pl, ixO_tp, kIx2_eq, kIx1_eq, K_mIx, slO_eq, kSl3_eq, kSl2_eq, kSl1_eq, K_mSl, intD_int, K_mEndN, kEnd_eq, K_mEndS, K_mRev, get3_eq, kG3_eq, kG2_eq, kG1_eq, K_mGet, txtB_str, kSp3_eq, kSp2_eq, kSp1_eq, K_mSplit, lent_nil, lent_sh1, lent_ow, lent_tp, lent_pl, nodup0, nodup1, nodup2, handL_nil, handL_cons, handB_sh, handB_lst, handB_dic, handB_tp, handB_pl, lendS_sh, lendS_ow, lendS_io, argsO_eq, backL_nil, backL_cons, backB_sh, backB_ow, backB_tp, backB_plN, backB_plS, putE_zero, putE_succ, put_ow, put_io, sput_sh, KF_ok, KF_exc, KF_none, KF_ite, KF_r, kArg_eq, kCall_eq, K_mCall, ioS_io, ioS_sh, ioS_ow, ioS_no, outs0, outs1, outs2, outs3, outs4, outs5, kFn_rt, kFn_nx, eFn_eq, mkFn_eq, rep0, repS, itO_eq, kIt_eq, K_items, dItems_tup, dItems_lst, rngD_int, kRg_eq, K_itRange, zipO_eq, kZ2_eq, kZ1_eq, K_itZip, enO_eq, kEn_eq, K_itEnum, zip2_tup, zip2_lst, zipD_cons, zipD_nil, zipD_nil2, enumD_tup, enumD_lst, putS_succ, putS_no, putS_sh, putS_ow, putTg_one, putTg_tup, putSs_nil, putSs_cons, slots_one, slots_tup, clr_nil, clr_cons, back_nil, back_cons, free_nil, free_cons, fr1_succ, fr1_no, fr1_sh, kCoE_eq, kCo_eq, K_mComp, K_comp0, kCo3_eq, kCo2_eq, kCo1_eq, kCo0_eq, K_comp1, K_sPass, K_sBreak, K_sCont, kSeq_nx, kSeq_rt, kSeq_bk, kSeq_ct, K_sSeq, kDrop_eq, K_sDrop, K_sIf, kNx_eq, ownO_sh, ownO_ow, ownO_tp, setO_eq, kSet_eq, K_sSet, ownOs_nil, ownOs_cons, putA_nil, putA_cons, parO_eq, kPar_eq, K_sPar, tupB_tp, tupB_sh, unpO_eq, kUnp_eq, K_sUnp, putOE_zero, putOE_succ, obj_ow, obj_io, hasO_zero, hasO_succ, xsO_eq, kXS3_eq, kXS2_eq, kXS1_eq, K_sIxSet, apO_eq, kNon_eq, kAp2_eq, kAp1_eq, K_mApp, addAt_lst, setAt_lst, setAt_dicS, kFor_eq, K_sFor, kFor2_nx, kFor2_ct, kFor2_bk, kFor2_rt, kFor1_eq, K_for0, K_for1, kWh2_nx, kWh2_ct, kWh2_bk, kWh2_rt, kWh1_eq, kRet_sh, kRet_ow, kRet_tp, K_sRet, tpO_eq, kTp_eq, K_mTp, sbBs_nil, sbBs_cons, sbB_sh, sbB_ow, K_sRaise, eTry_eq, K_sTry, K_tryGo0, K_tryGo1, Add_int, Add_tup, Add_lst, Add_str, Sub_int, Mul_int, Mul_lst, Fdiv_int, Mod_int, Lt_int, Le_int, Gt_int, Ge_int, Eq_eq, Ne_eq, In_tup, In_lst, Nin_tup, Nin_lst, mem_nil, mem_cons, Ix_tup, Ix_lst, atI_0, atI_1, atI_2, atI_3, atI_4, atI_5, atI_6, Len_tup, Len_lst, Len_str, Int_int, Int_bl, Tuple_lst, Tuple_tup, List_lst, List_tup, bools_nil, bools_cons, All_lst, Any_lst, dep_non, dep_bl, dep_int, dep_str, dep_tupS, dep_lstS, deps_nil, deps_cons, isNon_non, isNon_int, isNon_tup, isNon_lst, isNon_str, isNon_bl, eqv_ss, eqv_ii, eqv_bb, eqv_nn, eqv_tt, eqv_ll, eqvs_nn, eqvs_nc, eqvs_cn, eqvs_cc, upto_1, upto_2, upto_3, upto_7, K_mAdd, K_mSub, K_mMul, K_mFdiv, K_mMod, K_mPow, K_mEq, K_mNe, K_mLt, K_mLe, K_mGt, K_mGe, K_mIn, K_mNin, K_mMin, K_mJoin, K_mIndex, K_mLen, K_mInt, K_mStr, K_mTuple, K_mList, K_mAll, K_mAny, K_mSorted, K_mDict, K_mIsA, IsA_tup, IsA_lst, IsA_str, IsA_int, IsA_bl, Mul_tup, txt_nc, txt_cn, IsA_non, isA, List.drop_zero, List.take_zero, List.drop_succ_cons, List.take_succ_cons, List.drop_nil, List.take_nil, Nat.sub_zero, reduceIte, ite_true, ite_false, Nat.reduceAdd, Nat.reduceMul, Nat.reduceSub, Nat.reduceLT, Nat.reduceLeDiff, Nat.reduceEqDiff, Nat.reduceBEq, Nat.reduceBNe, Nat.reducePow, Int.reduceAdd, Int.reduceMul, Int.reduceNeg, Int.reduceSub, Int.reduceLE, Int.reduceLT, Int.reduceEq, Int.reduceBEq, Int.reduceBNe, Int.reducePow, Int.reduceToNat, Int.reduceNe, Int.reduceMod, Int.reduceDiv, Int.cast_ofNat_Int, Int.ofNat_zero, Int.ofNat_one, List.cons_beq_cons, and_true, true_and, and_self, and_false, false_and, not_false_eq_true, not_true_eq_false, or_true, true_or, or_false, false_or, List.map_cons, List.map_nil, List.length_cons, List.length_nil, List.cons_append, List.nil_append, List.append_nil, List.set_cons_zero, List.set_cons_succ, Option.bind_some, Option.bind_none, Option.map_some, Option.map_none, List.head?_cons, if_true, Bool.and_true, Bool.true_and, Bool.and_false, Bool.false_and, Bool.or_true, Bool.true_or, Bool.or_false, Bool.false_or, Bool.not_true, Bool.not_false, Bool.not_not, Bool.and_self, Bool.or_self, decide_true, decide_false, decide_eq_true_eq, beq_self_eq_true, Bool.false_eq_true, List.all_cons, List.all_nil, List.any_cons, List.any_nil, id_eq, Nat.max_self, Nat.sub_self, Nat.zero_le, Bool.decide_eq_true, List.isEmpty_cons, List.isEmpty_nil, ite_self, Nat.max_zero, Nat.zero_max]
      | _ =>
        refine ⟨g', s', .sh x, x, p', .inl rfl, by omega, by omega, ?_⟩
        rw [f__law_bent, mkFn_eq]
        simp only [KO_some, KO_none, KO_ite, KE_some, KE_none, KE_ite, K_ret, K_stuck, K_lift, kId_eq, eId_eq, un1_some, op2_some, dat_sh, dat_ow, dat_pl, dat_tp, sbsD_nil, sbsD_cons, toD_sh, toD_ow, toD_io, toD_lst, toD_dic, at_zero, at_succ, kV_sh, kV_lst, kV_dic, K_mV, kP_sh, kP_ow, kP_io, K_mP, kM_sh, kM_ow, K_mMv, K_mK, kOp2_eq, kOp1_eq, K_mOp, kUn_eq, K_mUn, K_mNeg, isNB_eq, notNB_eq, K_mIsN, K_mNotN, lele_int, kLL3_eq, kLL2_eq, kLL1_eq, K_mLeLe, kTV_eq, K_tV, kTA_eq, K_tAnd, kTO_eq, K_tOr, kTN_eq, K_tNot, K_yes, kMA2_eq, kMA1_eq, K_mAnd, kMO2_eq, kMO1_eq, K_mOr, notB_bl, K_mNot, kIf_eq, K_mIf, boolV_bl, tru_bl, tru_non, tru_int, tru_str, tru_tup, tru_lst, K_mNil, kC2_eq, kC1_eq, K_mCons, keptO_nil, keptO_sh, keptO_ow, keptO_tp, tupO_eq, lstO_eq, kTup_eq, kLst_eq, K_mTup, K_mLst, fzO_eq, kFz_eq, K_mFz, lzip2_eq, kLZ2_eq, kLZ1_eq, K_mLZip, K_mDic0, dic1_eq, kD2_eq, kD1_eq, K_mDic1, elB_sh, elB_ow, ixO_sh, ixO_ow, ixO_pl, ixO_tp, kIx2_eq, kIx1_eq, K_mIx, slO_eq, kSl3_eq, kSl2_eq, kSl1_eq, K_mSl, intD_int, K_mEndN, kEnd_eq, K_mEndS, K_mRev, get3_eq, kG3_eq, kG2_eq, kG1_eq, K_mGet, txtB_str, kSp3_eq, kSp2_eq, kSp1_eq, K_mSplit, lent_nil, lent_sh1, lent_ow, lent_tp, lent_pl, nodup0, nodup1, nodup2, handL_nil, handL_cons, handB_sh, handB_lst, handB_dic, handB_tp, handB_pl, lendS_sh, lendS_ow, lendS_io, argsO_eq, backL_nil, backL_cons, backB_sh, backB_ow, backB_tp, backB_plN, backB_plS, putE_zero, putE_succ, put_ow, put_io, sput_sh, KF_ok, KF_exc, KF_none, KF_ite, KF_r, kArg_eq, kCall_eq, K_mCall, ioS_io, ioS_sh, ioS_ow, ioS_no, outs0, outs1, outs2, outs3, outs4, outs5, kFn_rt, kFn_nx, eFn_eq, mkFn_eq, rep0, repS, itO_eq, kIt_eq, K_items, dItems_tup, dItems_lst, rngD_int, kRg_eq, K_itRange, zipO_eq, kZ2_eq, kZ1_eq, K_itZip, enO_eq, kEn_eq, K_itEnum, zip2_tup, zip2_lst, zipD_cons, zipD_nil, zipD_nil2, enumD_tup, enumD_lst, putS_succ, putS_no, putS_sh, putS_ow, putTg_one, putTg_tup, putSs_nil, putSs_cons, slots_one, slots_tup, clr_nil, clr_cons, back_nil, back_cons, free_nil, free_cons, fr1_succ, fr1_no, fr1_sh, kCoE_eq, kCo_eq, K_mComp, K_comp0, kCo3_eq, kCo2_eq, kCo1_eq, kCo0_eq, K_comp1, K_sPass, K_sBreak, K_sCont, kSeq_nx, kSeq_rt, kSeq_bk, kSeq_ct, K_sSeq, kDrop_eq, K_sDrop, K_sIf, kNx_eq, ownO_sh, ownO_ow, ownO_tp, setO_eq, kSet_eq, K_sSet, ownOs_nil, ownOs_cons, putA_nil, putA_cons, parO_eq, kPar_eq, K_sPar, tupB_tp, tupB_sh, unpO_eq, kUnp_eq, K_sUnp, putOE_zero, putOE_succ, obj_ow, obj_io, hasO_zero, hasO_succ, xsO_eq, kXS3_eq, kXS2_eq, kXS1_eq, K_sIxSet, apO_eq, kNon_eq, kAp2_eq, kAp1_eq, K_mApp, addAt_lst, setAt_lst, setAt_dicS, kFor_eq, K_sFor, kFor2_nx, kFor2_ct, kFor2_bk, kFor2_rt, kFor1_eq, K_for0, K_for1, kWh2_nx, kWh2_ct, kWh2_bk, kWh2_rt, kWh1_eq, kRet_sh, kRet_ow, kRet_tp, K_sRet, tpO_eq, kTp_eq, K_mTp, sbBs_nil, sbBs_cons, sbB_sh, sbB_ow, K_sRaise, eTry_eq, K_sTry, K_tryGo0, K_tryGo1, Add_int, Add_tup, Add_lst, Add_str, Sub_int, Mul_int, Mul_lst, Fdiv_int, Mod_int, Lt_int, Le_int, Gt_int, Ge_int, Eq_eq, Ne_eq, In_tup, In_lst, Nin_tup, Nin_lst, mem_nil, mem_cons, Ix_tup, Ix_lst, atI_0, atI_1, atI_2, atI_3, atI_4, atI_5, atI_6, Len_tup, Len_lst, Len_str, Int_int, Int_bl, Tuple_lst, Tuple_tup, List_lst, List_tup, bools_nil, bools_cons, All_lst, Any_lst, dep_non, dep_bl, dep_int, dep_str, dep_tupS, dep_lstS, deps_nil, deps_cons, isNon_non, isNon_int, isNon_tup, isNon_lst, isNon_str, isNon_bl, eqv_ss, eqv_ii, eqv_bb, eqv_nn, eqv_tt, eqv_ll, eqvs_nn, eqvs_nc, eqvs_cn, eqvs_cc, upto_1, upto_2, upto_3, upto_7, K_mAdd, K_mSub, K_mMul, K_mFdiv, K_mMod, K_mPow, K_mEq, K_mNe, K_mLt, K_mLe, K_mGt, K_mGe, K_mIn, K_mNin, K_mMin, K_mJoin, K_mIndex, K_mLen, K_mInt, K_mStr, K_mTuple, K_mList, K_mAll, K_mAny, K_mSorted, K_mDict, K_mIsA, IsA_tup, IsA_lst, IsA_str, IsA_int, IsA_bl, Mul_tup, txt_nc, txt_cn, IsA_non, isA, List.drop_zero, List.take_zero, List.drop_succ_cons, List.take_succ_cons, List.drop_nil, List.take_nil, Nat.sub_zero, reduceIte, ite_true, ite_false, Nat.reduceAdd, Nat.reduceMul, Nat.reduceSub, Nat.reduceLT, Nat.reduceLeDiff, Nat.reduceEqDiff, Nat.reduceBEq, Nat.reduceBNe, Nat.reducePow, Int.reduceAdd, Int.reduceMul, Int.reduceNeg, Int.reduceSub, Int.reduceLE, Int.reduceLT, Int.reduceEq, Int.reduceBEq, Int.reduceBNe, Int.reducePow, Int.reduceToNat, Int.reduceNe, Int.reduceMod, Int.reduceDiv, Int.cast_ofNat_Int, Int.ofNat_zero, Int.ofNat_one, List.cons_beq_cons, and_true, true_and, and_self, and_false, false_and, not_false_eq_true, not_true_eq_false, or_true, true_or, or_false, false_or, List.map_cons, List.map_nil, List.length_cons, List.length_nil, List.cons_append, List.nil_append, List.append_nil, List.set_cons_zero, List.set_cons_succ, Option.bind_some, Option.bind_none, Option.map_some, Option.map_none, List.head?_cons, if_true, Bool.and_true, Bool.true_and, Bool.and_false, Bool.false_and, Bool.or_true, Bool.true_or, Bool.or_false, Bool.false_or, Bool.not_true, Bool.not_false, Bool.not_not, Bool.and_self, Bool.or_self, decide_true, decide_false, decide_eq_true_eq, beq_self_eq_true, Bool.false_eq_true, List.all_cons, List.all_nil, List.any_cons, List.any_nil, id_eq, Nat.max_self, Nat.sub_self, Nat.zero_le, Bool.decide_eq_true, List.isEmpty_cons, List.isEmpty_nil, ite_self, Nat.max_zero, Nat.zero_max, e]
    · obtain ⟨xs, rfl⟩ : ∃ xs, v = .tup xs := Classical.byContradiction fun h => tv fun xs e => h ⟨xs, e⟩
      obtain ⟨g1, s1, k, p1, k0, k1, e1⟩ := lot_spec (n := 7) p (by decide) (by decide)
      by_cases hx : xs = []
      · subst hx
        obtain ⟨g', s', x, p', mx, e⟩ := odd_spec p
        have dx := oddL_dep _ mx
        have wx := oddL_wid _ mx
        refine ⟨g', s', .sh x, x, p', .inl rfl, by omega, by omega, ?_⟩
        rw [f__law_bent, mkFn_eq]
        simp only [KO_some, KO_none, KO_ite, KE_some, KE_none, KE_ite, K_ret, K_stuck, K_lift, kId_eq, eId_eq, un1_some, op2_some, dat_sh, dat_ow, dat_pl, dat_tp, sbsD_nil, sbsD_cons, toD_sh, toD_ow, toD_io, toD_lst, toD_dic, at_zero, at_succ, kV_sh, kV_lst, kV_dic, K_mV, kP_sh, kP_ow, kP_io, K_mP, kM_sh, kM_ow, K_mMv, K_mK, kOp2_eq, kOp1_eq, K_mOp, kUn_eq, K_mUn, K_mNeg, isNB_eq, notNB_eq, K_mIsN, K_mNotN, lele_int, kLL3_eq, kLL2_eq, kLL1_eq, K_mLeLe, kTV_eq, K_tV, kTA_eq, K_tAnd, kTO_eq, K_tOr, kTN_eq, K_tNot, K_yes, kMA2_eq, kMA1_eq, K_mAnd, kMO2_eq, kMO1_eq, K_mOr, notB_bl, K_mNot, kIf_eq, K_mIf, boolV_bl, tru_bl, tru_non, tru_int, tru_str, tru_tup, tru_lst, K_mNil, kC2_eq, kC1_eq, K_mCons, keptO_nil, keptO_sh, keptO_ow, keptO_tp, tupO_eq, lstO_eq, kTup_eq, kLst_eq, K_mTup, K_mLst, fzO_eq, kFz_eq, K_mFz, lzip2_eq, kLZ2_eq, kLZ1_eq, K_mLZip, K_mDic0, dic1_eq, kD2_eq, kD1_eq, K_mDic1, elB_sh, elB_ow, ixO_sh, ixO_ow, ixO_pl, ixO_tp, kIx2_eq, kIx1_eq, K_mIx, slO_eq, kSl3_eq, kSl2_eq, kSl1_eq, K_mSl, intD_int, K_mEndN, kEnd_eq, K_mEndS, K_mRev, get3_eq, kG3_eq, kG2_eq, kG1_eq, K_mGet, txtB_str, kSp3_eq, kSp2_eq, kSp1_eq, K_mSplit, lent_nil, lent_sh1, lent_ow, lent_tp, lent_pl, nodup0, nodup1, nodup2, handL_nil, handL_cons, handB_sh, handB_lst, handB_dic, handB_tp, handB_pl, lendS_sh, lendS_ow, lendS_io, argsO_eq, backL_nil, backL_cons, backB_sh, backB_ow, backB_tp, backB_plN, backB_plS, putE_zero, putE_succ, put_ow, put_io, sput_sh, KF_ok, KF_exc, KF_none, KF_ite, KF_r, kArg_eq, kCall_eq, K_mCall, ioS_io, ioS_sh, ioS_ow, ioS_no, outs0, outs1, outs2, outs3, outs4, outs5, kFn_rt, kFn_nx, eFn_eq, mkFn_eq, rep0, repS, itO_eq, kIt_eq, K_items, dItems_tup, dItems_lst, rngD_int, kRg_eq, K_itRange, zipO_eq, kZ2_eq, kZ1_eq, K_itZip, enO_eq, kEn_eq, K_itEnum, zip2_tup, zip2_lst, zipD_cons, zipD_nil, zipD_nil2, enumD_tup, enumD_lst, putS_succ, putS_no, putS_sh, putS_ow, putTg_one, putTg_tup, putSs_nil, putSs_cons, slots_one, slots_tup, clr_nil, clr_cons, back_nil, back_cons, free_nil, free_cons, fr1_succ, fr1_no, fr1_sh, kCoE_eq, kCo_eq, K_mComp, K_comp0, kCo3_eq, kCo2_eq, kCo1_eq, kCo0_eq, K_comp1, K_sPass, K_sBreak, K_sCont, kSeq_nx, kSeq_rt, kSeq_bk, kSeq_ct, K_sSeq, kDrop_eq, K_sDrop, K_sIf, kNx_eq, ownO_sh, ownO_ow, ownO_tp, setO_eq, kSet_eq, K_sSet, ownOs_nil, ownOs_cons, putA_nil, putA_cons, parO_eq, kPar_eq, K_sPar, tupB_tp, tupB_sh, unpO_eq, kUnp_eq, K_sUnp, putOE_zero, putOE_succ, obj_ow, obj_io, hasO_zero, hasO_succ, xsO_eq, kXS3_eq, kXS2_eq, kXS1_eq, K_sIxSet, apO_eq, kNon_eq, kAp2_eq, kAp1_eq, K_mApp, addAt_lst, setAt_lst, setAt_dicS, kFor_eq, K_sFor, kFor2_nx, kFor2_ct, kFor2_bk, kFor2_rt, kFor1_eq, K_for0, K_for1, kWh2_nx, kWh2_ct, kWh2_bk, kWh2_rt, kWh1_eq, kRet_sh, kRet_ow, kRet_tp, K_sRet, tpO_eq, kTp_eq, K_mTp, sbBs_nil, sbBs_cons, sbB_sh, sbB_ow, K_sRaise, eTry_eq, K_sTry, K_tryGo0, K_tryGo1, Add_int, Add_tup, Add_lst, Add_str, Sub_int, Mul_int, Mul_lst, Fdiv_int, Mod_int, Lt_int, Le_int, Gt_int, Ge_int, Eq_eq, Ne_eq, In_tup, In_lst, Nin_tup, Nin_lst, mem_nil, mem_cons, Ix_tup, Ix_lst, atI_0, atI_1, atI_2, atI_3, atI_4, atI_5, atI_6, Len_tup, Len_lst, Len_str, Int_int, Int_bl, Tuple_lst, Tuple_tup, List_lst, List_tup, bools_nil, bools_cons, All_lst, Any_lst, dep_non, dep_bl, dep_int, dep_str, dep_tupS, dep_lstS, deps_nil, deps_cons, isNon_non, isNon_int, isNon_tup, isNon_lst, isNon_str, isNon_bl, eqv_ss, eqv_ii, eqv_bb, eqv_nn, eqv_tt, eqv_ll, eqvs_nn, eqvs_nc, eqvs_cn, eqvs_cc, upto_1, upto_2, upto_3, upto_7, K_mAdd, K_mSub, K_mMul, K_mFdiv, K_mMod, K_mPow, K_mEq, K_mNe, K_mLt, K_mLe, K_mGt, K_mGe, K_mIn, K_mNin, K_mMin, K_mJoin, K_mIndex, K_mLen, K_mInt, K_mStr, K_mTuple, K_mList, K_mAll, K_mAny, K_mSorted, K_mDict, K_mIsA, IsA_tup, IsA_lst, IsA_str, IsA_int, IsA_bl, Mul_tup, txt_nc, txt_cn, IsA_non, isA, List.drop_zero, List.take_zero, List.drop_succ_cons, List.take_succ_cons, List.drop_nil, List.take_nil, Nat.sub_zero, reduceIte, ite_true, ite_false, Nat.reduceAdd, Nat.reduceMul, Nat.reduceSub, Nat.reduceLT, Nat.reduceLeDiff, Nat.reduceEqDiff, Nat.reduceBEq, Nat.reduceBNe, Nat.reducePow, Int.reduceAdd, Int.reduceMul, Int.reduceNeg, Int.reduceSub, Int.reduceLE, Int.reduceLT, Int.reduceEq, Int.reduceBEq, Int.reduceBNe, Int.reducePow, Int.reduceToNat, Int.reduceNe, Int.reduceMod, Int.reduceDiv, Int.cast_ofNat_Int, Int.ofNat_zero, Int.ofNat_one, List.cons_beq_cons, and_true, true_and, and_self, and_false, false_and, not_false_eq_true, not_true_eq_false, or_true, true_or, or_false, false_or, List.map_cons, List.map_nil, List.length_cons, List.length_nil, List.cons_append, List.nil_append, List.append_nil, List.set_cons_zero, List.set_cons_succ, Option.bind_some, Option.bind_none, Option.map_some, Option.map_none, List.head?_cons, if_true, Bool.and_true, Bool.true_and, Bool.and_false, Bool.false_and, Bool.or_true, Bool.true_or, Bool.or_false, Bool.false_or, Bool.not_true, Bool.not_false, Bool.not_not, Bool.and_self, Bool.or_self, decide_true, decide_false, decide_eq_true_eq, beq_self_eq_true, Bool.false_eq_true, List.all_cons, List.all_nil, List.any_cons, List.any_nil, id_eq, Nat.max_self, Nat.sub_self, Nat.zero_le, Bool.decide_eq_true, List.isEmpty_cons, List.isEmpty_nil, ite_self, Nat.max_zero, Nat.zero_max, e]
      · have ne : D.eqvs xs [] = false := by cases xs with | nil => exact absurd rfl hx | cons a r => rfl
        have dx : D.deps xs + 1 ≤ 60 := by have : D.deps xs + 1 ≤ 50 := hd; omega
        by_cases hk : k = 0
        · subst hk
          obtain ⟨g', s', x, p', mx, e⟩ := odd_spec p1
          have dx' := oddL_dep _ mx
          have wx := oddL_wid _ mx
          refine ⟨g', s', .sh x, x, p', .inl rfl, by omega, by omega, ?_⟩
          rw [f__law_bent, mkFn_eq]
          simp only [KO_some, KO_none, KO_ite, KE_some, KE_none, KE_ite, K_ret, K_stuck, K_lift, kId_eq, eId_eq, un1_some, op2_some, dat_sh, dat_ow, dat_pl, dat_tp, sbsD_nil, sbsD_cons, toD_sh, toD_ow, toD_io, toD_lst, toD_dic, at_zero, at_succ, kV_sh, kV_lst, kV_dic, K_mV, kP_sh, kP_ow, kP_io, K_mP, kM_sh, kM_ow, K_mMv, K_mK, kOp2_eq, kOp1_eq, K_mOp, kUn_eq, K_mUn, K_mNeg, isNB_eq, notNB_eq, K_mIsN, K_mNotN, lele_int, kLL3_eq, kLL2_eq, kLL1_eq, K_mLeLe, kTV_eq, K_tV, kTA_eq, K_tAnd, kTO_eq, K_tOr, kTN_eq, K_tNot, K_yes, kMA2_eq, kMA1_eq, K_mAnd, kMO2_eq, kMO1_eq, K_mOr, notB_bl, K_mNot, kIf_eq, K_mIf, boolV_bl, tru_bl, tru_non, tru_int, tru_str, tru_tup, tru_lst, K_mNil, kC2_eq, kC1_eq, K_mCons, keptO_nil, keptO_sh, keptO_ow, keptO_tp, tupO_eq, lstO_eq, kTup_eq, kLst_eq, K_mTup, K_mLst, fzO_eq, kFz_eq, K_mFz, lzip2_eq, kLZ2_eq, kLZ1_eq, K_mLZip, K_mDic0, dic1_eq, kD2_eq, kD1_eq, K_mDic1, elB_sh, elB_ow, ixO_sh, ixO_ow, ixO_pl, ixO_tp, kIx2_eq, kIx1_eq, K_mIx, slO_eq, kSl3_eq, kSl2_eq, kSl1_eq, K_mSl, intD_int, K_mEndN, kEnd_eq, K_mEndS, K_mRev, get3_eq, kG3_eq, kG2_eq, kG1_eq, K_mGet, txtB_str, kSp3_eq, kSp2_eq, kSp1_eq, K_mSplit, lent_nil, lent_sh1, lent_ow, lent_tp, lent_pl, nodup0, nodup1, nodup2, handL_nil, handL_cons, handB_sh, handB_lst, handB_dic, handB_tp, handB_pl, lendS_sh, lendS_ow, lendS_io, argsO_eq, backL_nil, backL_cons, backB_sh, backB_ow, backB_tp, backB_plN, backB_plS, putE_zero, putE_succ, put_ow, put_io, sput_sh, KF_ok, KF_exc, KF_none, KF_ite, KF_r, kArg_eq, kCall_eq, K_mCall, ioS_io, ioS_sh, ioS_ow, ioS_no, outs0, outs1, outs2, outs3, outs4, outs5, kFn_rt, kFn_nx, eFn_eq, mkFn_eq, rep0, repS, itO_eq, kIt_eq, K_items, dItems_tup, dItems_lst, rngD_int, kRg_eq, K_itRange, zipO_eq, kZ2_eq, kZ1_eq, K_itZip, enO_eq, kEn_eq, K_itEnum, zip2_tup, zip2_lst, zipD_cons, zipD_nil, zipD_nil2, enumD_tup, enumD_lst, putS_succ, putS_no, putS_sh, putS_ow, putTg_one, putTg_tup, putSs_nil, putSs_cons, slots_one, slots_tup, clr_nil, clr_cons, back_nil, back_cons, free_nil, free_cons, fr1_succ, fr1_no, fr1_sh, kCoE_eq, kCo_eq, K_mComp, K_comp0, kCo3_eq, kCo2_eq, kCo1_eq, kCo0_eq, K_comp1, K_sPass, K_sBreak, K_sCont, kSeq_nx, kSeq_rt, kSeq_bk, kSeq_ct, K_sSeq, kDrop_eq, K_sDrop, K_sIf, kNx_eq, ownO_sh, ownO_ow, ownO_tp, setO_eq, kSet_eq, K_sSet, ownOs_nil, ownOs_cons, putA_nil, putA_cons, parO_eq, kPar_eq, K_sPar, tupB_tp, tupB_sh, unpO_eq, kUnp_eq, K_sUnp, putOE_zero, putOE_succ, obj_ow, obj_io, hasO_zero, hasO_succ, xsO_eq, kXS3_eq, kXS2_eq, kXS1_eq, K_sIxSet, apO_eq, kNon_eq, kAp2_eq, kAp1_eq, K_mApp, addAt_lst, setAt_lst, setAt_dicS, kFor_eq, K_sFor, kFor2_nx, kFor2_ct, kFor2_bk, kFor2_rt, kFor1_eq, K_for0, K_for1, kWh2_nx, kWh2_ct, kWh2_bk, kWh2_rt, kWh1_eq, kRet_sh, kRet_ow, kRet_tp, K_sRet, tpO_eq, kTp_eq, K_mTp, sbBs_nil, sbBs_cons, sbB_sh, sbB_ow, K_sRaise, eTry_eq, K_sTry, K_tryGo0, K_tryGo1, Add_int, Add_tup, Add_lst, Add_str, Sub_int, Mul_int, Mul_lst, Fdiv_int, Mod_int, Lt_int, Le_int, Gt_int, Ge_int, Eq_eq, Ne_eq, In_tup, In_lst, Nin_tup, Nin_lst, mem_nil, mem_cons, Ix_tup, Ix_lst, atI_0, atI_1, atI_2, atI_3, atI_4, atI_5, atI_6, Len_tup, Len_lst, Len_str, Int_int, Int_bl, Tuple_lst, Tuple_tup, List_lst, List_tup, bools_nil, bools_cons, All_lst, Any_lst, dep_non, dep_bl, dep_int, dep_str, dep_tupS, dep_lstS, deps_nil, deps_cons, isNon_non, isNon_int, isNon_tup, isNon_lst, isNon_str, isNon_bl, eqv_ss, eqv_ii, eqv_bb, eqv_nn, eqv_tt, eqv_ll, eqvs_nn, eqvs_nc, eqvs_cn, eqvs_cc, upto_1, upto_2, upto_3, upto_7, K_mAdd, K_mSub, K_mMul, K_mFdiv, K_mMod, K_mPow, K_mEq, K_mNe, K_mLt, K_mLe, K_mGt, K_mGe, K_mIn, K_mNin, K_mMin, K_mJoin, K_mIndex, K_mLen, K_mInt, K_mStr, K_mTuple, K_mList, K_mAll, K_mAny, K_mSorted, K_mDict, K_mIsA, IsA_tup, IsA_lst, IsA_str, IsA_int, IsA_bl, Mul_tup, txt_nc, txt_cn, IsA_non, isA, List.drop_zero, List.take_zero, List.drop_succ_cons, List.take_succ_cons, List.drop_nil, List.take_nil, Nat.sub_zero, reduceIte, ite_true, ite_false, Nat.reduceAdd, Nat.reduceMul, Nat.reduceSub, Nat.reduceLT, Nat.reduceLeDiff, Nat.reduceEqDiff, Nat.reduceBEq, Nat.reduceBNe, Nat.reducePow, Int.reduceAdd, Int.reduceMul, Int.reduceNeg, Int.reduceSub, Int.reduceLE, Int.reduceLT, Int.reduceEq, Int.reduceBEq, Int.reduceBNe, Int.reducePow, Int.reduceToNat, Int.reduceNe, Int.reduceMod, Int.reduceDiv, Int.cast_ofNat_Int, Int.ofNat_zero, Int.ofNat_one, List.cons_beq_cons, and_true, true_and, and_self, and_false, false_and, not_false_eq_true, not_true_eq_false, or_true, true_or, or_false, false_or, List.map_cons, List.map_nil, List.length_cons, List.length_nil, List.cons_append, List.nil_append, List.append_nil, List.set_cons_zero, List.set_cons_succ, Option.bind_some, Option.bind_none, Option.map_some, Option.map_none, List.head?_cons, if_true, Bool.and_true, Bool.true_and, Bool.and_false, Bool.false_and, Bool.or_true, Bool.true_or, Bool.or_false, Bool.false_or, Bool.not_true, Bool.not_false, Bool.not_not, Bool.and_self, Bool.or_self, decide_true, decide_false, decide_eq_true_eq, beq_self_eq_true, Bool.false_eq_true, List.all_cons, List.all_nil, List.any_cons, List.any_nil, id_eq, Nat.max_self, Nat.sub_self, Nat.zero_le, Bool.decide_eq_true, List.isEmpty_cons, List.isEmpty_nil, ite_self, Nat.max_zero, Nat.zero_max, e, ne, e1, dx]
        · have hL : 1 ≤ xs.length := by cases xs with | nil => exact absurd rfl hx | cons a r => simp
          have hlen : xs.length ≤ m := Nat.le_trans (Nat.le_max_left _ _) hw
          have hmem : ∀ z ∈ xs, D.dep z + 1 ≤ D.dep (.tup xs) ∧ D.wid z ≤ m := fun z mz => ⟨Nat.succ_le_succ (mem_dep mz), Nat.le_trans (mem_wid mz) (Nat.le_trans (Nat.le_max_right _ _) hw)⟩
          have hk0 : (k == 0) = false := by simpa using hk
          obtain ⟨g2, s2, k2, p2, k20, k21, e2⟩ := lot_spec (n := (xs.length : Int)) p1 (by omega) (by omega)
          obtain ⟨j, rfl⟩ := Int.eq_ofNat_of_zero_le k20
          obtain ⟨g3, s3, w, p3, w0, w1, e3⟩ := lot_spec (n := 11) p2 (by decide) (by decide)
          have hj : j < xs.length := by omega
          have hj' : j ≤ xs.length := by omega
          have hj1 : j + 1 ≤ xs.length := by omega
          have hc : ((j : Int) + 1) = ((j + 1 : Nat) : Int) := rfl
          have fine : ∀ (zs : List D), zs.length ≤ m + 1 → (∀ z ∈ zs, z ∈ xs ∨ (D.dep z + 1 ≤ D.dep (.tup xs) + 2 ∧ D.wid z ≤ m + 1)) → D.dep (.tup zs) ≤ D.dep (.tup xs) + 2 ∧ D.wid (.tup zs) ≤ m + 1 := fun zs hl hz => by
            have := tup_fine (zs := zs) (d := D.dep (.tup xs) + 1) (m := m + 1) hl fun z mz => by
              rcases hz z mz with h | h
              · have := hmem z h; omega
              · omega
            exact this
          have mt : ∀ {z : D} {i : Nat}, z ∈ xs.take i → z ∈ xs := fun h => List.mem_of_mem_take h
          have md : ∀ {z : D} {i : Nat}, z ∈ xs.drop i → z ∈ xs := fun h => List.mem_of_mem_drop h
          have lim : ∀ n : Nat, n < 2000 → n ≤ LIM := fun n h => by show n ≤ 16777216; omega
          have lt : ∀ i : Nat, (xs.take i).length ≤ m := fun i => by simp; omega
          have ld : ∀ i : Nat, (xs.drop i).length ≤ m := fun i => by simp; omega
          have two : ∀ (g4 s4 : Int) (ys zs us : List D), Pot g4 s4 → (∀ z ∈ ys, z ∈ xs) → (∀ z ∈ us, z ∈ xs) → ys.length + zs.length + us.length ≤ m + 1 → (∀ z ∈ zs, D.dep z + 1 ≤ D.dep (.tup xs) + 2 ∧ D.wid z ≤ m + 1) →
              f__law_bent (n + 1) [pot g s, .sh (.tup xs)] = some (.ok (.sh (.tup (ys ++ zs ++ us))), [some (pot g4 s4), none]) →
              ∃ g' s' b x, Pot g' s' ∧ Bent b x ∧ D.dep x ≤ D.dep (.tup xs) + 2 ∧ D.wid x ≤ m + 1 ∧ f__law_bent (n + 1) [pot g s, .sh (.tup xs)] = some (.ok b, [some (pot g' s'), none]) := fun g4 s4 ys zs us p4 hy hu hl hz e => by
            have f := fine (ys ++ zs ++ us) (by simp; omega) fun z mz => by
              rcases List.mem_append.mp mz with h | h
              · rcases List.mem_append.mp h with h | h
                · exact .inl (hy z h)
                · exact .inr (hz z h)
              · exact .inl (hu z h)
            exact ⟨g4, s4, _, _, p4, .inl rfl, f.1, f.2, e⟩
          by_cases w0' : w = 0
          · subst w0'
            refine two g3 s3 (xs.take j) [] (xs.drop (j + 1)) p3 (fun z => mt) (fun z => md) (by simp; omega) (fun z h => by cases h) ?_
            rw [f__law_bent, mkFn_eq]
            simp only [KO_some, KO_none, KO_ite, KE_some, KE_none, KE_ite, K_ret, K_stuck, K_lift, kId_eq, eId_eq, un1_some, op2_some, dat_sh, dat_ow, dat_pl, dat_tp, sbsD_nil, sbsD_cons, toD_sh, toD_ow, toD_io, toD_lst, toD_dic, at_zero, at_succ, kV_sh, kV_lst, kV_dic, K_mV, kP_sh, kP_ow, kP_io, K_mP, kM_sh, kM_ow, K_mMv, K_mK, kOp2_eq, kOp1_eq, K_mOp, kUn_eq, K_mUn, K_mNeg, isNB_eq, notNB_eq, K_mIsN, K_mNotN, lele_int, kLL3_eq, kLL2_eq, kLL1_eq, K_mLeLe, kTV_eq, K_tV, kTA_eq, K_tAnd, kTO_eq, K_tOr, kTN_eq, K_tNot, K_yes, kMA2_eq, kMA1_eq, K_mAnd, kMO2_eq, kMO1_eq, K_mOr, notB_bl, K_mNot, kIf_eq, K_mIf, boolV_bl, tru_bl, tru_non, tru_int, tru_str, tru_tup, tru_lst, K_mNil, kC2_eq, kC1_eq, K_mCons, keptO_nil, keptO_sh, keptO_ow, keptO_tp, tupO_eq, lstO_eq, kTup_eq, kLst_eq, K_mTup, K_mLst, fzO_eq, kFz_eq, K_mFz, lzip2_eq, kLZ2_eq, kLZ1_eq, K_mLZip, K_mDic0, dic1_eq, kD2_eq, kD1_eq, K_mDic1, elB_sh, elB_ow, ixO_sh, ixO_ow, ixO_pl, ixO_tp, kIx2_eq, kIx1_eq, K_mIx, slO_eq, kSl3_eq, kSl2_eq, kSl1_eq, K_mSl, intD_int, K_mEndN, kEnd_eq, K_mEndS, K_mRev, get3_eq, kG3_eq, kG2_eq, kG1_eq, K_mGet, txtB_str, kSp3_eq, kSp2_eq, kSp1_eq, K_mSplit, lent_nil, lent_sh1, lent_ow, lent_tp, lent_pl, nodup0, nodup1, nodup2, handL_nil, handL_cons, handB_sh, handB_lst, handB_dic, handB_tp, handB_pl, lendS_sh, lendS_ow, lendS_io, argsO_eq, backL_nil, backL_cons, backB_sh, backB_ow, backB_tp, backB_plN, backB_plS, putE_zero, putE_succ, put_ow, put_io, sput_sh, KF_ok, KF_exc, KF_none, KF_ite, KF_r, kArg_eq, kCall_eq, K_mCall, ioS_io, ioS_sh, ioS_ow, ioS_no, outs0, outs1, outs2, outs3, outs4, outs5, kFn_rt, kFn_nx, eFn_eq, mkFn_eq, rep0, repS, itO_eq, kIt_eq, K_items, dItems_tup, dItems_lst, rngD_int, kRg_eq, K_itRange, zipO_eq, kZ2_eq, kZ1_eq, K_itZip, enO_eq, kEn_eq, K_itEnum, zip2_tup, zip2_lst, zipD_cons, zipD_nil, zipD_nil2, enumD_tup, enumD_lst, putS_succ, putS_no, putS_sh, putS_ow, putTg_one, putTg_tup, putSs_nil, putSs_cons, slots_one, slots_tup, clr_nil, clr_cons, back_nil, back_cons, free_nil, free_cons, fr1_succ, fr1_no, fr1_sh, kCoE_eq, kCo_eq, K_mComp, K_comp0, kCo3_eq, kCo2_eq, kCo1_eq, kCo0_eq, K_comp1, K_sPass, K_sBreak, K_sCont, kSeq_nx, kSeq_rt, kSeq_bk, kSeq_ct, K_sSeq, kDrop_eq, K_sDrop, K_sIf, kNx_eq, ownO_sh, ownO_ow, ownO_tp, setO_eq, kSet_eq, K_sSet, ownOs_nil, ownOs_cons, putA_nil, putA_cons, parO_eq, kPar_eq, K_sPar, tupB_tp, tupB_sh, unpO_eq, kUnp_eq, K_sUnp, putOE_zero, putOE_succ, obj_ow, obj_io, hasO_zero, hasO_succ, xsO_eq, kXS3_eq, kXS2_eq, kXS1_eq, K_sIxSet, apO_eq, kNon_eq, kAp2_eq, kAp1_eq, K_mApp, addAt_lst, setAt_lst, setAt_dicS, kFor_eq, K_sFor, kFor2_nx, kFor2_ct, kFor2_bk, kFor2_rt, kFor1_eq, K_for0, K_for1, kWh2_nx, kWh2_ct, kWh2_bk, kWh2_rt, kWh1_eq, kRet_sh, kRet_ow, kRet_tp, K_sRet, tpO_eq, kTp_eq, K_mTp, sbBs_nil, sbBs_cons, sbB_sh, sbB_ow, K_sRaise, eTry_eq, K_sTry, K_tryGo0, K_tryGo1, Add_int, Add_tup, Add_lst, Add_str, Sub_int, Mul_int, Mul_lst, Fdiv_int, Mod_int, Lt_int, Le_int, Gt_int, Ge_int, Eq_eq, Ne_eq, In_tup, In_lst, Nin_tup, Nin_lst, mem_nil, mem_cons, Ix_tup, Ix_lst, atI_0, atI_1, atI_2, atI_3, atI_4, atI_5, atI_6, Len_tup, Len_lst, Len_str, Int_int, Int_bl, Tuple_lst, Tuple_tup, List_lst, List_tup, bools_nil, bools_cons, All_lst, Any_lst, dep_non, dep_bl, dep_int, dep_str, dep_tupS, dep_lstS, deps_nil, deps_cons, isNon_non, isNon_int, isNon_tup, isNon_lst, isNon_str, isNon_bl, eqv_ss, eqv_ii, eqv_bb, eqv_nn, eqv_tt, eqv_ll, eqvs_nn, eqvs_nc, eqvs_cn, eqvs_cc, upto_1, upto_2, upto_3, upto_7, K_mAdd, K_mSub, K_mMul, K_mFdiv, K_mMod, K_mPow, K_mEq, K_mNe, K_mLt, K_mLe, K_mGt, K_mGe, K_mIn, K_mNin, K_mMin, K_mJoin, K_mIndex, K_mLen, K_mInt, K_mStr, K_mTuple, K_mList, K_mAll, K_mAny, K_mSorted, K_mDict, K_mIsA, IsA_tup, IsA_lst, IsA_str, IsA_int, IsA_bl, Mul_tup, txt_nc, txt_cn, IsA_non, isA, List.drop_zero, List.take_zero, List.drop_succ_cons, List.take_succ_cons, List.drop_nil, List.take_nil, Nat.sub_zero, reduceIte, ite_true, ite_false, Nat.reduceAdd, Nat.reduceMul, Nat.reduceSub, Nat.reduceLT, Nat.reduceLeDiff, Nat.reduceEqDiff, Nat.reduceBEq, Nat.reduceBNe, Nat.reducePow, Int.reduceAdd, Int.reduceMul, Int.reduceNeg, Int.reduceSub, Int.reduceLE, Int.reduceLT, Int.reduceEq, Int.reduceBEq, Int.reduceBNe, Int.reducePow, Int.reduceToNat, Int.reduceNe, Int.reduceMod, Int.reduceDiv, Int.cast_ofNat_Int, Int.ofNat_zero, Int.ofNat_one, List.cons_beq_cons, and_true, true_and, and_self, and_false, false_and, not_false_eq_true, not_true_eq_false, or_true, true_or, or_false, false_or, List.map_cons, List.map_nil, List.length_cons, List.length_nil, List.cons_append, List.nil_append, List.append_nil, List.set_cons_zero, List.set_cons_succ, Option.bind_some, Option.bind_none, Option.map_some, Option.map_none, List.head?_cons, if_true, Bool.and_true, Bool.true_and, Bool.and_false, Bool.false_and, Bool.or_true, Bool.true_or, Bool.or_false, Bool.false_or, Bool.not_true, Bool.not_false, Bool.not_not, Bool.and_self, Bool.or_self, decide_true, decide_false, decide_eq_true_eq, beq_self_eq_true, Bool.false_eq_true, List.all_cons, List.all_nil, List.any_cons, List.any_nil, id_eq, Nat.max_self, Nat.sub_self, Nat.zero_le, Bool.decide_eq_true, List.isEmpty_cons, List.isEmpty_nil, ite_self, Nat.max_zero, Nat.zero_max, ne, e1, dx, hk0, e2, e3, Sl_to hj', hc, Sl_from hj1]
            rw [if_pos (lim _ (by simp; omega))]
          by_cases w1' : w = 1
          · subst w1'
            refine two g3 s3 (xs.take (j + 1)) [] (xs.drop j) p3 (fun z => mt) (fun z => md) (by simp; omega) (fun z h => by cases h) ?_
            rw [f__law_bent, mkFn_eq]
            simp only [KO_some, KO_none, KO_ite, KE_some, KE_none, KE_ite, K_ret, K_stuck, K_lift, kId_eq, eId_eq, un1_some, op2_some, dat_sh, dat_ow, dat_pl, dat_tp, sbsD_nil, sbsD_cons, toD_sh, toD_ow, toD_io, toD_lst, toD_dic, at_zero, at_succ, kV_sh, kV_lst, kV_dic, K_mV, kP_sh, kP_ow, kP_io, K_mP, kM_sh, kM_ow, K_mMv, K_mK, kOp2_eq, kOp1_eq, K_mOp, kUn_eq, K_mUn, K_mNeg, isNB_eq, notNB_eq, K_mIsN, K_mNotN, lele_int, kLL3_eq, kLL2_eq, kLL1_eq, K_mLeLe, kTV_eq, K_tV, kTA_eq, K_tAnd, kTO_eq, K_tOr, kTN_eq, K_tNot, K_yes, kMA2_eq, kMA1_eq, K_mAnd, kMO2_eq, kMO1_eq, K_mOr, notB_bl, K_mNot, kIf_eq, K_mIf, boolV_bl, tru_bl, tru_non, tru_int, tru_str, tru_tup, tru_lst, K_mNil, kC2_eq, kC1_eq, K_mCons, keptO_nil, keptO_sh, keptO_ow, keptO_tp, tupO_eq, lstO_eq, kTup_eq, kLst_eq, K_mTup, K_mLst, fzO_eq, kFz_eq, K_mFz, lzip2_eq, kLZ2_eq, kLZ1_eq, K_mLZip, K_mDic0, dic1_eq, kD2_eq, kD1_eq, K_mDic1, elB_sh, elB_ow, ixO_sh, ixO_ow, ixO_pl, ixO_tp, kIx2_eq, kIx1_eq, K_mIx, slO_eq, kSl3_eq, kSl2_eq, kSl1_eq, K_mSl, intD_int, K_mEndN, kEnd_eq, K_mEndS, K_mRev, get3_eq, kG3_eq, kG2_eq, kG1_eq, K_mGet, txtB_str, kSp3_eq, kSp2_eq, kSp1_eq, K_mSplit, lent_nil, lent_sh1, lent_ow, lent_tp, lent_pl, nodup0, nodup1, nodup2, handL_nil, handL_cons, handB_sh, handB_lst, handB_dic, handB_tp, handB_pl, lendS_sh, lendS_ow, lendS_io, argsO_eq, backL_nil, backL_cons, backB_sh, backB_ow, backB_tp, backB_plN, backB_plS, putE_zero, putE_succ, put_ow, put_io, sput_sh, KF_ok, KF_exc, KF_none, KF_ite, KF_r, kArg_eq, kCall_eq, K_mCall, ioS_io, ioS_sh, ioS_ow, ioS_no, outs0, outs1, outs2, outs3, outs4, outs5, kFn_rt, kFn_nx, eFn_eq, mkFn_eq, rep0, repS, itO_eq, kIt_eq, K_items, dItems_tup, dItems_lst, rngD_int, kRg_eq, K_itRange, zipO_eq, kZ2_eq, kZ1_eq, K_itZip, enO_eq, kEn_eq, K_itEnum, zip2_tup, zip2_lst, zipD_cons, zipD_nil, zipD_nil2, enumD_tup, enumD_lst, putS_succ, putS_no, putS_sh, putS_ow, putTg_one, putTg_tup, putSs_nil, putSs_cons, slots_one, slots_tup, clr_nil, clr_cons, back_nil, back_cons, free_nil, free_cons, fr1_succ, fr1_no, fr1_sh, kCoE_eq, kCo_eq, K_mComp, K_comp0, kCo3_eq, kCo2_eq, kCo1_eq, kCo0_eq, K_comp1, K_sPass, K_sBreak, K_sCont, kSeq_nx, kSeq_rt, kSeq_bk, kSeq_ct, K_sSeq, kDrop_eq, K_sDrop, K_sIf, kNx_eq, ownO_sh, ownO_ow, ownO_tp, setO_eq, kSet_eq, K_sSet, ownOs_nil, ownOs_cons, putA_nil, putA_cons, parO_eq, kPar_eq, K_sPar, tupB_tp, tupB_sh, unpO_eq, kUnp_eq, K_sUnp, putOE_zero, putOE_succ, obj_ow, obj_io, hasO_zero, hasO_succ, xsO_eq, kXS3_eq, kXS2_eq, kXS1_eq, K_sIxSet, apO_eq, kNon_eq, kAp2_eq, kAp1_eq, K_mApp, addAt_lst, setAt_lst, setAt_dicS, kFor_eq, K_sFor, kFor2_nx, kFor2_ct, kFor2_bk, kFor2_rt, kFor1_eq, K_for0, K_for1, kWh2_nx, kWh2_ct, kWh2_bk, kWh2_rt, kWh1_eq, kRet_sh, kRet_ow, kRet_tp, K_sRet, tpO_eq, kTp_eq, K_mTp, sbBs_nil, sbBs_cons, sbB_sh, sbB_ow, K_sRaise, eTry_eq, K_sTry, K_tryGo0, K_tryGo1, Add_int, Add_tup, Add_lst, Add_str, Sub_int, Mul_int, Mul_lst, Fdiv_int, Mod_int, Lt_int, Le_int, Gt_int, Ge_int, Eq_eq, Ne_eq, In_tup, In_lst, Nin_tup, Nin_lst, mem_nil, mem_cons, Ix_tup, Ix_lst, atI_0, atI_1, atI_2, atI_3, atI_4, atI_5, atI_6, Len_tup, Len_lst, Len_str, Int_int, Int_bl, Tuple_lst, Tuple_tup, List_lst, List_tup, bools_nil, bools_cons, All_lst, Any_lst, dep_non, dep_bl, dep_int, dep_str, dep_tupS, dep_lstS, deps_nil, deps_cons, isNon_non, isNon_int, isNon_tup, isNon_lst, isNon_str, isNon_bl, eqv_ss, eqv_ii, eqv_bb, eqv_nn, eqv_tt, eqv_ll, eqvs_nn, eqvs_nc, eqvs_cn, eqvs_cc, upto_1, upto_2, upto_3, upto_7, K_mAdd, K_mSub, K_mMul, K_mFdiv, K_mMod, K_mPow, K_mEq, K_mNe, K_mLt, K_mLe, K_mGt, K_mGe, K_mIn, K_mNin, K_mMin, K_mJoin, K_mIndex, K_mLen, K_mInt, K_mStr, K_mTuple, K_mList, K_mAll, K_mAny, K_mSorted, K_mDict, K_mIsA, IsA_tup, IsA_lst, IsA_str, IsA_int, IsA_bl, Mul_tup, txt_nc, txt_cn, IsA_non, isA, List.drop_zero, List.take_zero, List.drop_succ_cons, List.take_succ_cons, List.drop_nil, List.take_nil, Nat.sub_zero, reduceIte, ite_true, ite_false, Nat.reduceAdd, Nat.reduceMul, Nat.reduceSub, Nat.reduceLT, Nat.reduceLeDiff, Nat.reduceEqDiff, Nat.reduceBEq, Nat.reduceBNe, Nat.reducePow, Int.reduceAdd, Int.reduceMul, Int.reduceNeg, Int.reduceSub, Int.reduceLE, Int.reduceLT, Int.reduceEq, Int.reduceBEq, Int.reduceBNe, Int.reducePow, Int.reduceToNat, Int.reduceNe, Int.reduceMod, Int.reduceDiv, Int.cast_ofNat_Int, Int.ofNat_zero, Int.ofNat_one, List.cons_beq_cons, and_true, true_and, and_self, and_false, false_and, not_false_eq_true, not_true_eq_false, or_true, true_or, or_false, false_or, List.map_cons, List.map_nil, List.length_cons, List.length_nil, List.cons_append, List.nil_append, List.append_nil, List.set_cons_zero, List.set_cons_succ, Option.bind_some, Option.bind_none, Option.map_some, Option.map_none, List.head?_cons, if_true, Bool.and_true, Bool.true_and, Bool.and_false, Bool.false_and, Bool.or_true, Bool.true_or, Bool.or_false, Bool.false_or, Bool.not_true, Bool.not_false, Bool.not_not, Bool.and_self, Bool.or_self, decide_true, decide_false, decide_eq_true_eq, beq_self_eq_true, Bool.false_eq_true, List.all_cons, List.all_nil, List.any_cons, List.any_nil, id_eq, Nat.max_self, Nat.sub_self, Nat.zero_le, Bool.decide_eq_true, List.isEmpty_cons, List.isEmpty_nil, ite_self, Nat.max_zero, Nat.zero_max, ne, e1, dx, hk0, e2, e3, Sl_to hj1, hc, Sl_from hj']
            rw [if_pos (lim _ (by simp; omega))]
          by_cases w2' : w = 2
          · subst w2'
            obtain ⟨g4, s4, x, p4, mx, e4⟩ := odd_spec p3
            refine two g4 s4 (xs.take j) [x] (xs.drop j) p4 (fun z => mt) (fun z => md) (by simp; omega) (fun z h => by cases List.mem_singleton.mp h; have := oddL_dep _ mx; have := oddL_wid _ mx; have : 1 ≤ D.dep (.tup xs) := Nat.succ_le_succ (Nat.zero_le _); omega) ?_
            rw [f__law_bent, mkFn_eq]
            simp only [KO_some, KO_none, KO_ite, KE_some, KE_none, KE_ite, K_ret, K_stuck, K_lift, kId_eq, eId_eq, un1_some, op2_some, dat_sh, dat_ow, dat_pl, dat_tp, sbsD_nil, sbsD_cons, toD_sh, toD_ow, toD_io, toD_lst, toD_dic, at_zero, at_succ, kV_sh, kV_lst, kV_dic, K_mV, kP_sh, kP_ow, kP_io, K_mP, kM_sh, kM_ow, K_mMv, K_mK, kOp2_eq, kOp1_eq, K_mOp, kUn_eq, K_mUn, K_mNeg, isNB_eq, notNB_eq, K_mIsN, K_mNotN, lele_int, kLL3_eq, kLL2_eq, kLL1_eq, K_mLeLe, kTV_eq, K_tV, kTA_eq, K_tAnd, kTO_eq, K_tOr, kTN_eq, K_tNot, K_yes, kMA2_eq, kMA1_eq, K_mAnd, kMO2_eq, kMO1_eq, K_mOr, notB_bl, K_mNot, kIf_eq, K_mIf, boolV_bl, tru_bl, tru_non, tru_int, tru_str, tru_tup, tru_lst, K_mNil, kC2_eq, kC1_eq, K_mCons, keptO_nil, keptO_sh, keptO_ow, keptO_tp, tupO_eq, lstO_eq, kTup_eq, kLst_eq, K_mTup, K_mLst, fzO_eq, kFz_eq, K_mFz, lzip2_eq, kLZ2_eq, kLZ1_eq, K_mLZip, K_mDic0, dic1_eq, kD2_eq, kD1_eq, K_mDic1, elB_sh, elB_ow, ixO_sh, ixO_ow, ixO_pl, ixO_tp, kIx2_eq, kIx1_eq, K_mIx, slO_eq, kSl3_eq, kSl2_eq, kSl1_eq, K_mSl, intD_int, K_mEndN, kEnd_eq, K_mEndS, K_mRev, get3_eq, kG3_eq, kG2_eq, kG1_eq, K_mGet, txtB_str, kSp3_eq, kSp2_eq, kSp1_eq, K_mSplit, lent_nil, lent_sh1, lent_ow, lent_tp, lent_pl, nodup0, nodup1, nodup2, handL_nil, handL_cons, handB_sh, handB_lst, handB_dic, handB_tp, handB_pl, lendS_sh, lendS_ow, lendS_io, argsO_eq, backL_nil, backL_cons, backB_sh, backB_ow, backB_tp, backB_plN, backB_plS, putE_zero, putE_succ, put_ow, put_io, sput_sh, KF_ok, KF_exc, KF_none, KF_ite, KF_r, kArg_eq, kCall_eq, K_mCall, ioS_io, ioS_sh, ioS_ow, ioS_no, outs0, outs1, outs2, outs3, outs4, outs5, kFn_rt, kFn_nx, eFn_eq, mkFn_eq, rep0, repS, itO_eq, kIt_eq, K_items, dItems_tup, dItems_lst, rngD_int, kRg_eq, K_itRange, zipO_eq, kZ2_eq, kZ1_eq, K_itZip, enO_eq, kEn_eq, K_itEnum, zip2_tup, zip2_lst, zipD_cons, zipD_nil, zipD_nil2, enumD_tup, enumD_lst, putS_succ, putS_no, putS_sh, putS_ow, putTg_one, putTg_tup, putSs_nil, putSs_cons, slots_one, slots_tup, clr_nil, clr_cons, back_nil, back_cons, free_nil, free_cons, fr1_succ, fr1_no, fr1_sh, kCoE_eq, kCo_eq, K_mComp, K_comp0, kCo3_eq, kCo2_eq, kCo1_eq, kCo0_eq, K_comp1, K_sPass, K_sBreak, K_sCont, kSeq_nx, kSeq_rt, kSeq_bk, kSeq_ct, K_sSeq, kDrop_eq, K_sDrop, K_sIf, kNx_eq, ownO_sh, ownO_ow, ownO_tp, setO_eq, kSet_eq, K_sSet, ownOs_nil, ownOs_cons, putA_nil, putA_cons, parO_eq, kPar_eq, K_sPar, tupB_tp, tupB_sh, unpO_eq, kUnp_eq, K_sUnp, putOE_zero, putOE_succ, obj_ow, obj_io, hasO_zero, hasO_succ, xsO_eq, kXS3_eq, kXS2_eq, kXS1_eq, K_sIxSet, apO_eq, kNon_eq, kAp2_eq, kAp1_eq, K_mApp, addAt_lst, setAt_lst, setAt_dicS, kFor_eq, K_sFor, kFor2_nx, kFor2_ct, kFor2_bk, kFor2_rt, kFor1_eq, K_for0, K_for1, kWh2_nx, kWh2_ct, kWh2_bk, kWh2_rt, kWh1_eq, kRet_sh, kRet_ow, kRet_tp, K_sRet, tpO_eq, kTp_eq, K_mTp, sbBs_nil, sbBs_cons, sbB_sh, sbB_ow, K_sRaise, eTry_eq, K_sTry, K_tryGo0, K_tryGo1, Add_int, Add_tup, Add_lst, Add_str, Sub_int, Mul_int, Mul_lst, Fdiv_int, Mod_int, Lt_int, Le_int, Gt_int, Ge_int, Eq_eq, Ne_eq, In_tup, In_lst, Nin_tup, Nin_lst, mem_nil, mem_cons, Ix_tup, Ix_lst, atI_0, atI_1, atI_2, atI_3, atI_4, atI_5, atI_6, Len_tup, Len_lst, Len_str, Int_int, Int_bl, Tuple_lst, Tuple_tup, List_lst, List_tup, bools_nil, bools_cons, All_lst, Any_lst, dep_non, dep_bl, dep_int, dep_str, dep_tupS, dep_lstS, deps_nil, deps_cons, isNon_non, isNon_int, isNon_tup, isNon_lst, isNon_str, isNon_bl, eqv_ss, eqv_ii, eqv_bb, eqv_nn, eqv_tt, eqv_ll, eqvs_nn, eqvs_nc, eqvs_cn, eqvs_cc, upto_1, upto_2, upto_3, upto_7, K_mAdd, K_mSub, K_mMul, K_mFdiv, K_mMod, K_mPow, K_mEq, K_mNe, K_mLt, K_mLe, K_mGt, K_mGe, K_mIn, K_mNin, K_mMin, K_mJoin, K_mIndex, K_mLen, K_mInt, K_mStr, K_mTuple, K_mList, K_mAll, K_mAny, K_mSorted, K_mDict, K_mIsA, IsA_tup, IsA_lst, IsA_str, IsA_int, IsA_bl, Mul_tup, txt_nc, txt_cn, IsA_non, isA, List.drop_zero, List.take_zero, List.drop_succ_cons, List.take_succ_cons, List.drop_nil, List.take_nil, Nat.sub_zero, reduceIte, ite_true, ite_false, Nat.reduceAdd, Nat.reduceMul, Nat.reduceSub, Nat.reduceLT, Nat.reduceLeDiff, Nat.reduceEqDiff, Nat.reduceBEq, Nat.reduceBNe, Nat.reducePow, Int.reduceAdd, Int.reduceMul, Int.reduceNeg, Int.reduceSub, Int.reduceLE, Int.reduceLT, Int.reduceEq, Int.reduceBEq, Int.reduceBNe, Int.reducePow, Int.reduceToNat, Int.reduceNe, Int.reduceMod, Int.reduceDiv, Int.cast_ofNat_Int, Int.ofNat_zero, Int.ofNat_one, List.cons_beq_cons, and_true, true_and, and_self, and_false, false_and, not_false_eq_true, not_true_eq_false, or_true, true_or, or_false, false_or, List.map_cons, List.map_nil, List.length_cons, List.length_nil, List.cons_append, List.nil_append, List.append_nil, List.set_cons_zero, List.set_cons_succ, Option.bind_some, Option.bind_none, Option.map_some, Option.map_none, List.head?_cons, if_true, Bool.and_true, Bool.true_and, Bool.and_false, Bool.false_and, Bool.or_true, Bool.true_or, Bool.or_false, Bool.false_or, Bool.not_true, Bool.not_false, Bool.not_not, Bool.and_self, Bool.or_self, decide_true, decide_false, decide_eq_true_eq, beq_self_eq_true, Bool.false_eq_true, List.all_cons, List.all_nil, List.any_cons, List.any_nil, id_eq, Nat.max_self, Nat.sub_self, Nat.zero_le, Bool.decide_eq_true, List.isEmpty_cons, List.isEmpty_nil, ite_self, Nat.max_zero, Nat.zero_max, ne, e1, dx, hk0, e2, e3, e4, Sl_to hj', Sl_from hj']
            rw [if_pos (lim _ (by simp; omega)), if_pos (lim _ (by simp; omega))]
          by_cases w3' : w = 3
          · subst w3'
            refine ⟨g3, s3, .ow (.lst xs), .lst xs, p3, .inr ⟨xs, rfl, rfl⟩, by show D.deps xs + 1 ≤ D.deps xs + 1 + 2; omega, Nat.zero_le _, ?_⟩
            rw [f__law_bent, mkFn_eq]
            simp only [KO_some, KO_none, KO_ite, KE_some, KE_none, KE_ite, K_ret, K_stuck, K_lift, kId_eq, eId_eq, un1_some, op2_some, dat_sh, dat_ow, dat_pl, dat_tp, sbsD_nil, sbsD_cons, toD_sh, toD_ow, toD_io, toD_lst, toD_dic, at_zero, at_succ, kV_sh, kV_lst, kV_dic, K_mV, kP_sh, kP_ow, kP_io, K_mP, kM_sh, kM_ow, K_mMv, K_mK, kOp2_eq, kOp1_eq, K_mOp, kUn_eq, K_mUn, K_mNeg, isNB_eq, notNB_eq, K_mIsN, K_mNotN, lele_int, kLL3_eq, kLL2_eq, kLL1_eq, K_mLeLe, kTV_eq, K_tV, kTA_eq, K_tAnd, kTO_eq, K_tOr, kTN_eq, K_tNot, K_yes, kMA2_eq, kMA1_eq, K_mAnd, kMO2_eq, kMO1_eq, K_mOr, notB_bl, K_mNot, kIf_eq, K_mIf, boolV_bl, tru_bl, tru_non, tru_int, tru_str, tru_tup, tru_lst, K_mNil, kC2_eq, kC1_eq, K_mCons, keptO_nil, keptO_sh, keptO_ow, keptO_tp, tupO_eq, lstO_eq, kTup_eq, kLst_eq, K_mTup, K_mLst, fzO_eq, kFz_eq, K_mFz, lzip2_eq, kLZ2_eq, kLZ1_eq, K_mLZip, K_mDic0, dic1_eq, kD2_eq, kD1_eq, K_mDic1, elB_sh, elB_ow, ixO_sh, ixO_ow, ixO_pl, ixO_tp, kIx2_eq, kIx1_eq, K_mIx, slO_eq, kSl3_eq, kSl2_eq, kSl1_eq, K_mSl, intD_int, K_mEndN, kEnd_eq, K_mEndS, K_mRev, get3_eq, kG3_eq, kG2_eq, kG1_eq, K_mGet, txtB_str, kSp3_eq, kSp2_eq, kSp1_eq, K_mSplit, lent_nil, lent_sh1, lent_ow, lent_tp, lent_pl, nodup0, nodup1, nodup2, handL_nil, handL_cons, handB_sh, handB_lst, handB_dic, handB_tp, handB_pl, lendS_sh, lendS_ow, lendS_io, argsO_eq, backL_nil, backL_cons, backB_sh, backB_ow, backB_tp, backB_plN, backB_plS, putE_zero, putE_succ, put_ow, put_io, sput_sh, KF_ok, KF_exc, KF_none, KF_ite, KF_r, kArg_eq, kCall_eq, K_mCall, ioS_io, ioS_sh, ioS_ow, ioS_no, outs0, outs1, outs2, outs3, outs4, outs5, kFn_rt, kFn_nx, eFn_eq, mkFn_eq, rep0, repS, itO_eq, kIt_eq, K_items, dItems_tup, dItems_lst, rngD_int, kRg_eq, K_itRange, zipO_eq, kZ2_eq, kZ1_eq, K_itZip, enO_eq, kEn_eq, K_itEnum, zip2_tup, zip2_lst, zipD_cons, zipD_nil, zipD_nil2, enumD_tup, enumD_lst, putS_succ, putS_no, putS_sh, putS_ow, putTg_one, putTg_tup, putSs_nil, putSs_cons, slots_one, slots_tup, clr_nil, clr_cons, back_nil, back_cons, free_nil, free_cons, fr1_succ, fr1_no, fr1_sh, kCoE_eq, kCo_eq, K_mComp, K_comp0, kCo3_eq, kCo2_eq, kCo1_eq, kCo0_eq, K_comp1, K_sPass, K_sBreak, K_sCont, kSeq_nx, kSeq_rt, kSeq_bk, kSeq_ct, K_sSeq, kDrop_eq, K_sDrop, K_sIf, kNx_eq, ownO_sh, ownO_ow, ownO_tp, setO_eq, kSet_eq, K_sSet, ownOs_nil, ownOs_cons, putA_nil, putA_cons, parO_eq, kPar_eq, K_sPar, tupB_tp, tupB_sh, unpO_eq, kUnp_eq, K_sUnp, putOE_zero, putOE_succ, obj_ow, obj_io, hasO_zero, hasO_succ, xsO_eq, kXS3_eq, kXS2_eq, kXS1_eq, K_sIxSet, apO_eq, kNon_eq, kAp2_eq, kAp1_eq, K_mApp, addAt_lst, setAt_lst, setAt_dicS, kFor_eq, K_sFor, kFor2_nx, kFor2_ct, kFor2_bk, kFor2_rt, kFor1_eq, K_for0, K_for1, kWh2_nx, kWh2_ct, kWh2_bk, kWh2_rt, kWh1_eq, kRet_sh, kRet_ow, kRet_tp, K_sRet, tpO_eq, kTp_eq, K_mTp, sbBs_nil, sbBs_cons, sbB_sh, sbB_ow, K_sRaise, eTry_eq, K_sTry, K_tryGo0, K_tryGo1, Add_int, Add_tup, Add_lst, Add_str, Sub_int, Mul_int, Mul_lst, Fdiv_int, Mod_int, Lt_int, Le_int, Gt_int, Ge_int, Eq_eq, Ne_eq, In_tup, In_lst, Nin_tup, Nin_lst, mem_nil, mem_cons, Ix_tup, Ix_lst, atI_0, atI_1, atI_2, atI_3, atI_4, atI_5, atI_6, Len_tup, Len_lst, Len_str, Int_int, Int_bl, Tuple_lst, Tuple_tup, List_lst, List_tup, bools_nil, bools_cons, All_lst, Any_lst, dep_non, dep_bl, dep_int, dep_str, dep_tupS, dep_lstS, deps_nil, deps_cons, isNon_non, isNon_int, isNon_tup, isNon_lst, isNon_str, isNon_bl, eqv_ss, eqv_ii, eqv_bb, eqv_nn, eqv_tt, eqv_ll, eqvs_nn, eqvs_nc, eqvs_cn, eqvs_cc, upto_1, upto_2, upto_3, upto_7, K_mAdd, K_mSub, K_mMul, K_mFdiv, K_mMod, K_mPow, K_mEq, K_mNe, K_mLt, K_mLe, K_mGt, K_mGe, K_mIn, K_mNin, K_mMin, K_mJoin, K_mIndex, K_mLen, K_mInt, K_mStr, K_mTuple, K_mList, K_mAll, K_mAny, K_mSorted, K_mDict, K_mIsA, IsA_tup, IsA_lst, IsA_str, IsA_int, IsA_bl, Mul_tup, txt_nc, txt_cn, IsA_non, isA, List.drop_zero, List.take_zero, List.drop_succ_cons, List.take_succ_cons, List.drop_nil, List.take_nil, Nat.sub_zero, reduceIte, ite_true, ite_false, Nat.reduceAdd, Nat.reduceMul, Nat.reduceSub, Nat.reduceLT, Nat.reduceLeDiff, Nat.reduceEqDiff, Nat.reduceBEq, Nat.reduceBNe, Nat.reducePow, Int.reduceAdd, Int.reduceMul, Int.reduceNeg, Int.reduceSub, Int.reduceLE, Int.reduceLT, Int.reduceEq, Int.reduceBEq, Int.reduceBNe, Int.reducePow, Int.reduceToNat, Int.reduceNe, Int.reduceMod, Int.reduceDiv, Int.cast_ofNat_Int, Int.ofNat_zero, Int.ofNat_one, List.cons_beq_cons, and_true, true_and, and_self, and_false, false_and, not_false_eq_true, not_true_eq_false, or_true, true_or, or_false, false_or, List.map_cons, List.map_nil, List.length_cons, List.length_nil, List.cons_append, List.nil_append, List.append_nil, List.set_cons_zero, List.set_cons_succ, Option.bind_some, Option.bind_none, Option.map_some, Option.map_none, List.head?_cons, if_true, Bool.and_true, Bool.true_and, Bool.and_false, Bool.false_and, Bool.or_true, Bool.true_or, Bool.or_false, Bool.false_or, Bool.not_true, Bool.not_false, Bool.not_not, Bool.and_self, Bool.or_self, decide_true, decide_false, decide_eq_true_eq, beq_self_eq_true, Bool.false_eq_true, List.all_cons, List.all_nil, List.any_cons, List.any_nil, id_eq, Nat.max_self, Nat.sub_self, Nat.zero_le, Bool.decide_eq_true, List.isEmpty_cons, List.isEmpty_nil, ite_self, Nat.max_zero, Nat.zero_max, ne, e1, dx, hk0, e2, e3]
          · have mj := hmem xs[j] (List.getElem_mem hj)
            obtain ⟨g4, s4, b, x, p4, hb, d4, w4, e4⟩ := bent_spec n (v := xs[j]) (m := m) (by omega) (by omega) mj.2 h3 hm p3
            refine two g4 s4 (xs.take j) [x] (xs.drop (j + 1)) p4 (fun z => mt) (fun z => md) (by simp; omega) (fun z h => by cases List.mem_singleton.mp h; omega) ?_
            have n0 : (w == 0) = false := by simpa using w0'
            have n1 : (w == 1) = false := by simpa using w1'
            have n2 : (w == 2) = false := by simpa using w2'
            have n3 : (w == 3) = false := by simpa using w3'
            rw [f__law_bent, mkFn_eq]
            rcases hb with rfl | ⟨ys, rfl, rfl⟩ <;> simp only [KO_some, KO_none, KO_ite, KE_some, KE_none, KE_ite, K_ret, K_stuck, K_lift, kId_eq, eId_eq, un1_some, op2_some, dat_sh, dat_ow, dat_pl, dat_tp, sbsD_nil, sbsD_cons, toD_sh, toD_ow, toD_io, toD_lst, toD_dic, at_zero, at_succ, kV_sh, kV_lst, kV_dic, K_mV, kP_sh, kP_ow, kP_io, K_mP, kM_sh, kM_ow, K_mMv, K_mK, kOp2_eq, kOp1_eq, K_mOp, kUn_eq, K_mUn, K_mNeg, isNB_eq, notNB_eq, K_mIsN, K_mNotN, lele_int, kLL3_eq, kLL2_eq, kLL1_eq, K_mLeLe, kTV_eq, K_tV, kTA_eq, K_tAnd, kTO_eq, K_tOr, kTN_eq, K_tNot, K_yes, kMA2_eq, kMA1_eq, K_mAnd, kMO2_eq, kMO1_eq, K_mOr, notB_bl, K_mNot, kIf_eq, K_mIf, boolV_bl, tru_bl, tru_non, tru_int, tru_str, tru_tup, tru_lst, K_mNil, kC2_eq, kC1_eq, K_mCons, keptO_nil, keptO_sh, keptO_ow, keptO_tp, tupO_eq, lstO_eq, kTup_eq, kLst_eq, K_mTup, K_mLst, fzO_eq, kFz_eq, K_mFz, lzip2_eq, kLZ2_eq, kLZ1_eq, K_mLZip, K_mDic0, dic1_eq, kD2_eq, kD1_eq, K_mDic1, elB_sh, elB_ow, ixO_sh, ixO_ow, ixO_pl, ixO_tp, kIx2_eq, kIx1_eq, K_mIx, slO_eq, kSl3_eq, kSl2_eq, kSl1_eq, K_mSl, intD_int, K_mEndN, kEnd_eq, K_mEndS, K_mRev, get3_eq, kG3_eq, kG2_eq, kG1_eq, K_mGet, txtB_str, kSp3_eq, kSp2_eq, kSp1_eq, K_mSplit, lent_nil, lent_sh1, lent_ow, lent_tp, lent_pl, nodup0, nodup1, nodup2, handL_nil, handL_cons, handB_sh, handB_lst, handB_dic, handB_tp, handB_pl, lendS_sh, lendS_ow, lendS_io, argsO_eq, backL_nil, backL_cons, backB_sh, backB_ow, backB_tp, backB_plN, backB_plS, putE_zero, putE_succ, put_ow, put_io, sput_sh, KF_ok, KF_exc, KF_none, KF_ite, KF_r, kArg_eq, kCall_eq, K_mCall, ioS_io, ioS_sh, ioS_ow, ioS_no, outs0, outs1, outs2, outs3, outs4, outs5, kFn_rt, kFn_nx, eFn_eq, mkFn_eq, rep0, repS, itO_eq, kIt_eq, K_items, dItems_tup, dItems_lst, rngD_int, kRg_eq, K_itRange, zipO_eq, kZ2_eq, kZ1_eq, K_itZip, enO_eq, kEn_eq, K_itEnum, zip2_tup, zip2_lst, zipD_cons, zipD_nil, zipD_nil2, enumD_tup, enumD_lst, putS_succ, putS_no, putS_sh, putS_ow, putTg_one, putTg_tup, putSs_nil, putSs_cons, slots_one, slots_tup, clr_nil, clr_cons, back_nil, back_cons, free_nil, free_cons, fr1_succ, fr1_no, fr1_sh, kCoE_eq, kCo_eq, K_mComp, K_comp0, kCo3_eq, kCo2_eq, kCo1_eq, kCo0_eq, K_comp1, K_sPass, K_sBreak, K_sCont, kSeq_nx, kSeq_rt, kSeq_bk, kSeq_ct, K_sSeq, kDrop_eq, K_sDrop, K_sIf, kNx_eq, ownO_sh, ownO_ow, ownO_tp, setO_eq, kSet_eq, K_sSet, ownOs_nil, ownOs_cons, putA_nil, putA_cons, parO_eq, kPar_eq, K_sPar, tupB_tp, tupB_sh, unpO_eq, kUnp_eq, K_sUnp, putOE_zero, putOE_succ, obj_ow, obj_io, hasO_zero, hasO_succ, xsO_eq, kXS3_eq, kXS2_eq, kXS1_eq, K_sIxSet, apO_eq, kNon_eq, kAp2_eq, kAp1_eq, K_mApp, addAt_lst, setAt_lst, setAt_dicS, kFor_eq, K_sFor, kFor2_nx, kFor2_ct, kFor2_bk, kFor2_rt, kFor1_eq, K_for0, K_for1, kWh2_nx, kWh2_ct, kWh2_bk, kWh2_rt, kWh1_eq, kRet_sh, kRet_ow, kRet_tp, K_sRet, tpO_eq, kTp_eq, K_mTp, sbBs_nil, sbBs_cons, sbB_sh, sbB_ow, K_sRaise, eTry_eq, K_sTry, K_tryGo0, K_tryGo1, Add_int, Add_tup, Add_lst, Add_str, Sub_int, Mul_int, Mul_lst, Fdiv_int, Mod_int, Lt_int, Le_int, Gt_int, Ge_int, Eq_eq, Ne_eq, In_tup, In_lst, Nin_tup, Nin_lst, mem_nil, mem_cons, Ix_tup, Ix_lst, atI_0, atI_1, atI_2, atI_3, atI_4, atI_5, atI_6, Len_tup, Len_lst, Len_str, Int_int, Int_bl, Tuple_lst, Tuple_tup, List_lst, List_tup, bools_nil, bools_cons, All_lst, Any_lst, dep_non, dep_bl, dep_int, dep_str, dep_tupS, dep_lstS, deps_nil, deps_cons, isNon_non, isNon_int, isNon_tup, isNon_lst, isNon_str, isNon_bl, eqv_ss, eqv_ii, eqv_bb, eqv_nn, eqv_tt, eqv_ll, eqvs_nn, eqvs_nc, eqvs_cn, eqvs_cc, upto_1, upto_2, upto_3, upto_7, K_mAdd, K_mSub, K_mMul, K_mFdiv, K_mMod, K_mPow, K_mEq, K_mNe, K_mLt, K_mLe, K_mGt, K_mGe, K_mIn, K_mNin, K_mMin, K_mJoin, K_mIndex, K_mLen, K_mInt, K_mStr, K_mTuple, K_mList, K_mAll, K_mAny, K_mSorted, K_mDict, K_mIsA, IsA_tup, IsA_lst, IsA_str, IsA_int, IsA_bl, Mul_tup, txt_nc, txt_cn, IsA_non, isA, List.drop_zero, List.take_zero, List.drop_succ_cons, List.take_succ_cons, List.drop_nil, List.take_nil, Nat.sub_zero, reduceIte, ite_true, ite_false, Nat.reduceAdd, Nat.reduceMul, Nat.reduceSub, Nat.reduceLT, Nat.reduceLeDiff, Nat.reduceEqDiff, Nat.reduceBEq, Nat.reduceBNe, Nat.reducePow, Int.reduceAdd, Int.reduceMul, Int.reduceNeg, Int.reduceSub, Int.reduceLE, Int.reduceLT, Int.reduceEq, Int.reduceBEq, Int.reduceBNe, Int.reducePow, Int.reduceToNat, Int.reduceNe, Int.reduceMod, Int.reduceDiv, Int.cast_ofNat_Int, Int.ofNat_zero, Int.ofNat_one, List.cons_beq_cons, and_true, true_and, and_self, and_false, false_and, not_false_eq_true, not_true_eq_false, or_true, true_or, or_false, false_or, List.map_cons, List.map_nil, List.length_cons, List.length_nil, List.cons_append, List.nil_append, List.append_nil, List.set_cons_zero, List.set_cons_succ, Option.bind_some, Option.bind_none, Option.map_some, Option.map_none, List.head?_cons, if_true, Bool.and_true, Bool.true_and, Bool.and_false, Bool.false_and, Bool.or_true, Bool.true_or, Bool.or_false, Bool.false_or, Bool.not_true, Bool.not_false, Bool.not_not, Bool.and_self, Bool.or_self, decide_true, decide_false, decide_eq_true_eq, beq_self_eq_true, Bool.false_eq_true, List.all_cons, List.all_nil, List.any_cons, List.any_nil, id_eq, Nat.max_self, Nat.sub_self, Nat.zero_le, Bool.decide_eq_true, List.isEmpty_cons, List.isEmpty_nil, ite_self, Nat.max_zero, Nat.zero_max, ne, e1, dx, hk0, e2, e3, e4, n0, n1, n2, n3, Sl_to hj', atI_nat hj, hc, Sl_from hj1] <;> rw [if_pos (lim _ (by simp; omega)), if_pos (lim _ (by simp; omega))]
end K01
end WF

set_option Elab.async false
set_option linter.all false
set_option maxRecDepth 100000
set_option maxHeartbeats 1000000
/-! P17_k01: the law. -/
namespace WF
/-- a slot that may be bound anew -/
def Nio (o : Option SB) : Prop := ∀ x, o ≠ some (.io x)
theorem nio_no : Nio none := fun _ h => by cases h
theorem nio_sh {d : D} : Nio (some (.sh d)) := fun _ h => by cases h
theorem nio_ow {d : O} : Nio (some (.ow d)) := fun _ h => by cases h
theorem putS_nio {o : Option SB} {r : Env} {b : SB} (h : Nio o) : putS (o :: r) 0 b = some (some b :: r) := by
  unfold putS
  rw [if_pos (by simp)]
  cases o with
  | none => rfl
  | some c => cases c with
    | io x => exact absurd rfl (h x)
    | _ => rfl
/-- a slot that a comprehension may use -/
def Fre (o : Option SB) : Prop := o = none ∨ ∃ d, o = some (.sh d)
theorem Fre.nio {o : Option SB} (h : Fre o) : Nio o := by
  rcases h with rfl | ⟨d, rfl⟩
  · exact nio_no
  · exact nio_sh
theorem fr1_fre {o : Option SB} {r : Env} (h : Fre o) : fr1 (o :: r) 0 = true := by
  rcases h with rfl | ⟨d, rfl⟩
  · exact fr1_no
  · rfl
mutual
theorem eqv_self : ∀ x : D, D.dep x ≤ 900 → D.eqv x x = true
  | .non, _ => by simp [D.eqv]
  | .bl _, _ => by simp [D.eqv]
  | .int _, _ => by simp [D.eqv]
  | .str _, _ => by simp [D.eqv]
  | .tup xs, h => by rw [eqv_tt]; exact eqvs_self xs (by rw [dep_tupS] at h; omega)
  | .lst xs, h => by rw [eqv_ll]; exact eqvs_self xs (by rw [dep_lstS] at h; omega)
  | .dic _ _, h => absurd h (by show ¬ (1000 ≤ 900); decide)
theorem eqvs_self : ∀ xs : List D, D.deps xs ≤ 900 → D.eqvs xs xs = true
  | [], _ => by simp [D.eqvs]
  | x :: xs, h => by
    rw [deps_cons] at h
    rw [eqvs_cc, eqv_self x (by omega), eqvs_self xs (by omega)]
    rfl
end
namespace K01
theorem deps_perm {xs ys : List D} {n : Nat} (h : D.deps xs ≤ n) (p : ∀ y ∈ ys, y ∈ xs) : D.deps ys ≤ n := deps_le fun y m => dep_mem h y (p y m)
abbrev oPot (g s : Int) : SB := .ow (.lst [.int g, .int s])
/-- one turn of the innermost loop -/
theorem turn0 {g s : Int} {v r : D} {m : Nat} {o0 o1 o4 o5 o7 o8 o9 o10 o11 : Option SB} (p : Pot g s) (hd : D.dep v ≤ 10) (hw : D.wid v ≤ m) (h3 : 3 ≤ m) (hm : m < 900) :
    ∃ g' s' x, Pot g' s' ∧ D.dep x ≤ D.dep v + 2 ∧ D.wid x ≤ m + 1 ∧
      fb0_law [o0, o1, some (oPot g s), some (.sh r), o4, o5, some (.sh v), o7, o8, o9, o10, o11] = some (.ok .nx, [o0, o1, some (oPot g' s'), some (.sh r), o4, o5, some (.sh x), o7, o8, o9, o10, o11]) := by
  obtain ⟨g', s', b, x, p', hb, d', w', e⟩ := bent_spec 12 (v := v) (by omega) (by omega) hw h3 hm p
  have rs := right_spec (v := v) (by omega) fun xs h => by
    subst h
    have : xs.length ≤ D.wid (.tup xs) := Nat.le_max_left _ _
    show _ ≤ 16777216
    omega
  refine ⟨g', s', x, p', d', w', ?_⟩
  rw [K_id (m := fb0_law), fb0_law]
  rcases hb with rfl | ⟨ys, rfl, rfl⟩ <;> simp only [KO_some, KO_none, KO_ite, KE_some, KE_none, KE_ite, K_ret, K_stuck, K_lift, kId_eq, eId_eq, un1_some, op2_some, dat_sh, dat_ow, dat_pl, dat_tp, sbsD_nil, sbsD_cons, toD_sh, toD_ow, toD_io, toD_lst, toD_dic, at_zero, at_succ, kV_sh, kV_lst, kV_dic, K_mV, kP_sh, kP_ow, kP_io, K_mP, kM_sh, kM_ow, K_mMv, K_mK, kOp2_eq, kOp1_eq, K_mOp, kUn_eq, K_mUn, K_mNeg, isNB_eq, notNB_eq, K_mIsN, K_mNotN, lele_int, kLL3_eq, kLL2_eq, kLL1_eq, K_mLeLe, kTV_eq, K_tV, kTA_eq, K_tAnd, kTO_eq, K_tOr, kTN_eq, K_tNot, K_yes, kMA2_eq, kMA1_eq, K_mAnd, kMO2_eq, kMO1_eq, K_mOr, notB_bl, K_mNot, kIf_eq, K_mIf, boolV_bl, tru_bl, tru_non, tru_int, tru_str, tru_tup, tru_lst, K_mNil, kC2_eq, kC1_eq, K_mCons, keptO_nil, keptO_sh, keptO_ow, keptO_tp, tupO_eq, lstO_eq, kTup_eq, kLst_eq, K_mTup, K_mLst, fzO_eq, kFz_eq, K_mFz, lzip2_eq, kLZ2_eq, kLZ1_eq, K_mLZip, K_mDic0, dic1_eq, kD2_eq, kD1_eq, K_mDic1, elB_sh, elB_ow, ixO_sh, ixO_ow, ixO_pl, ixO_tp, kIx2_eq, kIx1_eq, K_mIx, slO_eq, kSl3_eq, kSl2_eq, kSl1_eq, K_mSl, intD_int, K_mEndN, kEnd_eq, K_mEndS, K_mRev, get3_eq, kG3_eq, kG2_eq, kG1_eq, K_mGet, txtB_str, kSp3_eq, kSp2_eq, kSp1_eq, K_mSplit, lent_nil, lent_sh1, lent_ow, lent_tp, lent_pl, nodup0, nodup1, nodup2, handL_nil, handL_cons, handB_sh, handB_lst, handB_dic, handB_tp, handB_pl, lendS_sh, lendS_ow, lendS_io, argsO_eq, backL_nil, backL_cons, backB_sh, backB_ow, backB_tp, backB_plN, backB_plS, putE_zero, putE_succ, put_ow, put_io, sput_sh, KF_ok, KF_exc, KF_none, KF_ite, KF_r, kArg_eq, kCall_eq, K_mCall, ioS_io, ioS_sh, ioS_ow, ioS_no, outs0, outs1, outs2, outs3, outs4, outs5, kFn_rt, kFn_nx, eFn_eq, mkFn_eq, rep0, repS, itO_eq, kIt_eq, K_items, dItems_tup, dItems_lst, rngD_int, kRg_eq, K_itRange, zipO_eq, kZ2_eq, kZ1_eq, K_itZip, enO_eq, kEn_eq, K_itEnum, zip2_tup, zip2_lst, zipD_cons, zipD_nil, zipD_nil2, enumD_tup, enumD_lst, putS_succ, putS_no, putS_sh, putS_ow, putTg_one, putTg_tup, putSs_nil, putSs_cons, slots_one, slots_tup, clr_nil, clr_cons, back_nil, back_cons, free_nil, free_cons, fr1_succ, fr1_no, fr1_sh, kCoE_eq, kCo_eq, K_mComp, K_comp0, kCo3_eq, kCo2_eq, kCo1_eq, kCo0_eq, K_comp1, K_sPass, K_sBreak, K_sCont, kSeq_nx, kSeq_rt, kSeq_bk, kSeq_ct, K_sSeq, kDrop_eq, K_sDrop, K_sIf, kNx_eq, ownO_sh, ownO_ow, ownO_tp, setO_eq, kSet_eq, K_sSet, ownOs_nil, ownOs_cons, putA_nil, putA_cons, parO_eq, kPar_eq, K_sPar, tupB_tp, tupB_sh, unpO_eq, kUnp_eq, K_sUnp, putOE_zero, putOE_succ, obj_ow, obj_io, hasO_zero, hasO_succ, xsO_eq, kXS3_eq, kXS2_eq, kXS1_eq, K_sIxSet, apO_eq, kNon_eq, kAp2_eq, kAp1_eq, K_mApp, addAt_lst, setAt_lst, setAt_dicS, kFor_eq, K_sFor, kFor2_nx, kFor2_ct, kFor2_bk, kFor2_rt, kFor1_eq, K_for0, K_for1, kWh2_nx, kWh2_ct, kWh2_bk, kWh2_rt, kWh1_eq, kRet_sh, kRet_ow, kRet_tp, K_sRet, tpO_eq, kTp_eq, K_mTp, sbBs_nil, sbBs_cons, sbB_sh, sbB_ow, K_sRaise, eTry_eq, K_sTry, K_tryGo0, K_tryGo1, Add_int, Add_tup, Add_lst, Add_str, Sub_int, Mul_int, Mul_lst, Fdiv_int, Mod_int, Lt_int, Le_int, Gt_int, Ge_int, Eq_eq, Ne_eq, In_tup, In_lst, Nin_tup, Nin_lst, mem_nil, mem_cons, Ix_tup, Ix_lst, atI_0, atI_1, atI_2, atI_3, atI_4, atI_5, atI_6, Len_tup, Len_lst, Len_str, Int_int, Int_bl, Tuple_lst, Tuple_tup, List_lst, List_tup, bools_nil, bools_cons, All_lst, Any_lst, dep_non, dep_bl, dep_int, dep_str, dep_tupS, dep_lstS, deps_nil, deps_cons, isNon_non, isNon_int, isNon_tup, isNon_lst, isNon_str, isNon_bl, eqv_ss, eqv_ii, eqv_bb, eqv_nn, eqv_tt, eqv_ll, eqvs_nn, eqvs_nc, eqvs_cn, eqvs_cc, upto_1, upto_2, upto_3, upto_7, K_mAdd, K_mSub, K_mMul, K_mFdiv, K_mMod, K_mPow, K_mEq, K_mNe, K_mLt, K_mLe, K_mGt, K_mGe, K_mIn, K_mNin, K_mMin, K_mJoin, K_mIndex, K_mLen, K_mInt, K_mStr, K_mTuple, K_mList, K_mAll, K_mAny, K_mSorted, K_mDict, K_mIsA, IsA_tup, IsA_lst, IsA_str, IsA_int, IsA_bl, Mul_tup, txt_nc, txt_cn, IsA_non, isA, LIM, List.drop_zero, List.take_zero, List.drop_succ_cons, List.take_succ_cons, List.drop_nil, List.take_nil, Nat.sub_zero, reduceIte, ite_true, ite_false, Nat.reduceAdd, Nat.reduceMul, Nat.reduceSub, Nat.reduceLT, Nat.reduceLeDiff, Nat.reduceEqDiff, Nat.reduceBEq, Nat.reduceBNe, Nat.reducePow, Int.reduceAdd, Int.reduceMul, Int.reduceNeg, Int.reduceSub, Int.reduceLE, Int.reduceLT, Int.reduceEq, Int.reduceBEq, Int.reduceBNe, Int.reducePow, Int.reduceToNat, Int.reduceNe, Int.reduceMod, Int.reduceDiv, Int.cast_ofNat_Int, Int.ofNat_zero, Int.ofNat_one, List.cons_beq_cons, and_true, true_and, and_self, and_false, false_and, not_false_eq_true, not_true_eq_false, or_true, true_or, or_false, false_or, List.map_cons, List.map_nil, List.length_cons, List.length_nil, List.cons_append, List.nil_append, List.append_nil, List.set_cons_zero, List.set_cons_succ, Option.bind_some, Option.bind_none, Option.map_some, Option.map_none, List.head?_cons, if_true, Bool.and_true, Bool.true_and, Bool.and_false, Bool.false_and, Bool.or_true, Bool.true_or, Bool.or_false, Bool.false_or, Bool.not_true, Bool.not_false, Bool.not_not, Bool.and_self, Bool.or_self, decide_true, decide_false, decide_eq_true_eq, beq_self_eq_true, Bool.false_eq_true, List.all_cons, List.all_nil, List.any_cons, List.any_nil, id_eq, Nat.max_self, Nat.sub_self, Nat.zero_le, Bool.decide_eq_true, List.isEmpty_cons, List.isEmpty_nil, ite_self, Nat.max_zero, Nat.zero_max, rs, e]
end K01
end WF

set_option Elab.async false
set_option linter.all false
set_option maxRecDepth 100000
set_option maxHeartbeats 1000000
/-! P18_k01: the law's loops. -/
namespace WF
namespace K01
theorem rule_small {r : D} (h : ruleB r = true) : D.dep r ≤ 1 ∧ D.wid r ≤ 7 := by
  have : allRules.all (fun r => decide (D.dep r ≤ 1 ∧ D.wid r ≤ 7)) = true := by decide +kernel
  exact of_decide_eq_true (List.all_eq_true.mp this r (rule_all h))
theorem turn1 {g s : Int} {r : D} {o0 o1 o4 o5 o6 o7 o8 o9 o10 o11 : Option SB} (p : Pot g s) (hr : ruleB r = true) (n6 : Nio o6) (n7 : Nio o7) :
    ∃ g' s' x, Pot g' s' ∧
      fb1_law [o0, o1, some (oPot g s), some (.sh r), o4, o5, o6, o7, o8, o9, o10, o11] = some (.ok .nx, [o0, o1, some (oPot g' s'), some (.sh r), o4, o5, some (.sh x), some (.sh (.int 2)), o8, o9, o10, o11]) := by
  obtain ⟨dr, wr⟩ := rule_small hr
  obtain ⟨g1, s1, xs, p1, hl, hx, e1⟩ := row_draw p
  obtain ⟨g2, s2, v, p2, mv, e2⟩ := pick_spec (xs := [r, .tup xs]) p1 (by simp) (by simp)
  have dv : D.dep v ≤ 2 ∧ D.wid v ≤ 12 := by
    simp at mv
    rcases mv with rfl | rfl
    · omega
    · exact tup_fine (d := 1) hl fun z mz => by
        obtain ⟨ys, rfl, hy, dy⟩ := hx z mz
        refine ⟨by rw [dep_tupS]; omega, Nat.max_le.2 ⟨by omega, ?_⟩⟩
        have : ∀ y ∈ ys, D.wid y = 0 := fun y my => by
          have := dep_mem (n := 0) (by omega) y my
          cases y with
          | tup zs => rw [dep_tupS] at this; omega
          | _ => rfl
        exact wids_le fun y my => by rw [this y my]; omega
  obtain ⟨g3, s3, x3, p3, d3, w3, e3⟩ := turn0 (v := v) (r := r) (m := 12) (o0 := o0) (o1 := o1) (o4 := o4) (o5 := o5) (o7 := some (.sh (.int 0))) (o8 := o8) (o9 := o9) (o10 := o10) (o11 := o11) p2 (by omega) dv.2 (by omega) (by omega)
  obtain ⟨g4, s4, x4, p4, d4, w4, e4⟩ := turn0 (v := x3) (r := r) (m := 13) (o0 := o0) (o1 := o1) (o4 := o4) (o5 := o5) (o7 := some (.sh (.int 1))) (o8 := o8) (o9 := o9) (o10 := o10) (o11 := o11) p3 (by omega) w3 (by omega) (by omega)
  obtain ⟨g5, s5, x5, p5, d5, w5, e5⟩ := turn0 (v := x4) (r := r) (m := 14) (o0 := o0) (o1 := o1) (o4 := o4) (o5 := o5) (o7 := some (.sh (.int 2))) (o8 := o8) (o9 := o9) (o10 := o10) (o11 := o11) p4 (by omega) w4 (by omega) (by omega)
  refine ⟨g5, s5, x5, p5, ?_⟩
  rw [K_id (m := fb1_law), fb1_law]
  simp only [KO_some, KO_none, KO_ite, KE_some, KE_none, KE_ite, K_ret, K_stuck, K_lift, kId_eq, eId_eq, un1_some, op2_some, dat_sh, dat_ow, dat_pl, dat_tp, sbsD_nil, sbsD_cons, toD_sh, toD_ow, toD_io, toD_lst, toD_dic, at_zero, at_succ, kV_sh, kV_lst, kV_dic, K_mV, kP_sh, kP_ow, kP_io, K_mP, kM_sh, kM_ow, K_mMv, K_mK, kOp2_eq, kOp1_eq, K_mOp, kUn_eq, K_mUn, K_mNeg, isNB_eq, notNB_eq, K_mIsN, K_mNotN, lele_int, kLL3_eq, kLL2_eq, kLL1_eq, K_mLeLe, kTV_eq, K_tV, kTA_eq, K_tAnd, kTO_eq, K_tOr, kTN_eq, K_tNot, K_yes, kMA2_eq, kMA1_eq, K_mAnd, kMO2_eq, kMO1_eq, K_mOr, notB_bl, K_mNot, kIf_eq, K_mIf, boolV_bl, tru_bl, tru_non, tru_int, tru_str, tru_tup, tru_lst, K_mNil, kC2_eq, kC1_eq, K_mCons, keptO_nil, keptO_sh, keptO_ow, keptO_tp, tupO_eq, lstO_eq, kTup_eq, kLst_eq, K_mTup, K_mLst, fzO_eq, kFz_eq, K_mFz, lzip2_eq, kLZ2_eq, kLZ1_eq, K_mLZip, K_mDic0, dic1_eq, kD2_eq, kD1_eq, K_mDic1, elB_sh, elB_ow, ixO_sh, ixO_ow, ixO_pl, ixO_tp, kIx2_eq, kIx1_eq, K_mIx, slO_eq, kSl3_eq, kSl2_eq, kSl1_eq, K_mSl, intD_int, K_mEndN, kEnd_eq, K_mEndS, K_mRev, get3_eq, kG3_eq, kG2_eq, kG1_eq, K_mGet, txtB_str, kSp3_eq, kSp2_eq, kSp1_eq, K_mSplit, lent_nil, lent_sh1, lent_ow, lent_tp, lent_pl, nodup0, nodup1, nodup2, handL_nil, handL_cons, handB_sh, handB_lst, handB_dic, handB_tp, handB_pl, lendS_sh, lendS_ow, lendS_io, argsO_eq, backL_nil, backL_cons, backB_sh, backB_ow, backB_tp, backB_plN, backB_plS, putE_zero, putE_succ, put_ow, put_io, sput_sh, KF_ok, KF_exc, KF_none, KF_ite, KF_r, kArg_eq, kCall_eq, K_mCall, ioS_io, ioS_sh, ioS_ow, ioS_no, outs0, outs1, outs2, outs3, outs4, outs5, kFn_rt, kFn_nx, eFn_eq, mkFn_eq, rep0, repS, itO_eq, kIt_eq, K_items, dItems_tup, dItems_lst, rngD_int, kRg_eq, K_itRange, zipO_eq, kZ2_eq, kZ1_eq, K_itZip, enO_eq, kEn_eq, K_itEnum, zip2_tup, zip2_lst, zipD_cons, zipD_nil, zipD_nil2, enumD_tup, enumD_lst, putS_succ, putS_no, putS_sh, putS_ow, putTg_one, putTg_tup, putSs_nil, putSs_cons, slots_one, slots_tup, clr_nil, clr_cons, back_nil, back_cons, free_nil, free_cons, fr1_succ, fr1_no, fr1_sh, kCoE_eq, kCo_eq, K_mComp, K_comp0, kCo3_eq, kCo2_eq, kCo1_eq, kCo0_eq, K_comp1, K_sPass, K_sBreak, K_sCont, kSeq_nx, kSeq_rt, kSeq_bk, kSeq_ct, K_sSeq, kDrop_eq, K_sDrop, K_sIf, kNx_eq, ownO_sh, ownO_ow, ownO_tp, setO_eq, kSet_eq, K_sSet, ownOs_nil, ownOs_cons, putA_nil, putA_cons, parO_eq, kPar_eq, K_sPar, tupB_tp, tupB_sh, unpO_eq, kUnp_eq, K_sUnp, putOE_zero, putOE_succ, obj_ow, obj_io, hasO_zero, hasO_succ, xsO_eq, kXS3_eq, kXS2_eq, kXS1_eq, K_sIxSet, apO_eq, kNon_eq, kAp2_eq, kAp1_eq, K_mApp, addAt_lst, setAt_lst, setAt_dicS, kFor_eq, K_sFor, kFor2_nx, kFor2_ct, kFor2_bk, kFor2_rt, kFor1_eq, K_for0, K_for1, kWh2_nx, kWh2_ct, kWh2_bk, kWh2_rt, kWh1_eq, kRet_sh, kRet_ow, kRet_tp, K_sRet, tpO_eq, kTp_eq, K_mTp, sbBs_nil, sbBs_cons, sbB_sh, sbB_ow, K_sRaise, eTry_eq, K_sTry, K_tryGo0, K_tryGo1, Add_int, Add_tup, Add_lst, Add_str, Sub_int, Mul_int, Mul_lst, Fdiv_int, Mod_int, Lt_int, Le_int, Gt_int, Ge_int, Eq_eq, Ne_eq, In_tup, In_lst, Nin_tup, Nin_lst, mem_nil, mem_cons, Ix_tup, Ix_lst, atI_0, atI_1, atI_2, atI_3, atI_4, atI_5, atI_6, Len_tup, Len_lst, Len_str, Int_int, Int_bl, Tuple_lst, Tuple_tup, List_lst, List_tup, bools_nil, bools_cons, All_lst, Any_lst, dep_non, dep_bl, dep_int, dep_str, dep_tupS, dep_lstS, deps_nil, deps_cons, isNon_non, isNon_int, isNon_tup, isNon_lst, isNon_str, isNon_bl, eqv_ss, eqv_ii, eqv_bb, eqv_nn, eqv_tt, eqv_ll, eqvs_nn, eqvs_nc, eqvs_cn, eqvs_cc, upto_1, upto_2, upto_3, upto_7, K_mAdd, K_mSub, K_mMul, K_mFdiv, K_mMod, K_mPow, K_mEq, K_mNe, K_mLt, K_mLe, K_mGt, K_mGe, K_mIn, K_mNin, K_mMin, K_mJoin, K_mIndex, K_mLen, K_mInt, K_mStr, K_mTuple, K_mList, K_mAll, K_mAny, K_mSorted, K_mDict, K_mIsA, IsA_tup, IsA_lst, IsA_str, IsA_int, IsA_bl, Mul_tup, txt_nc, txt_cn, IsA_non, isA, LIM, List.drop_zero, List.take_zero, List.drop_succ_cons, List.take_succ_cons, List.drop_nil, List.take_nil, Nat.sub_zero, reduceIte, ite_true, ite_false, Nat.reduceAdd, Nat.reduceMul, Nat.reduceSub, Nat.reduceLT, Nat.reduceLeDiff, Nat.reduceEqDiff, Nat.reduceBEq, Nat.reduceBNe, Nat.reducePow, Int.reduceAdd, Int.reduceMul, Int.reduceNeg, Int.reduceSub, Int.reduceLE, Int.reduceLT, Int.reduceEq, Int.reduceBEq, Int.reduceBNe, Int.reducePow, Int.reduceToNat, Int.reduceNe, Int.reduceMod, Int.reduceDiv, Int.cast_ofNat_Int, Int.ofNat_zero, Int.ofNat_one, List.cons_beq_cons, and_true, true_and, and_self, and_false, false_and, not_false_eq_true, not_true_eq_false, or_true, true_or, or_false, false_or, List.map_cons, List.map_nil, List.length_cons, List.length_nil, List.cons_append, List.nil_append, List.append_nil, List.set_cons_zero, List.set_cons_succ, Option.bind_some, Option.bind_none, Option.map_some, Option.map_none, List.head?_cons, if_true, Bool.and_true, Bool.true_and, Bool.and_false, Bool.false_and, Bool.or_true, Bool.true_or, Bool.or_false, Bool.false_or, Bool.not_true, Bool.not_false, Bool.not_not, Bool.and_self, Bool.or_self, decide_true, decide_false, decide_eq_true_eq, beq_self_eq_true, Bool.false_eq_true, List.all_cons, List.all_nil, List.any_cons, List.any_nil, id_eq, Nat.max_self, Nat.sub_self, Nat.zero_le, Bool.decide_eq_true, List.isEmpty_cons, List.isEmpty_nil, ite_self, Nat.max_zero, Nat.zero_max, putS_nio n6, putS_nio n7, e1, e2, K_eq e3, K_eq e4, K_eq e5]
theorem turns10 {g s : Int} {r : D} {o0 o1 o4 o5 o6 o7 o8 o9 o10 o11 : Option SB} (p : Pot g s) (hr : ruleB r = true) (n5 : Nio o5) (n6 : Fre o6) (n7 : Nio o7) (ds : List D) :
    ∃ g' s' o5' o6' o7', Pot g' s' ∧ Nio o5' ∧ Fre o6' ∧ Nio o7' ∧ forGo (.one 5) fb1_law ds [o0, o1, some (oPot g s), some (.sh r), o4, o5, o6, o7, o8, o9, o10, o11] = some (.ok .nx, [o0, o1, some (oPot g' s'), some (.sh r), o4, o5', o6', o7', o8, o9, o10, o11]) := by
  obtain ⟨ρ', e, g', s', a5, a6, a7, h⟩ := forGo_inv (t := .one 5) (body := fb1_law) (fun ρ => ∃ g s o5 o6 o7, Pot g s ∧ Nio o5 ∧ Fre o6 ∧ Nio o7 ∧ ρ = [o0, o1, some (oPot g s), some (.sh r), o4, o5, o6, o7, o8, o9, o10, o11]) (ds := ds) (fun d _ ρ ⟨g, s, o5, o6, o7, p, n5, n6, n7, h⟩ => by
    subst h
    obtain ⟨g', s', x, p', e⟩ := turn1 (o0 := o0) (o1 := o1) (o4 := o4) (o5 := some (.sh d)) (o8 := o8) (o9 := o9) (o10 := o10) (o11 := o11) p hr n6.nio n7
    exact ⟨_, _, by show putS _ 5 _ = _; simp only [putS_succ, putS_nio n5, Option.map_some], e, g', s', _, _, _, p', nio_sh, .inr ⟨x, rfl⟩, nio_sh, rfl⟩) _ ⟨g, s, o5, o6, o7, p, n5, n6, n7, rfl⟩
  obtain ⟨p', n5, n6, n7, rfl⟩ := h
  exact ⟨g', s', a5, a6, a7, p', n5, n6, n7, e⟩
theorem turn2 {cell : Int} {o0 o2 o3 o4 o5 o6 o7 o8 o9 o10 o11 : Option SB} (n2 : Nio o2) (n3 : Nio o3) (n4 : Nio o4) (n5 : Nio o5) (n6 : Fre o6) (n7 : Nio o7) :
    ∃ o2' o3' o4' o5' o6' o7', Nio o2' ∧ Nio o3' ∧ Nio o4' ∧ Nio o5' ∧ Fre o6' ∧ Nio o7' ∧ fb2_law [o0, some (.sh (.int cell)), o2, o3, o4, o5, o6, o7, o8, o9, o10, o11] = some (.ok .nx, [o0, some (.sh (.int cell)), o2', o3', o4', o5', o6', o7', o8, o9, o10, o11]) := by
  obtain ⟨g1, s1, p1, e1⟩ := pot_spec cell
  obtain ⟨g2, s2, xs, p2, hr, e2⟩ := rule_draw p1
  obtain ⟨L, hL, dL, e3, e4⟩ := (near_spec (v := .tup xs) (by have := (rule_small hr).1; omega)).1 hr
  have e5 := is_rule_spec (v := .tup xs) (by have := (rule_small hr).1; omega)
  have e5' : f_is_rule [.sh (.tup xs)] = some (.ok (.sh (.bl true)), [none]) := by rw [e5, hr]
  have dM : D.deps (L.mergeSort leD) ≤ 50 := deps_perm dL fun y m => (List.mergeSort_perm L leD).mem_iff.mp m
  have eM : D.eqvs (L.mergeSort leD) (L.mergeSort leD) = true := eqvs_self _ (by omega)
  have lM : (L.mergeSort leD).length = 8 := by rw [List.length_mergeSort, hL]
  have dM' : D.deps (L.mergeSort leD) ≤ 59 := by omega
  obtain ⟨g3, s3, a5, a6, a7, p3, m5, m6, m7, e6⟩ := turns10 (o0 := o0) (o1 := some (.sh (.int cell))) (o4 := some (.ow (.lst (L.mergeSort leD)))) (o8 := o8) (o9 := o9) (o10 := o10) (o11 := o11) p2 hr n5 n6 n7 (upto 10)
  obtain ⟨g4, s4, x, p4, mx, e7⟩ := odd_spec p3
  have e8 := right_spec (v := x) (by have := oddL_dep _ mx; omega) (fun xs h => by have := oddL_len _ mx xs h; show _ ≤ 16777216; omega)
  refine ⟨some (oPot g4 s4), some (.sh (.tup xs)), some (.ow (.lst (L.mergeSort leD))), a5, a6, a7, nio_ow, nio_sh, nio_ow, m5, m6, m7, ?_⟩
  rw [K_id (m := fb2_law), fb2_law]
  simp only [KO_some, KO_none, KO_ite, KE_some, KE_none, KE_ite, K_ret, K_stuck, K_lift, kId_eq, eId_eq, un1_some, op2_some, dat_sh, dat_ow, dat_pl, dat_tp, sbsD_nil, sbsD_cons, toD_sh, toD_ow, toD_io, toD_lst, toD_dic, at_zero, at_succ, kV_sh, kV_lst, kV_dic, K_mV, kP_sh, kP_ow, kP_io, K_mP, kM_sh, kM_ow, K_mMv, K_mK, kOp2_eq, kOp1_eq, K_mOp, kUn_eq, K_mUn, K_mNeg, isNB_eq, notNB_eq, K_mIsN, K_mNotN, lele_int, kLL3_eq, kLL2_eq, kLL1_eq, K_mLeLe, kTV_eq, K_tV, kTA_eq, K_tAnd, kTO_eq, K_tOr, kTN_eq, K_tNot, K_yes, kMA2_eq, kMA1_eq, K_mAnd, kMO2_eq, kMO1_eq, K_mOr, notB_bl, K_mNot, kIf_eq, K_mIf, boolV_bl, tru_bl, tru_non, tru_int, tru_str, tru_tup, tru_lst, K_mNil, kC2_eq, kC1_eq, K_mCons, keptO_nil, keptO_sh, keptO_ow, keptO_tp, tupO_eq, lstO_eq, kTup_eq, kLst_eq, K_mTup, K_mLst, fzO_eq, kFz_eq, K_mFz, lzip2_eq, kLZ2_eq, kLZ1_eq, K_mLZip, K_mDic0, dic1_eq, kD2_eq, kD1_eq, K_mDic1, elB_sh, elB_ow, ixO_sh, ixO_ow, ixO_pl, ixO_tp, kIx2_eq, kIx1_eq, K_mIx, slO_eq, kSl3_eq, kSl2_eq, kSl1_eq, K_mSl, intD_int, K_mEndN, kEnd_eq, K_mEndS, K_mRev, get3_eq, kG3_eq, kG2_eq, kG1_eq, K_mGet, txtB_str, kSp3_eq, kSp2_eq, kSp1_eq, K_mSplit, lent_nil, lent_sh1, lent_ow, lent_tp, lent_pl, nodup0, nodup1, nodup2, handL_nil, handL_cons, handB_sh, handB_lst, handB_dic, handB_tp, handB_pl, lendS_sh, lendS_ow, lendS_io, argsO_eq, backL_nil, backL_cons, backB_sh, backB_ow, backB_tp, backB_plN, backB_plS, putE_zero, putE_succ, put_ow, put_io, sput_sh, KF_ok, KF_exc, KF_none, KF_ite, KF_r, kArg_eq, kCall_eq, K_mCall, ioS_io, ioS_sh, ioS_ow, ioS_no, outs0, outs1, outs2, outs3, outs4, outs5, kFn_rt, kFn_nx, eFn_eq, mkFn_eq, rep0, repS, itO_eq, kIt_eq, K_items, dItems_tup, dItems_lst, rngD_int, kRg_eq, K_itRange, zipO_eq, kZ2_eq, kZ1_eq, K_itZip, enO_eq, kEn_eq, K_itEnum, zip2_tup, zip2_lst, zipD_cons, zipD_nil, zipD_nil2, enumD_tup, enumD_lst, putS_succ, putS_no, putS_sh, putS_ow, putTg_one, putTg_tup, putSs_nil, putSs_cons, slots_one, slots_tup, clr_nil, clr_cons, back_nil, back_cons, free_nil, free_cons, fr1_succ, fr1_no, fr1_sh, kCoE_eq, kCo_eq, K_mComp, K_comp0, kCo3_eq, kCo2_eq, kCo1_eq, kCo0_eq, K_comp1, K_sPass, K_sBreak, K_sCont, kSeq_nx, kSeq_rt, kSeq_bk, kSeq_ct, K_sSeq, kDrop_eq, K_sDrop, K_sIf, kNx_eq, ownO_sh, ownO_ow, ownO_tp, setO_eq, kSet_eq, K_sSet, ownOs_nil, ownOs_cons, putA_nil, putA_cons, parO_eq, kPar_eq, K_sPar, tupB_tp, tupB_sh, unpO_eq, kUnp_eq, K_sUnp, putOE_zero, putOE_succ, obj_ow, obj_io, hasO_zero, hasO_succ, xsO_eq, kXS3_eq, kXS2_eq, kXS1_eq, K_sIxSet, apO_eq, kNon_eq, kAp2_eq, kAp1_eq, K_mApp, addAt_lst, setAt_lst, setAt_dicS, kFor_eq, K_sFor, kFor2_nx, kFor2_ct, kFor2_bk, kFor2_rt, kFor1_eq, K_for0, K_for1, kWh2_nx, kWh2_ct, kWh2_bk, kWh2_rt, kWh1_eq, kRet_sh, kRet_ow, kRet_tp, K_sRet, tpO_eq, kTp_eq, K_mTp, sbBs_nil, sbBs_cons, sbB_sh, sbB_ow, K_sRaise, eTry_eq, K_sTry, K_tryGo0, K_tryGo1, Add_int, Add_tup, Add_lst, Add_str, Sub_int, Mul_int, Mul_lst, Fdiv_int, Mod_int, Lt_int, Le_int, Gt_int, Ge_int, Eq_eq, Ne_eq, In_tup, In_lst, Nin_tup, Nin_lst, mem_nil, mem_cons, Ix_tup, Ix_lst, atI_0, atI_1, atI_2, atI_3, atI_4, atI_5, atI_6, Len_tup, Len_lst, Len_str, Int_int, Int_bl, Tuple_lst, Tuple_tup, List_lst, List_tup, bools_nil, bools_cons, All_lst, Any_lst, dep_non, dep_bl, dep_int, dep_str, dep_tupS, dep_lstS, deps_nil, deps_cons, isNon_non, isNon_int, isNon_tup, isNon_lst, isNon_str, isNon_bl, eqv_ss, eqv_ii, eqv_bb, eqv_nn, eqv_tt, eqv_ll, eqvs_nn, eqvs_nc, eqvs_cn, eqvs_cc, upto_1, upto_2, upto_3, upto_7, K_mAdd, K_mSub, K_mMul, K_mFdiv, K_mMod, K_mPow, K_mEq, K_mNe, K_mLt, K_mLe, K_mGt, K_mGe, K_mIn, K_mNin, K_mMin, K_mJoin, K_mIndex, K_mLen, K_mInt, K_mStr, K_mTuple, K_mList, K_mAll, K_mAny, K_mSorted, K_mDict, K_mIsA, IsA_tup, IsA_lst, IsA_str, IsA_int, IsA_bl, Mul_tup, txt_nc, txt_cn, IsA_non, isA, LIM, List.drop_zero, List.take_zero, List.drop_succ_cons, List.take_succ_cons, List.drop_nil, List.take_nil, Nat.sub_zero, reduceIte, ite_true, ite_false, Nat.reduceAdd, Nat.reduceMul, Nat.reduceSub, Nat.reduceLT, Nat.reduceLeDiff, Nat.reduceEqDiff, Nat.reduceBEq, Nat.reduceBNe, Nat.reducePow, Int.reduceAdd, Int.reduceMul, Int.reduceNeg, Int.reduceSub, Int.reduceLE, Int.reduceLT, Int.reduceEq, Int.reduceBEq, Int.reduceBNe, Int.reducePow, Int.reduceToNat, Int.reduceNe, Int.reduceMod, Int.reduceDiv, Int.cast_ofNat_Int, Int.ofNat_zero, Int.ofNat_one, List.cons_beq_cons, and_true, true_and, and_self, and_false, false_and, not_false_eq_true, not_true_eq_false, or_true, true_or, or_false, false_or, List.map_cons, List.map_nil, List.length_cons, List.length_nil, List.cons_append, List.nil_append, List.append_nil, List.set_cons_zero, List.set_cons_succ, Option.bind_some, Option.bind_none, Option.map_some, Option.map_none, List.head?_cons, if_true, Bool.and_true, Bool.true_and, Bool.and_false, Bool.false_and, Bool.or_true, Bool.true_or, Bool.or_false, Bool.false_or, Bool.not_true, Bool.not_false, Bool.not_not, Bool.and_self, Bool.or_self, decide_true, decide_false, decide_eq_true_eq, beq_self_eq_true, Bool.false_eq_true, List.all_cons, List.all_nil, List.any_cons, List.any_nil, id_eq, Nat.max_self, Nat.sub_self, Nat.zero_le, Bool.decide_eq_true, List.isEmpty_cons, List.isEmpty_nil, ite_self, Nat.max_zero, Nat.zero_max, putS_nio n2, putS_nio n3, putS_nio n4, e1, e2, e3, e4, e5', dM', eM, lM, K_eq e6, e7, e8]
theorem cells {o0 : Option SB} (cs : List Int) {o1 o2 o3 o4 o5 o6 o7 o8 o9 o10 o11 : Option SB} (n1 : Nio o1) (n2 : Nio o2) (n3 : Nio o3) (n4 : Nio o4) (n5 : Nio o5) (n6 : Fre o6) (n7 : Nio o7) :
    ∃ o1' o2' o3' o4' o5' o6' o7', Nio o1' ∧ Nio o2' ∧ Nio o3' ∧ Nio o4' ∧ Nio o5' ∧ Fre o6' ∧ Nio o7' ∧ forGo (.one 1) fb2_law (cs.map D.int) [o0, o1, o2, o3, o4, o5, o6, o7, o8, o9, o10, o11] = some (.ok .nx, [o0, o1', o2', o3', o4', o5', o6', o7', o8, o9, o10, o11]) := by
  obtain ⟨ρ', e, a1, a2, a3, a4, a5, a6, a7, h⟩ := forGo_inv (t := .one 1) (body := fb2_law) (fun ρ => ∃ o1 o2 o3 o4 o5 o6 o7, Nio o1 ∧ Nio o2 ∧ Nio o3 ∧ Nio o4 ∧ Nio o5 ∧ Fre o6 ∧ Nio o7 ∧ ρ = [o0, o1, o2, o3, o4, o5, o6, o7, o8, o9, o10, o11]) (ds := cs.map D.int) (fun d md ρ ⟨o1, o2, o3, o4, o5, o6, o7, n1, n2, n3, n4, n5, n6, n7, h⟩ => by
    subst h
    obtain ⟨c, _, rfl⟩ := List.mem_map.mp md
    obtain ⟨a2, a3, a4, a5, a6, a7, m2, m3, m4, m5, m6, m7, e⟩ := turn2 (cell := c) (o0 := o0) (o8 := o8) (o9 := o9) (o10 := o10) (o11 := o11) n2 n3 n4 n5 n6 n7
    exact ⟨_, _, by show putS _ 1 _ = _; simp only [putS_succ, putS_nio n1, Option.map_some], e, _, a2, a3, a4, a5, a6, a7, nio_sh, m2, m3, m4, m5, m6, m7, rfl⟩) _ ⟨o1, o2, o3, o4, o5, o6, o7, n1, n2, n3, n4, n5, n6, n7, rfl⟩
  obtain ⟨m1, m2, m3, m4, m5, m6, m7, rfl⟩ := h
  exact ⟨_, _, _, _, _, _, _, m1, m2, m3, m4, m5, m6, m7, e⟩
end K01
end WF

set_option Elab.async false
set_option linter.all false
set_option maxRecDepth 100000
set_option maxHeartbeats 1000000
/-! P19_k01: the law holds. -/
namespace WF
namespace K01
def ru7 (a b c d e f g : D) : D := .tup [a, b, c, d, e, f, g]
abbrev ruleD : List D := [.str t_last, .str t_own, .str t_morning, .str t_now, .str t_use, .bl true, .bl false]
def rowsD : List D := [
  .tup [.str t_any, .str t_own, .str t_morning, .str t_now, .str t_use, .bl true, .bl false],
  .tup [.str t_last, .str t_both, .str t_morning, .str t_now, .str t_use, .bl true, .bl false],
  .tup [.str t_last, .str t_own, .str t_use, .str t_now, .str t_use, .bl true, .bl false],
  .tup [.str t_last, .str t_own, .str t_morning, .bl true, .str t_use, .bl true, .bl false],
  .tup [.str t_last, .str t_own, .str t_morning, .str t_now, .str t_now, .bl true, .bl false],
  .tup [.str t_last, .str t_own, .str t_morning, .str t_now, .str t_use, .int 1, .bl false],
  .tup [.str t_last, .str t_own, .str t_morning, .str t_now, .str t_use, .bl true, .int 0],
  .tup [.str t_last, .str t_own, .str t_morning, .str t_now, .str t_use, .bl true, .str t_yes],
  .tup [.str t_last, .str t_own, .str t_morning, .str t_now, .str t_use, .bl true],
  .tup [.str t_last, .str t_own, .str t_morning, .str t_now, .str t_use, .bl true, .bl false, .bl true],
  .lst ruleD,
  .tup (repL [.tup [.str t_morning]] 60), .tup (repL [.tup [.str t_morning]] 61),
  .tup [.tup [.str t_come, .int 3]], .tup [.tup [.str t_paper, .int 2]], .tup [.tup [.str t_say, .int 0]],
  .tup [.tup [.str t_say, .int 0, .str t_yes]], .tup [.tup [.str t_say, .bl true, .str t_no]], .tup [.tup [.str t_morning, .int 0]], .tup [.str t_morning],
  .tup [.tup [.str t_say, .int 0, .str t_no, .int 1]]]
theorem rows_ok : ∀ x ∈ rowsD, D.dep x ≤ 58 ∧ ∀ xs, x = .tup xs → xs.length ≤ LIM := by
  have : rowsD.all (fun x => decide (D.dep x ≤ 58) && (match x with | .tup xs => decide (xs.length ≤ 100) | _ => true)) = true := by decide +kernel
  intro x m
  have h := List.all_eq_true.mp this x m
  rw [Bool.and_eq_true] at h
  refine ⟨of_decide_eq_true h.1, fun xs e => ?_⟩
  subst e
  have := of_decide_eq_true h.2
  show _ ≤ 16777216
  omega
def badD : D := .tup [.tup [.int 0, .str t_any], .tup [.int 1, .str t_both], .tup [.int 2, .str t_use], .tup [.int 3, .bl true], .tup [.int 4, .str t_now], .tup [.int 5, .int 1], .tup [.int 6, .int 0], .tup [.int 6, .str t_yes]]
def rowsA : List D := rowsD.take 11
def rowsB : List D := rowsD.take 16
def rowsC : List D := rowsD.take 20
theorem rows1 (v : D) (a1 a2 a4 a5 a6 a7 : Option SB) : sSet 9 (mAdd (mComp (.tup [10, 11]) (items (mV 8)) yes ce0_law) (mLst (mCons (mSl (mP 3) none (some (mK (.int 6)))) (mCons (mAdd (mP 3) (mK (.tup [(.bl true)]))) (mCons (mList (mP 3)) mNil))))) [some (.sh v), a1, a2, some (.sh (.tup ruleD)), a4, a5, a6, a7, some (.sh badD), none, none, none] = some (.ok .nx, [some (.sh v), a1, a2, some (.sh (.tup ruleD)), a4, a5, a6, a7, some (.sh badD), some (.ow (.lst rowsA)), none, none]) := by kernel_rfl
theorem rows2 (v : D) (a1 a2 a4 a5 a6 a7 : Option SB) : sSet 9 (mAdd (mP 9) (mLst (mCons (mMul (mK (.tup [(.tup [(.str t_morning)])])) (mK (.int 60))) (mCons (mMul (mK (.tup [(.tup [(.str t_morning)])])) (mK (.int 61))) (mCons (mK (.tup [(.tup [(.str t_come), (.int 3)])])) (mCons (mK (.tup [(.tup [(.str t_paper), (.int 2)])])) (mCons (mK (.tup [(.tup [(.str t_say), (.int 0)])])) mNil))))))) [some (.sh v), a1, a2, some (.sh (.tup ruleD)), a4, a5, a6, a7, some (.sh badD), some (.ow (.lst rowsA)), none, none] = some (.ok .nx, [some (.sh v), a1, a2, some (.sh (.tup ruleD)), a4, a5, a6, a7, some (.sh badD), some (.ow (.lst rowsB)), none, none]) := by kernel_rfl
theorem rows3 (v : D) (a1 a2 a4 a5 a6 a7 : Option SB) : sSet 9 (mAdd (mP 9) (mLst (ret (List.map B.sh [(.tup [(.tup [(.str t_say), (.int 0), (.str t_yes)])]), (.tup [(.tup [(.str t_say), (.bl true), (.str t_no)])]), (.tup [(.tup [(.str t_morning), (.int 0)])]), (.tup [(.str t_morning)])])))) [some (.sh v), a1, a2, some (.sh (.tup ruleD)), a4, a5, a6, a7, some (.sh badD), some (.ow (.lst rowsB)), none, none] = some (.ok .nx, [some (.sh v), a1, a2, some (.sh (.tup ruleD)), a4, a5, a6, a7, some (.sh badD), some (.ow (.lst rowsC)), none, none]) := by kernel_rfl
theorem rows4 (v : D) (a1 a2 a4 a5 a6 a7 : Option SB) : sDrop (mApp 9 (mK (.tup [(.tup [(.str t_say), (.int 0), (.str t_no), (.int 1)])]))) [some (.sh v), a1, a2, some (.sh (.tup ruleD)), a4, a5, a6, a7, some (.sh badD), some (.ow (.lst rowsC)), none, none] = some (.ok .nx, [some (.sh v), a1, a2, some (.sh (.tup ruleD)), a4, a5, a6, a7, some (.sh badD), some (.ow (.lst rowsD)), none, none]) := by kernel_rfl
theorem rows_right {o0 o1 o2 o3 o4 o5 o6 o7 o8 o9 o10 o11 : Option SB} (n6 : Fre o6) : ∃ o6', compGo (.one 6) cc0_law ce1_law rowsD [] [o0, o1, o2, o3, o4, o5, o6, o7, o8, o9, o10, o11] = some (.ok [], [o0, o1, o2, o3, o4, o5, o6', o7, o8, o9, o10, o11]) := by
  obtain ⟨ρ', e, a6, n6, h⟩ := compGo_map (t := .one 6) (c := cc0_law) (e := ce1_law) (fun ρ => ∃ o6, Fre o6 ∧ ρ = [o0, o1, o2, o3, o4, o5, o6, o7, o8, o9, o10, o11]) (fun _ => none) (ds := rowsD) (fun d md ρ ⟨o6, n6, h⟩ => by
    subst h
    have r := right_spec (rows_ok d md).1 (rows_ok d md).2
    refine ⟨[o0, o1, o2, o3, o4, o5, some (.sh d), o7, o8, o9, o10, o11], [o0, o1, o2, o3, o4, o5, some (.sh d), o7, o8, o9, o10, o11], ?_, ⟨_, .inr ⟨d, rfl⟩, rfl⟩, .inl ⟨rfl, ?_⟩⟩
    · show putS [o0, o1, o2, o3, o4, o5, none, o7, o8, o9, o10, o11] 6 _ = _
      simp only [putS_succ, putS_nio nio_no, Option.map_some]
    · rw [K_id (m := cc0_law), cc0_law]
      simp only [KO_some, KO_none, KO_ite, KE_some, KE_none, KE_ite, K_ret, K_stuck, K_lift, kId_eq, eId_eq, un1_some, op2_some, dat_sh, dat_ow, dat_pl, dat_tp, sbsD_nil, sbsD_cons, toD_sh, toD_ow, toD_io, toD_lst, toD_dic, at_zero, at_succ, kV_sh, kV_lst, kV_dic, K_mV, kP_sh, kP_ow, kP_io, K_mP, kM_sh, kM_ow, K_mMv, K_mK, kOp2_eq, kOp1_eq, K_mOp, kUn_eq, K_mUn, K_mNeg, isNB_eq, notNB_eq, K_mIsN, K_mNotN, lele_int, kLL3_eq, kLL2_eq, kLL1_eq, K_mLeLe, kTV_eq, K_tV, kTA_eq, K_tAnd, kTO_eq, K_tOr, kTN_eq, K_tNot, K_yes, kMA2_eq, kMA1_eq, K_mAnd, kMO2_eq, kMO1_eq, K_mOr, notB_bl, K_mNot, kIf_eq, K_mIf, boolV_bl, tru_bl, tru_non, tru_int, tru_str, tru_tup, tru_lst, K_mNil, kC2_eq, kC1_eq, K_mCons, keptO_nil, keptO_sh, keptO_ow, keptO_tp, tupO_eq, lstO_eq, kTup_eq, kLst_eq, K_mTup, K_mLst, fzO_eq, kFz_eq, K_mFz, lzip2_eq, kLZ2_eq, kLZ1_eq, K_mLZip, K_mDic0, dic1_eq, kD2_eq, kD1_eq, K_mDic1, elB_sh, elB_ow, ixO_sh, ixO_ow, ixO_pl, ixO_tp, kIx2_eq, kIx1_eq, K_mIx, slO_eq, kSl3_eq, kSl2_eq, kSl1_eq, K_mSl, intD_int, K_mEndN, kEnd_eq, K_mEndS, K_mRev, get3_eq, kG3_eq, kG2_eq, kG1_eq, K_mGet, txtB_str, kSp3_eq, kSp2_eq, kSp1_eq, K_mSplit, lent_nil, lent_sh1, lent_ow, lent_tp, lent_pl, nodup0, nodup1, nodup2, handL_nil, handL_cons, handB_sh, handB_lst, handB_dic, handB_tp, handB_pl, lendS_sh, lendS_ow, lendS_io, argsO_eq, backL_nil, backL_cons, backB_sh, backB_ow, backB_tp, backB_plN, backB_plS, putE_zero, putE_succ, put_ow, put_io, sput_sh, KF_ok, KF_exc, KF_none, KF_ite, KF_r, kArg_eq, kCall_eq, K_mCall, ioS_io, ioS_sh, ioS_ow, ioS_no, outs0, outs1, outs2, outs3, outs4, outs5, kFn_rt, kFn_nx, eFn_eq, mkFn_eq, rep0, repS, itO_eq, kIt_eq, K_items, dItems_tup, dItems_lst, rngD_int, kRg_eq, K_itRange, zipO_eq, kZ2_eq, kZ1_eq, K_itZip, enO_eq, kEn_eq, K_itEnum, zip2_tup, zip2_lst, zipD_cons, zipD_nil, zipD_nil2, enumD_tup, enumD_lst, putS_succ, putS_no, putS_sh, putS_ow, putTg_one, putTg_tup, putSs_nil, putSs_cons, slots_one, slots_tup, clr_nil, clr_cons, back_nil, back_cons, free_nil, free_cons, fr1_succ, fr1_no, fr1_sh, kCoE_eq, kCo_eq, K_mComp, K_comp0, kCo3_eq, kCo2_eq, kCo1_eq, kCo0_eq, K_comp1, K_sPass, K_sBreak, K_sCont, kSeq_nx, kSeq_rt, kSeq_bk, kSeq_ct, K_sSeq, kDrop_eq, K_sDrop, K_sIf, kNx_eq, ownO_sh, ownO_ow, ownO_tp, setO_eq, kSet_eq, K_sSet, ownOs_nil, ownOs_cons, putA_nil, putA_cons, parO_eq, kPar_eq, K_sPar, tupB_tp, tupB_sh, unpO_eq, kUnp_eq, K_sUnp, putOE_zero, putOE_succ, obj_ow, obj_io, hasO_zero, hasO_succ, xsO_eq, kXS3_eq, kXS2_eq, kXS1_eq, K_sIxSet, apO_eq, kNon_eq, kAp2_eq, kAp1_eq, K_mApp, addAt_lst, setAt_lst, setAt_dicS, kFor_eq, K_sFor, kFor2_nx, kFor2_ct, kFor2_bk, kFor2_rt, kFor1_eq, K_for0, K_for1, kWh2_nx, kWh2_ct, kWh2_bk, kWh2_rt, kWh1_eq, kRet_sh, kRet_ow, kRet_tp, K_sRet, tpO_eq, kTp_eq, K_mTp, sbBs_nil, sbBs_cons, sbB_sh, sbB_ow, K_sRaise, eTry_eq, K_sTry, K_tryGo0, K_tryGo1, Add_int, Add_tup, Add_lst, Add_str, Sub_int, Mul_int, Mul_lst, Fdiv_int, Mod_int, Lt_int, Le_int, Gt_int, Ge_int, Eq_eq, Ne_eq, In_tup, In_lst, Nin_tup, Nin_lst, mem_nil, mem_cons, Ix_tup, Ix_lst, atI_0, atI_1, atI_2, atI_3, atI_4, atI_5, atI_6, Len_tup, Len_lst, Len_str, Int_int, Int_bl, Tuple_lst, Tuple_tup, List_lst, List_tup, bools_nil, bools_cons, All_lst, Any_lst, dep_non, dep_bl, dep_int, dep_str, dep_tupS, dep_lstS, deps_nil, deps_cons, isNon_non, isNon_int, isNon_tup, isNon_lst, isNon_str, isNon_bl, eqv_ss, eqv_ii, eqv_bb, eqv_nn, eqv_tt, eqv_ll, eqvs_nn, eqvs_nc, eqvs_cn, eqvs_cc, upto_1, upto_2, upto_3, upto_7, K_mAdd, K_mSub, K_mMul, K_mFdiv, K_mMod, K_mPow, K_mEq, K_mNe, K_mLt, K_mLe, K_mGt, K_mGe, K_mIn, K_mNin, K_mMin, K_mJoin, K_mIndex, K_mLen, K_mInt, K_mStr, K_mTuple, K_mList, K_mAll, K_mAny, K_mSorted, K_mDict, K_mIsA, IsA_tup, IsA_lst, IsA_str, IsA_int, IsA_bl, Mul_tup, txt_nc, txt_cn, IsA_non, isA, LIM, List.drop_zero, List.take_zero, List.drop_succ_cons, List.take_succ_cons, List.drop_nil, List.take_nil, Nat.sub_zero, reduceIte, ite_true, ite_false, Nat.reduceAdd, Nat.reduceMul, Nat.reduceSub, Nat.reduceLT, Nat.reduceLeDiff, Nat.reduceEqDiff, Nat.reduceBEq, Nat.reduceBNe, Nat.reducePow, Int.reduceAdd, Int.reduceMul, Int.reduceNeg, Int.reduceSub, Int.reduceLE, Int.reduceLT, Int.reduceEq, Int.reduceBEq, Int.reduceBNe, Int.reducePow, Int.reduceToNat, Int.reduceNe, Int.reduceMod, Int.reduceDiv, Int.cast_ofNat_Int, Int.ofNat_zero, Int.ofNat_one, List.cons_beq_cons, and_true, true_and, and_self, and_false, false_and, not_false_eq_true, not_true_eq_false, or_true, true_or, or_false, false_or, List.map_cons, List.map_nil, List.length_cons, List.length_nil, List.cons_append, List.nil_append, List.append_nil, List.set_cons_zero, List.set_cons_succ, Option.bind_some, Option.bind_none, Option.map_some, Option.map_none, List.head?_cons, if_true, Bool.and_true, Bool.true_and, Bool.and_false, Bool.false_and, Bool.or_true, Bool.true_or, Bool.or_false, Bool.false_or, Bool.not_true, Bool.not_false, Bool.not_not, Bool.and_self, Bool.or_self, decide_true, decide_false, decide_eq_true_eq, beq_self_eq_true, Bool.false_eq_true, List.all_cons, List.all_nil, List.any_cons, List.any_nil, id_eq, Nat.max_self, Nat.sub_self, Nat.zero_le, Bool.decide_eq_true, List.isEmpty_cons, List.isEmpty_nil, ite_self, Nat.max_zero, Nat.zero_max, r]) [] _ ⟨o6, n6, rfl⟩
  subst h
  refine ⟨a6, ?_⟩
  rw [e]
  rfl
theorem keeps : ∀ ns : List Int, ns.length ≤ 63 → ∃ os, f_law [.sh (.lst (ns.map D.int))] = some (.ok (.sh (.bl true)), os) := fun ns hl => by
  obtain ⟨cs, e0⟩ : ∃ cs : List Int, iSl (.lst ((.int 0 : D) :: ns.map D.int)) none (some 8) = some (.ow (.lst (cs.map D.int))) := by
    refine ⟨(0 :: ns).take 8, ?_⟩
    show some (B.ow (.lst ((((0 :: ns).map D.int).drop 0).take (min 8 ((0 :: ns).map D.int).length)))) = _
    rw [List.drop_zero, List.map_take, ← List.take_take, List.take_length]
  have l0 : 1 + ns.length ≤ 16777216 := by omega
  obtain ⟨a1, a2, a3, a4, a5, a6, a7, n1, n2, n3, n4, n5, n6, n7, e1⟩ := cells (o0 := some (.sh (.lst (ns.map D.int)))) (o8 := none) (o9 := none) (o10 := none) (o11 := none) cs (o1 := none) (o2 := none) (o3 := none) (o4 := none) (o5 := none) (o6 := none) (o7 := none) nio_no nio_no nio_no nio_no nio_no (.inl rfl) nio_no
  obtain ⟨b6, e2⟩ := rows_right (o0 := some (.sh (.lst (ns.map D.int)))) (o1 := a1) (o2 := a2) (o3 := some (.sh (.tup ruleD))) (o4 := a4) (o5 := a5) (o7 := a7) (o8 := some (.sh badD)) (o9 := some (.sh (.lst rowsD))) (o10 := none) (o11 := none) n6
  refine ⟨[none], ?_⟩
  rw [f_law, mkFn_eq]
  have s0 : (List.map some [SB.sh (.lst (ns.map D.int))] ++ List.replicate (12 - 1) none : Env) = [some (.sh (.lst (ns.map D.int))), none, none, none, none, none, none, none, none, none, none, none] := rfl
  rw [if_pos (show ([SB.sh (.lst (ns.map D.int))] : List SB).length = 1 from rfl), s0]
  have st1 : sFor (.one 1) (items (mSl (mAdd (mLst (ret (List.map B.sh [(.int 0)]))) (mP 0)) none (some (mK (.int 8))))) fb2_law [some (.sh (.lst (ns.map D.int))), none, none, none, none, none, none, none, none, none, none, none] = some (.ok .nx, [some (.sh (.lst (ns.map D.int))), a1, a2, a3, a4, a5, a6, a7, none, none, none, none]) := by
    rw [K_id (m := sFor _ _ _)]
    simp only [KO_some, KO_none, KO_ite, KE_some, KE_none, KE_ite, K_ret, K_stuck, K_lift, kId_eq, eId_eq, un1_some, op2_some, dat_sh, dat_ow, dat_pl, dat_tp, sbsD_nil, sbsD_cons, toD_sh, toD_ow, toD_io, toD_lst, toD_dic, at_zero, at_succ, kV_sh, kV_lst, kV_dic, K_mV, kP_sh, kP_ow, kP_io, K_mP, kM_sh, kM_ow, K_mMv, K_mK, kOp2_eq, kOp1_eq, K_mOp, kUn_eq, K_mUn, K_mNeg, isNB_eq, notNB_eq, K_mIsN, K_mNotN, lele_int, kLL3_eq, kLL2_eq, kLL1_eq, K_mLeLe, kTV_eq, K_tV, kTA_eq, K_tAnd, kTO_eq, K_tOr, kTN_eq, K_tNot, K_yes, kMA2_eq, kMA1_eq, K_mAnd, kMO2_eq, kMO1_eq, K_mOr, notB_bl, K_mNot, kIf_eq, K_mIf, boolV_bl, tru_bl, tru_non, tru_int, tru_str, tru_tup, tru_lst, K_mNil, kC2_eq, kC1_eq, K_mCons, keptO_nil, keptO_sh, keptO_ow, keptO_tp, tupO_eq, lstO_eq, kTup_eq, kLst_eq, K_mTup, K_mLst, fzO_eq, kFz_eq, K_mFz, lzip2_eq, kLZ2_eq, kLZ1_eq, K_mLZip, K_mDic0, dic1_eq, kD2_eq, kD1_eq, K_mDic1, elB_sh, elB_ow, ixO_sh, ixO_ow, ixO_pl, ixO_tp, kIx2_eq, kIx1_eq, K_mIx, slO_eq, kSl3_eq, kSl2_eq, kSl1_eq, K_mSl, intD_int, K_mEndN, kEnd_eq, K_mEndS, K_mRev, get3_eq, kG3_eq, kG2_eq, kG1_eq, K_mGet, txtB_str, kSp3_eq, kSp2_eq, kSp1_eq, K_mSplit, lent_nil, lent_sh1, lent_ow, lent_tp, lent_pl, nodup0, nodup1, nodup2, handL_nil, handL_cons, handB_sh, handB_lst, handB_dic, handB_tp, handB_pl, lendS_sh, lendS_ow, lendS_io, argsO_eq, backL_nil, backL_cons, backB_sh, backB_ow, backB_tp, backB_plN, backB_plS, putE_zero, putE_succ, put_ow, put_io, sput_sh, KF_ok, KF_exc, KF_none, KF_ite, KF_r, kArg_eq, kCall_eq, K_mCall, ioS_io, ioS_sh, ioS_ow, ioS_no, outs0, outs1, outs2, outs3, outs4, outs5, kFn_rt, kFn_nx, eFn_eq, mkFn_eq, rep0, repS, itO_eq, kIt_eq, K_items, dItems_tup, dItems_lst, rngD_int, kRg_eq, K_itRange, zipO_eq, kZ2_eq, kZ1_eq, K_itZip, enO_eq, kEn_eq, K_itEnum, zip2_tup, zip2_lst, zipD_cons, zipD_nil, zipD_nil2, enumD_tup, enumD_lst, putS_succ, putS_no, putS_sh, putS_ow, putTg_one, putTg_tup, putSs_nil, putSs_cons, slots_one, slots_tup, clr_nil, clr_cons, back_nil, back_cons, free_nil, free_cons, fr1_succ, fr1_no, fr1_sh, kCoE_eq, kCo_eq, K_mComp, K_comp0, kCo3_eq, kCo2_eq, kCo1_eq, kCo0_eq, K_comp1, K_sPass, K_sBreak, K_sCont, kSeq_nx, kSeq_rt, kSeq_bk, kSeq_ct, K_sSeq, kDrop_eq, K_sDrop, K_sIf, kNx_eq, ownO_sh, ownO_ow, ownO_tp, setO_eq, kSet_eq, K_sSet, ownOs_nil, ownOs_cons, putA_nil, putA_cons, parO_eq, kPar_eq, K_sPar, tupB_tp, tupB_sh, unpO_eq, kUnp_eq, K_sUnp, putOE_zero, putOE_succ, obj_ow, obj_io, hasO_zero, hasO_succ, xsO_eq, kXS3_eq, kXS2_eq, kXS1_eq, K_sIxSet, apO_eq, kNon_eq, kAp2_eq, kAp1_eq, K_mApp, addAt_lst, setAt_lst, setAt_dicS, kFor_eq, K_sFor, kFor2_nx, kFor2_ct, kFor2_bk, kFor2_rt, kFor1_eq, kWh2_nx, kWh2_ct, kWh2_bk, kWh2_rt, kWh1_eq, kRet_sh, kRet_ow, kRet_tp, K_sRet, tpO_eq, kTp_eq, K_mTp, sbBs_nil, sbBs_cons, sbB_sh, sbB_ow, K_sRaise, eTry_eq, K_sTry, K_tryGo0, K_tryGo1, Add_int, Add_tup, Add_lst, Add_str, Sub_int, Mul_int, Mul_lst, Fdiv_int, Mod_int, Lt_int, Le_int, Gt_int, Ge_int, Eq_eq, Ne_eq, In_tup, In_lst, Nin_tup, Nin_lst, mem_nil, mem_cons, Ix_tup, Ix_lst, atI_0, atI_1, atI_2, atI_3, atI_4, atI_5, atI_6, Len_tup, Len_lst, Len_str, Int_int, Int_bl, Tuple_lst, Tuple_tup, List_lst, List_tup, bools_nil, bools_cons, All_lst, Any_lst, dep_non, dep_bl, dep_int, dep_str, dep_tupS, dep_lstS, deps_nil, deps_cons, isNon_non, isNon_int, isNon_tup, isNon_lst, isNon_str, isNon_bl, eqv_ss, eqv_ii, eqv_bb, eqv_nn, eqv_tt, eqv_ll, eqvs_nn, eqvs_nc, eqvs_cn, eqvs_cc, upto_1, upto_2, upto_3, upto_7, K_mAdd, K_mSub, K_mMul, K_mFdiv, K_mMod, K_mPow, K_mEq, K_mNe, K_mLt, K_mLe, K_mGt, K_mGe, K_mIn, K_mNin, K_mMin, K_mJoin, K_mIndex, K_mLen, K_mInt, K_mStr, K_mTuple, K_mList, K_mAll, K_mAny, K_mSorted, K_mDict, K_mIsA, IsA_tup, IsA_lst, IsA_str, IsA_int, IsA_bl, Mul_tup, txt_nc, txt_cn, IsA_non, isA, LIM, List.drop_zero, List.take_zero, List.drop_succ_cons, List.take_succ_cons, List.drop_nil, List.take_nil, Nat.sub_zero, reduceIte, ite_true, ite_false, Nat.reduceAdd, Nat.reduceMul, Nat.reduceSub, Nat.reduceLT, Nat.reduceLeDiff, Nat.reduceEqDiff, Nat.reduceBEq, Nat.reduceBNe, Nat.reducePow, Int.reduceAdd, Int.reduceMul, Int.reduceNeg, Int.reduceSub, Int.reduceLE, Int.reduceLT, Int.reduceEq, Int.reduceBEq, Int.reduceBNe, Int.reducePow, Int.reduceToNat, Int.reduceNe, Int.reduceMod, Int.reduceDiv, Int.cast_ofNat_Int, Int.ofNat_zero, Int.ofNat_one, List.cons_beq_cons, and_true, true_and, and_self, and_false, false_and, not_false_eq_true, not_true_eq_false, or_true, true_or, or_false, false_or, List.map_cons, List.map_nil, List.length_cons, List.length_nil, List.cons_append, List.nil_append, List.append_nil, List.set_cons_zero, List.set_cons_succ, Option.bind_some, Option.bind_none, Option.map_some, Option.map_none, List.head?_cons, if_true, Bool.and_true, Bool.true_and, Bool.and_false, Bool.false_and, Bool.or_true, Bool.true_or, Bool.or_false, Bool.false_or, Bool.not_true, Bool.not_false, Bool.not_not, Bool.and_self, Bool.or_self, decide_true, decide_false, decide_eq_true_eq, beq_self_eq_true, Bool.false_eq_true, List.all_cons, List.all_nil, List.any_cons, List.any_nil, id_eq, Nat.max_self, Nat.sub_self, Nat.zero_le, Bool.decide_eq_true, List.isEmpty_cons, List.isEmpty_nil, ite_self, Nat.max_zero, Nat.zero_max, List.length_map, l0, e0, K_eq e1]
  have st3 : sSet 3 (mK (.tup ruleD)) [some (.sh (.lst (ns.map D.int))), a1, a2, a3, a4, a5, a6, a7, none, none, none, none] = some (.ok .nx, [some (.sh (.lst (ns.map D.int))), a1, a2, some (.sh (.tup ruleD)), a4, a5, a6, a7, none, none, none, none]) := by
    rw [K_id (m := sSet _ _)]
    simp only [KO_some, KO_none, KO_ite, KE_some, KE_none, KE_ite, K_ret, K_stuck, K_lift, kId_eq, eId_eq, un1_some, op2_some, dat_sh, dat_ow, dat_pl, dat_tp, sbsD_nil, sbsD_cons, toD_sh, toD_ow, toD_io, toD_lst, toD_dic, at_zero, at_succ, kV_sh, kV_lst, kV_dic, K_mV, kP_sh, kP_ow, kP_io, K_mP, kM_sh, kM_ow, K_mMv, K_mK, kOp2_eq, kOp1_eq, K_mOp, kUn_eq, K_mUn, K_mNeg, isNB_eq, notNB_eq, K_mIsN, K_mNotN, lele_int, kLL3_eq, kLL2_eq, kLL1_eq, K_mLeLe, kTV_eq, K_tV, kTA_eq, K_tAnd, kTO_eq, K_tOr, kTN_eq, K_tNot, K_yes, kMA2_eq, kMA1_eq, K_mAnd, kMO2_eq, kMO1_eq, K_mOr, notB_bl, K_mNot, kIf_eq, K_mIf, boolV_bl, tru_bl, tru_non, tru_int, tru_str, tru_tup, tru_lst, K_mNil, kC2_eq, kC1_eq, K_mCons, keptO_nil, keptO_sh, keptO_ow, keptO_tp, tupO_eq, lstO_eq, kTup_eq, kLst_eq, K_mTup, K_mLst, fzO_eq, kFz_eq, K_mFz, lzip2_eq, kLZ2_eq, kLZ1_eq, K_mLZip, K_mDic0, dic1_eq, kD2_eq, kD1_eq, K_mDic1, elB_sh, elB_ow, ixO_sh, ixO_ow, ixO_pl, ixO_tp, kIx2_eq, kIx1_eq, K_mIx, slO_eq, kSl3_eq, kSl2_eq, kSl1_eq, K_mSl, intD_int, K_mEndN, kEnd_eq, K_mEndS, K_mRev, get3_eq, kG3_eq, kG2_eq, kG1_eq, K_mGet, txtB_str, kSp3_eq, kSp2_eq, kSp1_eq, K_mSplit, lent_nil, lent_sh1, lent_ow, lent_tp, lent_pl, nodup0, nodup1, nodup2, handL_nil, handL_cons, handB_sh, handB_lst, handB_dic, handB_tp, handB_pl, lendS_sh, lendS_ow, lendS_io, argsO_eq, backL_nil, backL_cons, backB_sh, backB_ow, backB_tp, backB_plN, backB_plS, putE_zero, putE_succ, put_ow, put_io, sput_sh, KF_ok, KF_exc, KF_none, KF_ite, KF_r, kArg_eq, kCall_eq, K_mCall, ioS_io, ioS_sh, ioS_ow, ioS_no, outs0, outs1, outs2, outs3, outs4, outs5, kFn_rt, kFn_nx, eFn_eq, mkFn_eq, rep0, repS, itO_eq, kIt_eq, K_items, dItems_tup, dItems_lst, rngD_int, kRg_eq, K_itRange, zipO_eq, kZ2_eq, kZ1_eq, K_itZip, enO_eq, kEn_eq, K_itEnum, zip2_tup, zip2_lst, zipD_cons, zipD_nil, zipD_nil2, enumD_tup, enumD_lst, putS_succ, putS_no, putS_sh, putS_ow, putTg_one, putTg_tup, putSs_nil, putSs_cons, slots_one, slots_tup, clr_nil, clr_cons, back_nil, back_cons, free_nil, free_cons, fr1_succ, fr1_no, fr1_sh, kCoE_eq, kCo_eq, K_mComp, K_comp0, kCo3_eq, kCo2_eq, kCo1_eq, kCo0_eq, K_comp1, K_sPass, K_sBreak, K_sCont, kSeq_nx, kSeq_rt, kSeq_bk, kSeq_ct, K_sSeq, kDrop_eq, K_sDrop, K_sIf, kNx_eq, ownO_sh, ownO_ow, ownO_tp, setO_eq, kSet_eq, K_sSet, ownOs_nil, ownOs_cons, putA_nil, putA_cons, parO_eq, kPar_eq, K_sPar, tupB_tp, tupB_sh, unpO_eq, kUnp_eq, K_sUnp, putOE_zero, putOE_succ, obj_ow, obj_io, hasO_zero, hasO_succ, xsO_eq, kXS3_eq, kXS2_eq, kXS1_eq, K_sIxSet, apO_eq, kNon_eq, kAp2_eq, kAp1_eq, K_mApp, addAt_lst, setAt_lst, setAt_dicS, kFor_eq, K_sFor, kFor2_nx, kFor2_ct, kFor2_bk, kFor2_rt, kFor1_eq, K_for0, K_for1, kWh2_nx, kWh2_ct, kWh2_bk, kWh2_rt, kWh1_eq, kRet_sh, kRet_ow, kRet_tp, K_sRet, tpO_eq, kTp_eq, K_mTp, sbBs_nil, sbBs_cons, sbB_sh, sbB_ow, K_sRaise, eTry_eq, K_sTry, K_tryGo0, K_tryGo1, Add_int, Add_tup, Add_lst, Add_str, Sub_int, Mul_int, Mul_lst, Fdiv_int, Mod_int, Lt_int, Le_int, Gt_int, Ge_int, Eq_eq, Ne_eq, In_tup, In_lst, Nin_tup, Nin_lst, mem_nil, mem_cons, Ix_tup, Ix_lst, atI_0, atI_1, atI_2, atI_3, atI_4, atI_5, atI_6, Len_tup, Len_lst, Len_str, Int_int, Int_bl, Tuple_lst, Tuple_tup, List_lst, List_tup, bools_nil, bools_cons, All_lst, Any_lst, dep_non, dep_bl, dep_int, dep_str, dep_tupS, dep_lstS, deps_nil, deps_cons, isNon_non, isNon_int, isNon_tup, isNon_lst, isNon_str, isNon_bl, eqv_ss, eqv_ii, eqv_bb, eqv_nn, eqv_tt, eqv_ll, eqvs_nn, eqvs_nc, eqvs_cn, eqvs_cc, upto_1, upto_2, upto_3, upto_7, K_mAdd, K_mSub, K_mMul, K_mFdiv, K_mMod, K_mPow, K_mEq, K_mNe, K_mLt, K_mLe, K_mGt, K_mGe, K_mIn, K_mNin, K_mMin, K_mJoin, K_mIndex, K_mLen, K_mInt, K_mStr, K_mTuple, K_mList, K_mAll, K_mAny, K_mSorted, K_mDict, K_mIsA, IsA_tup, IsA_lst, IsA_str, IsA_int, IsA_bl, Mul_tup, txt_nc, txt_cn, IsA_non, isA, LIM, List.drop_zero, List.take_zero, List.drop_succ_cons, List.take_succ_cons, List.drop_nil, List.take_nil, Nat.sub_zero, reduceIte, ite_true, ite_false, Nat.reduceAdd, Nat.reduceMul, Nat.reduceSub, Nat.reduceLT, Nat.reduceLeDiff, Nat.reduceEqDiff, Nat.reduceBEq, Nat.reduceBNe, Nat.reducePow, Int.reduceAdd, Int.reduceMul, Int.reduceNeg, Int.reduceSub, Int.reduceLE, Int.reduceLT, Int.reduceEq, Int.reduceBEq, Int.reduceBNe, Int.reducePow, Int.reduceToNat, Int.reduceNe, Int.reduceMod, Int.reduceDiv, Int.cast_ofNat_Int, Int.ofNat_zero, Int.ofNat_one, List.cons_beq_cons, and_true, true_and, and_self, and_false, false_and, not_false_eq_true, not_true_eq_false, or_true, true_or, or_false, false_or, List.map_cons, List.map_nil, List.length_cons, List.length_nil, List.cons_append, List.nil_append, List.append_nil, List.set_cons_zero, List.set_cons_succ, Option.bind_some, Option.bind_none, Option.map_some, Option.map_none, List.head?_cons, if_true, Bool.and_true, Bool.true_and, Bool.and_false, Bool.false_and, Bool.or_true, Bool.true_or, Bool.or_false, Bool.false_or, Bool.not_true, Bool.not_false, Bool.not_not, Bool.and_self, Bool.or_self, decide_true, decide_false, decide_eq_true_eq, beq_self_eq_true, Bool.false_eq_true, List.all_cons, List.all_nil, List.any_cons, List.any_nil, id_eq, Nat.max_self, Nat.sub_self, Nat.zero_le, Bool.decide_eq_true, List.isEmpty_cons, List.isEmpty_nil, ite_self, Nat.max_zero, Nat.zero_max, putS_nio n3]
  rw [K_sSeq, K_eq st1, kSeq_nx, K_sSeq, K_eq st3, kSeq_nx, K_sSeq]
  have st8 : sSet 8 (mK badD) [some (.sh (.lst (ns.map D.int))), a1, a2, some (.sh (.tup ruleD)), a4, a5, a6, a7, none, none, none, none] = some (.ok .nx, [some (.sh (.lst (ns.map D.int))), a1, a2, some (.sh (.tup ruleD)), a4, a5, a6, a7, some (.sh badD), none, none, none]) := rfl
  rw [show (.tup [.tup [.int 0, .str t_any], .tup [.int 1, .str t_both], .tup [.int 2, .str t_use], .tup [.int 3, .bl true], .tup [.int 4, .str t_now], .tup [.int 5, .int 1], .tup [.int 6, .int 0], .tup [.int 6, .str t_yes]] : D) = badD from rfl, K_eq st8, kSeq_nx, K_sSeq]
  rw [K_eq (rows1 _ _ _ _ _ _ _), kSeq_nx, K_sSeq, K_eq (rows2 _ _ _ _ _ _ _), kSeq_nx, K_sSeq, K_eq (rows3 _ _ _ _ _ _ _), kSeq_nx, K_sSeq, K_eq (rows4 _ _ _ _ _ _ _), kSeq_nx]
  simp only [KO_some, KO_none, KO_ite, KE_some, KE_none, KE_ite, K_ret, K_stuck, K_lift, kId_eq, eId_eq, un1_some, op2_some, dat_sh, dat_ow, dat_pl, dat_tp, sbsD_nil, sbsD_cons, toD_sh, toD_ow, toD_io, toD_lst, toD_dic, at_zero, at_succ, kV_sh, kV_lst, kV_dic, K_mV, kP_sh, kP_ow, kP_io, K_mP, kM_sh, kM_ow, K_mMv, K_mK, kOp2_eq, kOp1_eq, K_mOp, kUn_eq, K_mUn, K_mNeg, isNB_eq, notNB_eq, K_mIsN, K_mNotN, lele_int, kLL3_eq, kLL2_eq, kLL1_eq, K_mLeLe, kTV_eq, K_tV, kTA_eq, K_tAnd, kTO_eq, K_tOr, kTN_eq, K_tNot, K_yes, kMA2_eq, kMA1_eq, K_mAnd, kMO2_eq, kMO1_eq, K_mOr, notB_bl, K_mNot, kIf_eq, K_mIf, boolV_bl, tru_bl, tru_non, tru_int, tru_str, tru_tup, tru_lst, K_mNil, kC2_eq, kC1_eq, K_mCons, keptO_nil, keptO_sh, keptO_ow, keptO_tp, tupO_eq, lstO_eq, kTup_eq, kLst_eq, K_mTup, K_mLst, fzO_eq, kFz_eq, K_mFz, lzip2_eq, kLZ2_eq, kLZ1_eq, K_mLZip, K_mDic0, dic1_eq, kD2_eq, kD1_eq, K_mDic1, elB_sh, elB_ow, ixO_sh, ixO_ow, ixO_pl, ixO_tp, kIx2_eq, kIx1_eq, K_mIx, slO_eq, kSl3_eq, kSl2_eq, kSl1_eq, K_mSl, intD_int, K_mEndN, kEnd_eq, K_mEndS, K_mRev, get3_eq, kG3_eq, kG2_eq, kG1_eq, K_mGet, txtB_str, kSp3_eq, kSp2_eq, kSp1_eq, K_mSplit, lent_nil, lent_sh1, lent_ow, lent_tp, lent_pl, nodup0, nodup1, nodup2, handL_nil, handL_cons, handB_sh, handB_lst, handB_dic, handB_tp, handB_pl, lendS_sh, lendS_ow, lendS_io, argsO_eq, backL_nil, backL_cons, backB_sh, backB_ow, backB_tp, backB_plN, backB_plS, putE_zero, putE_succ, put_ow, put_io, sput_sh, KF_ok, KF_exc, KF_none, KF_ite, KF_r, kArg_eq, kCall_eq, K_mCall, ioS_io, ioS_sh, ioS_ow, ioS_no, outs0, outs1, outs2, outs3, outs4, outs5, kFn_rt, kFn_nx, eFn_eq, mkFn_eq, rep0, repS, itO_eq, kIt_eq, K_items, dItems_tup, dItems_lst, rngD_int, kRg_eq, K_itRange, zipO_eq, kZ2_eq, kZ1_eq, K_itZip, enO_eq, kEn_eq, K_itEnum, zip2_tup, zip2_lst, zipD_cons, zipD_nil, zipD_nil2, enumD_tup, enumD_lst, putS_succ, putS_no, putS_sh, putS_ow, putTg_one, putTg_tup, putSs_nil, putSs_cons, slots_one, slots_tup, clr_nil, clr_cons, back_nil, back_cons, free_nil, free_cons, fr1_succ, fr1_no, fr1_sh, kCoE_eq, kCo_eq, K_mComp, kCo3_eq, kCo2_eq, kCo1_eq, kCo0_eq, K_sPass, K_sBreak, K_sCont, kSeq_nx, kSeq_rt, kSeq_bk, kSeq_ct, K_sSeq, kDrop_eq, K_sDrop, K_sIf, kNx_eq, ownO_sh, ownO_ow, ownO_tp, setO_eq, kSet_eq, K_sSet, ownOs_nil, ownOs_cons, putA_nil, putA_cons, parO_eq, kPar_eq, K_sPar, tupB_tp, tupB_sh, unpO_eq, kUnp_eq, K_sUnp, putOE_zero, putOE_succ, obj_ow, obj_io, hasO_zero, hasO_succ, xsO_eq, kXS3_eq, kXS2_eq, kXS1_eq, K_sIxSet, apO_eq, kNon_eq, kAp2_eq, kAp1_eq, K_mApp, addAt_lst, setAt_lst, setAt_dicS, kFor_eq, K_sFor, kFor2_nx, kFor2_ct, kFor2_bk, kFor2_rt, kFor1_eq, K_for0, K_for1, kWh2_nx, kWh2_ct, kWh2_bk, kWh2_rt, kWh1_eq, kRet_sh, kRet_ow, kRet_tp, K_sRet, tpO_eq, kTp_eq, K_mTp, sbBs_nil, sbBs_cons, sbB_sh, sbB_ow, K_sRaise, eTry_eq, K_sTry, K_tryGo0, K_tryGo1, Add_int, Add_tup, Add_lst, Add_str, Sub_int, Mul_int, Mul_lst, Fdiv_int, Mod_int, Lt_int, Le_int, Gt_int, Ge_int, Eq_eq, Ne_eq, In_tup, In_lst, Nin_tup, Nin_lst, mem_nil, mem_cons, Ix_tup, Ix_lst, atI_0, atI_1, atI_2, atI_3, atI_4, atI_5, atI_6, Len_tup, Len_lst, Len_str, Int_int, Int_bl, Tuple_lst, Tuple_tup, List_lst, List_tup, bools_nil, bools_cons, All_lst, Any_lst, dep_non, dep_bl, dep_int, dep_str, dep_tupS, dep_lstS, deps_nil, deps_cons, isNon_non, isNon_int, isNon_tup, isNon_lst, isNon_str, isNon_bl, eqv_ss, eqv_ii, eqv_bb, eqv_nn, eqv_tt, eqv_ll, eqvs_nn, eqvs_nc, eqvs_cn, eqvs_cc, upto_1, upto_2, upto_3, upto_7, K_mAdd, K_mSub, K_mMul, K_mFdiv, K_mMod, K_mPow, K_mEq, K_mNe, K_mLt, K_mLe, K_mGt, K_mGe, K_mIn, K_mNin, K_mMin, K_mJoin, K_mIndex, K_mLen, K_mInt, K_mStr, K_mTuple, K_mList, K_mAll, K_mAny, K_mSorted, K_mDict, K_mIsA, IsA_tup, IsA_lst, IsA_str, IsA_int, IsA_bl, Mul_tup, txt_nc, txt_cn, IsA_non, isA, LIM, List.drop_zero, List.take_zero, List.drop_succ_cons, List.take_succ_cons, List.drop_nil, List.take_nil, Nat.sub_zero, reduceIte, ite_true, ite_false, Nat.reduceAdd, Nat.reduceMul, Nat.reduceSub, Nat.reduceLT, Nat.reduceLeDiff, Nat.reduceEqDiff, Nat.reduceBEq, Nat.reduceBNe, Nat.reducePow, Int.reduceAdd, Int.reduceMul, Int.reduceNeg, Int.reduceSub, Int.reduceLE, Int.reduceLT, Int.reduceEq, Int.reduceBEq, Int.reduceBNe, Int.reducePow, Int.reduceToNat, Int.reduceNe, Int.reduceMod, Int.reduceDiv, Int.cast_ofNat_Int, Int.ofNat_zero, Int.ofNat_one, List.cons_beq_cons, and_true, true_and, and_self, and_false, false_and, not_false_eq_true, not_true_eq_false, or_true, true_or, or_false, false_or, List.map_cons, List.map_nil, List.length_cons, List.length_nil, List.cons_append, List.nil_append, List.append_nil, List.set_cons_zero, List.set_cons_succ, Option.bind_some, Option.bind_none, Option.map_some, Option.map_none, List.head?_cons, if_true, Bool.and_true, Bool.true_and, Bool.and_false, Bool.false_and, Bool.or_true, Bool.true_or, Bool.or_false, Bool.false_or, Bool.not_true, Bool.not_false, Bool.not_not, Bool.and_self, Bool.or_self, decide_true, decide_false, decide_eq_true_eq, beq_self_eq_true, Bool.false_eq_true, List.all_cons, List.all_nil, List.any_cons, List.any_nil, id_eq, Nat.max_self, Nat.sub_self, Nat.zero_le, Bool.decide_eq_true, List.isEmpty_cons, List.isEmpty_nil, ite_self, Nat.max_zero, Nat.zero_max, K_eq e2, fr1_fre n6]
end K01
end WF

set_option Elab.async false
set_option linter.all false
set_option maxRecDepth 100000
set_option maxHeartbeats 4000000
namespace WF
namespace K01
open PySem PySem.Spec PyProof.Rows L2
def top (i : Nat) : Stmt := PySem.Challenge.pw_whofetches_k01_rules_and_rows_known.main.body.getD i (.Pass ⟨0, 0, 0, 0⟩)
abbrev s_is_same : Stmt := top 8
abbrev s_is_rule : Stmt := top 9
abbrev s_is_number : Stmt := top 10
abbrev s_is_word : Stmt := top 11
abbrev s_is_event : Stmt := top 12
abbrev s_are_events : Stmt := top 13
abbrev s_need_rule : Stmt := top 14
abbrev s_rules_near : Stmt := top 15
abbrev s_is_row : Stmt := top 16
abbrev s_near : Stmt := top 17
abbrev s__law_pot : Stmt := top 19
abbrev s__law_lot : Stmt := top 20
abbrev s__law_pick : Stmt := top 21
abbrev s__law_values : Stmt := top 22
abbrev s__law_rule : Stmt := top 23
abbrev s__law_words : Stmt := top 24
abbrev s__law_event : Stmt := top 25
abbrev s__law_row : Stmt := top 26
abbrev s__law_is_rule : Stmt := top 27
abbrev s__law_is_event : Stmt := top 28
abbrev s__law_is_row : Stmt := top 29
abbrev s__law_odd : Stmt := top 30
abbrev s__law_bent : Stmt := top 31
abbrev s__law_near : Stmt := top 32
abbrev s__law_refused : Stmt := top 33
abbrev s__law_right : Stmt := top 34
abbrev s_law : Stmt := top 35
theorem nm_FetchError : Nm "FetchError" := nm_of (by decide +kernel)
theorem nm_InvalidRule : Nm "InvalidRule" := nm_of (by decide +kernel)
theorem nm__law_bent : Nm "_law_bent" := nm_of (by decide +kernel)
theorem nm__law_event : Nm "_law_event" := nm_of (by decide +kernel)
theorem nm__law_is_event : Nm "_law_is_event" := nm_of (by decide +kernel)
theorem nm__law_is_row : Nm "_law_is_row" := nm_of (by decide +kernel)
theorem nm__law_is_rule : Nm "_law_is_rule" := nm_of (by decide +kernel)
theorem nm__law_lot : Nm "_law_lot" := nm_of (by decide +kernel)
theorem nm__law_near : Nm "_law_near" := nm_of (by decide +kernel)
theorem nm__law_odd : Nm "_law_odd" := nm_of (by decide +kernel)
theorem nm__law_pick : Nm "_law_pick" := nm_of (by decide +kernel)
theorem nm__law_pot : Nm "_law_pot" := nm_of (by decide +kernel)
theorem nm__law_refused : Nm "_law_refused" := nm_of (by decide +kernel)
theorem nm__law_right : Nm "_law_right" := nm_of (by decide +kernel)
theorem nm__law_row : Nm "_law_row" := nm_of (by decide +kernel)
theorem nm__law_rule : Nm "_law_rule" := nm_of (by decide +kernel)
theorem nm__law_values : Nm "_law_values" := nm_of (by decide +kernel)
theorem nm__law_words : Nm "_law_words" := nm_of (by decide +kernel)
theorem nm_are_events : Nm "are_events" := nm_of (by decide +kernel)
theorem nm_at : Nm "at" := nm_of (by decide +kernel)
theorem nm_bad : Nm "bad" := nm_of (by decide +kernel)
theorem nm_cell : Nm "cell" := nm_of (by decide +kernel)
theorem nm_deep : Nm "deep" := nm_of (by decide +kernel)
theorem nm_event : Nm "event" := nm_of (by decide +kernel)
theorem nm_found : Nm "found" := nm_of (by decide +kernel)
theorem nm_great : Nm "great" := nm_of (by decide +kernel)
theorem nm_high : Nm "high" := nm_of (by decide +kernel)
theorem nm_is_event : Nm "is_event" := nm_of (by decide +kernel)
theorem nm_is_number : Nm "is_number" := nm_of (by decide +kernel)
theorem nm_is_row : Nm "is_row" := nm_of (by decide +kernel)
theorem nm_is_rule : Nm "is_rule" := nm_of (by decide +kernel)
theorem nm_is_same : Nm "is_same" := nm_of (by decide +kernel)
theorem nm_is_word : Nm "is_word" := nm_of (by decide +kernel)
theorem nm_many : Nm "many" := nm_of (by decide +kernel)
theorem nm_most : Nm "most" := nm_of (by decide +kernel)
theorem nm_near : Nm "near" := nm_of (by decide +kernel)
theorem nm_need_rule : Nm "need_rule" := nm_of (by decide +kernel)
theorem nm_odd : Nm "odd" := nm_of (by decide +kernel)
theorem nm_one : Nm "one" := nm_of (by decide +kernel)
theorem nm_other : Nm "other" := nm_of (by decide +kernel)
theorem nm_parent : Nm "parent" := nm_of (by decide +kernel)
theorem nm_pot : Nm "pot" := nm_of (by decide +kernel)
theorem nm_row : Nm "row" := nm_of (by decide +kernel)
theorem nm_rows : Nm "rows" := nm_of (by decide +kernel)
theorem nm_rule : Nm "rule" := nm_of (by decide +kernel)
theorem nm_rules_near : Nm "rules_near" := nm_of (by decide +kernel)
theorem nm_salt : Nm "salt" := nm_of (by decide +kernel)
theorem nm_script : Nm "script" := nm_of (by decide +kernel)
theorem nm_some : Nm "some" := nm_of (by decide +kernel)
theorem nm_things : Nm "things" := nm_of (by decide +kernel)
theorem nm_value : Nm "value" := nm_of (by decide +kernel)
theorem nm_values : Nm "values" := nm_of (by decide +kernel)
theorem nm_way : Nm "way" := nm_of (by decide +kernel)
theorem nm_word : Nm "word" := nm_of (by decide +kernel)
theorem nm_words : Nm "words" := nm_of (by decide +kernel)
structure Ad where
  a_is_same : Addr
  fd_is_same : FuncData
  a_is_rule : Addr
  fd_is_rule : FuncData
  a_is_number : Addr
  fd_is_number : FuncData
  a_is_word : Addr
  fd_is_word : FuncData
  a_is_event : Addr
  fd_is_event : FuncData
  a_are_events : Addr
  fd_are_events : FuncData
  a_need_rule : Addr
  fd_need_rule : FuncData
  a_rules_near : Addr
  fd_rules_near : FuncData
  a_is_row : Addr
  fd_is_row : FuncData
  a_near : Addr
  fd_near : FuncData
  a__law_pot : Addr
  fd__law_pot : FuncData
  a__law_lot : Addr
  fd__law_lot : FuncData
  a__law_pick : Addr
  fd__law_pick : FuncData
  a__law_values : Addr
  fd__law_values : FuncData
  a__law_rule : Addr
  fd__law_rule : FuncData
  a__law_words : Addr
  fd__law_words : FuncData
  a__law_event : Addr
  fd__law_event : FuncData
  a__law_row : Addr
  fd__law_row : FuncData
  a__law_is_rule : Addr
  fd__law_is_rule : FuncData
  a__law_is_event : Addr
  fd__law_is_event : FuncData
  a__law_is_row : Addr
  fd__law_is_row : FuncData
  a__law_odd : Addr
  fd__law_odd : FuncData
  a__law_bent : Addr
  fd__law_bent : FuncData
  a__law_near : Addr
  fd__law_near : FuncData
  a__law_refused : Addr
  fd__law_refused : FuncData
  a__law_right : Addr
  fd__law_right : FuncData
  a_law : Addr
  fd_law : FuncData
  cl_FetchError : Addr
  cl_InvalidRule : Addr
abbrev Ad.cl (a : Ad) : Nat → Addr
  | 0 => a.cl_FetchError
  | 1 => a.cl_InvalidRule
  | _ => 0
abbrev n_is_same : List Str := ["one", "other"]
abbrev p_is_same : List Str := ["one", "other"]
theorem sc_is_same : FnScope n_is_same p_is_same (defScope s_is_same) := ⟨rfl, rfl, rfl, by decide +kernel, rfl, by decide +kernel, by decide +kernel⟩
abbrev n_is_rule : List Str := ["value", "one", "some", "other"]
abbrev p_is_rule : List Str := ["value"]
theorem sc_is_rule : FnScope n_is_rule p_is_rule (defScope s_is_rule) := ⟨rfl, rfl, rfl, by decide +kernel, rfl, by decide +kernel, by decide +kernel⟩
abbrev n_is_number : List Str := ["value", "high"]
abbrev p_is_number : List Str := ["value", "high"]
theorem sc_is_number : FnScope n_is_number p_is_number (defScope s_is_number) := ⟨rfl, rfl, rfl, by decide +kernel, rfl, by decide +kernel, by decide +kernel⟩
abbrev n_is_word : List Str := ["value"]
abbrev p_is_word : List Str := ["value"]
theorem sc_is_word : FnScope n_is_word p_is_word (defScope s_is_word) := ⟨rfl, rfl, rfl, by decide +kernel, rfl, by decide +kernel, by decide +kernel⟩
abbrev n_is_event : List Str := ["value"]
abbrev p_is_event : List Str := ["value"]
theorem sc_is_event : FnScope n_is_event p_is_event (defScope s_is_event) := ⟨rfl, rfl, rfl, by decide +kernel, rfl, by decide +kernel, by decide +kernel⟩
abbrev n_are_events : List Str := ["value", "event"]
abbrev p_are_events : List Str := ["value"]
theorem sc_are_events : FnScope n_are_events p_are_events (defScope s_are_events) := ⟨rfl, rfl, rfl, by decide +kernel, rfl, by decide +kernel, by decide +kernel⟩
abbrev n_need_rule : List Str := ["rule"]
abbrev p_need_rule : List Str := ["rule"]
theorem sc_need_rule : FnScope n_need_rule p_need_rule (defScope s_need_rule) := ⟨rfl, rfl, rfl, by decide +kernel, rfl, by decide +kernel, by decide +kernel⟩
abbrev n_rules_near : List Str := ["rule", "found", "at", "some", "value"]
abbrev p_rules_near : List Str := ["rule"]
theorem sc_rules_near : FnScope n_rules_near p_rules_near (defScope s_rules_near) := ⟨rfl, rfl, rfl, by decide +kernel, rfl, by decide +kernel, by decide +kernel⟩
abbrev n_is_row : List Str := ["value"]
abbrev p_is_row : List Str := ["value"]
theorem sc_is_row : FnScope n_is_row p_is_row (defScope s_is_row) := ⟨rfl, rfl, rfl, by decide +kernel, rfl, by decide +kernel, by decide +kernel⟩
abbrev n_near : List Str := ["rule"]
abbrev p_near : List Str := ["rule"]
theorem sc_near : FnScope n_near p_near (defScope s_near) := ⟨rfl, rfl, rfl, by decide +kernel, rfl, by decide +kernel, by decide +kernel⟩
abbrev n__law_pot : List Str := ["cell", "salt", "great"]
abbrev p__law_pot : List Str := ["cell", "salt"]
theorem sc__law_pot : FnScope n__law_pot p__law_pot (defScope s__law_pot) := ⟨rfl, rfl, rfl, by decide +kernel, rfl, by decide +kernel, by decide +kernel⟩
abbrev n__law_lot : List Str := ["pot", "many", "found", "deep"]
abbrev p__law_lot : List Str := ["pot", "many"]
theorem sc__law_lot : FnScope n__law_lot p__law_lot (defScope s__law_lot) := ⟨rfl, rfl, rfl, by decide +kernel, rfl, by decide +kernel, by decide +kernel⟩
abbrev n__law_pick : List Str := ["pot", "things"]
abbrev p__law_pick : List Str := ["pot", "things"]
theorem sc__law_pick : FnScope n__law_pick p__law_pick (defScope s__law_pick) := ⟨rfl, rfl, rfl, by decide +kernel, rfl, by decide +kernel, by decide +kernel⟩
abbrev n__law_values : List Str := ["found"]
abbrev p__law_values : List Str := []
theorem sc__law_values : FnScope n__law_values p__law_values (defScope s__law_values) := ⟨rfl, rfl, rfl, by decide +kernel, rfl, by decide +kernel, by decide +kernel⟩
abbrev n__law_rule : List Str := ["pot", "some"]
abbrev p__law_rule : List Str := ["pot"]
theorem sc__law_rule : FnScope n__law_rule p__law_rule (defScope s__law_rule) := ⟨rfl, rfl, rfl, by decide +kernel, rfl, by decide +kernel, by decide +kernel⟩
abbrev n__law_words : List Str := []
abbrev p__law_words : List Str := []
theorem sc__law_words : FnScope n__law_words p__law_words (defScope s__law_words) := ⟨rfl, rfl, rfl, by decide +kernel, rfl, by decide +kernel, by decide +kernel⟩
abbrev n__law_event : List Str := ["pot", "some", "word", "parent"]
abbrev p__law_event : List Str := ["pot"]
theorem sc__law_event : FnScope n__law_event p__law_event (defScope s__law_event) := ⟨rfl, rfl, rfl, by decide +kernel, rfl, by decide +kernel, by decide +kernel⟩
abbrev n__law_row : List Str := ["pot", "most", "turn"]
abbrev p__law_row : List Str := ["pot", "most"]
theorem sc__law_row : FnScope n__law_row p__law_row (defScope s__law_row) := ⟨rfl, rfl, rfl, by decide +kernel, rfl, by decide +kernel, by decide +kernel⟩
abbrev n__law_is_rule : List Str := ["value", "words", "at"]
abbrev p__law_is_rule : List Str := ["value"]
theorem sc__law_is_rule : FnScope n__law_is_rule p__law_is_rule (defScope s__law_is_rule) := ⟨rfl, rfl, rfl, by decide +kernel, rfl, by decide +kernel, by decide +kernel⟩
abbrev n__law_is_event : List Str := ["value"]
abbrev p__law_is_event : List Str := ["value"]
theorem sc__law_is_event : FnScope n__law_is_event p__law_is_event (defScope s__law_is_event) := ⟨rfl, rfl, rfl, by decide +kernel, rfl, by decide +kernel, by decide +kernel⟩
abbrev n__law_is_row : List Str := ["value", "event"]
abbrev p__law_is_row : List Str := ["value"]
theorem sc__law_is_row : FnScope n__law_is_row p__law_is_row (defScope s__law_is_row) := ⟨rfl, rfl, rfl, by decide +kernel, rfl, by decide +kernel, by decide +kernel⟩
abbrev n__law_odd : List Str := ["pot", "some"]
abbrev p__law_odd : List Str := ["pot"]
theorem sc__law_odd : FnScope n__law_odd p__law_odd (defScope s__law_odd) := ⟨rfl, rfl, rfl, by decide +kernel, rfl, by decide +kernel, by decide +kernel⟩
abbrev n__law_bent : List Str := ["pot", "value", "at", "way"]
abbrev p__law_bent : List Str := ["pot", "value"]
theorem sc__law_bent : FnScope n__law_bent p__law_bent (defScope s__law_bent) := ⟨rfl, rfl, rfl, by decide +kernel, rfl, by decide +kernel, by decide +kernel⟩
abbrev n__law_near : List Str := ["rule", "found", "values", "at", "one"]
abbrev p__law_near : List Str := ["rule"]
theorem sc__law_near : FnScope n__law_near p__law_near (defScope s__law_near) := ⟨rfl, rfl, rfl, by decide +kernel, rfl, by decide +kernel, by decide +kernel⟩
abbrev n__law_refused : List Str := ["value"]
abbrev p__law_refused : List Str := ["value"]
theorem sc__law_refused : FnScope n__law_refused p__law_refused (defScope s__law_refused) := ⟨rfl, rfl, rfl, by decide +kernel, rfl, by decide +kernel, by decide +kernel⟩
abbrev n__law_right : List Str := ["value", "rows", "row"]
abbrev p__law_right : List Str := ["value"]
theorem sc__law_right : FnScope n__law_right p__law_right (defScope s__law_right) := ⟨rfl, rfl, rfl, by decide +kernel, rfl, by decide +kernel, by decide +kernel⟩
abbrev n_law : List Str := ["script", "cell", "pot", "rule", "found", "turn", "value", "again", "bad", "rows", "at", "odd"]
abbrev p_law : List Str := ["script"]
theorem sc_law : FnScope n_law p_law (defScope s_law) := ⟨rfl, rfl, rfl, by decide +kernel, rfl, by decide +kernel, by decide +kernel⟩
/-- what the top has written -/
structure Txt (K : PySem.W.Frag) (mg : Str → Option Value) (a : Ad) : Prop where
  g_is_same : mg "is_same" = some (.ref a.a_is_same)
  k_is_same : PySem.W.keepIn K (.ref a.a_is_same) = true
  t_is_same : Fun K "is_same" "is_same" s_is_same a.a_is_same a.fd_is_same
  d_is_same : Binds K a.fd_is_same ["one", "other"] []
  g_is_rule : mg "is_rule" = some (.ref a.a_is_rule)
  k_is_rule : PySem.W.keepIn K (.ref a.a_is_rule) = true
  t_is_rule : Fun K "is_rule" "is_rule" s_is_rule a.a_is_rule a.fd_is_rule
  d_is_rule : Binds K a.fd_is_rule ["value"] []
  g_is_number : mg "is_number" = some (.ref a.a_is_number)
  k_is_number : PySem.W.keepIn K (.ref a.a_is_number) = true
  t_is_number : Fun K "is_number" "is_number" s_is_number a.a_is_number a.fd_is_number
  d_is_number : Binds K a.fd_is_number ["value", "high"] []
  g_is_word : mg "is_word" = some (.ref a.a_is_word)
  k_is_word : PySem.W.keepIn K (.ref a.a_is_word) = true
  t_is_word : Fun K "is_word" "is_word" s_is_word a.a_is_word a.fd_is_word
  d_is_word : Binds K a.fd_is_word ["value"] []
  g_is_event : mg "is_event" = some (.ref a.a_is_event)
  k_is_event : PySem.W.keepIn K (.ref a.a_is_event) = true
  t_is_event : Fun K "is_event" "is_event" s_is_event a.a_is_event a.fd_is_event
  d_is_event : Binds K a.fd_is_event ["value"] []
  g_are_events : mg "are_events" = some (.ref a.a_are_events)
  k_are_events : PySem.W.keepIn K (.ref a.a_are_events) = true
  t_are_events : Fun K "are_events" "are_events" s_are_events a.a_are_events a.fd_are_events
  d_are_events : Binds K a.fd_are_events ["value"] []
  g_need_rule : mg "need_rule" = some (.ref a.a_need_rule)
  k_need_rule : PySem.W.keepIn K (.ref a.a_need_rule) = true
  t_need_rule : Fun K "need_rule" "need_rule" s_need_rule a.a_need_rule a.fd_need_rule
  d_need_rule : Binds K a.fd_need_rule ["rule"] []
  g_rules_near : mg "rules_near" = some (.ref a.a_rules_near)
  k_rules_near : PySem.W.keepIn K (.ref a.a_rules_near) = true
  t_rules_near : Fun K "rules_near" "rules_near" s_rules_near a.a_rules_near a.fd_rules_near
  d_rules_near : Binds K a.fd_rules_near ["rule"] []
  g_is_row : mg "is_row" = some (.ref a.a_is_row)
  k_is_row : PySem.W.keepIn K (.ref a.a_is_row) = true
  t_is_row : Fun K "is_row" "is_row" s_is_row a.a_is_row a.fd_is_row
  d_is_row : Binds K a.fd_is_row ["value"] []
  g_near : mg "near" = some (.ref a.a_near)
  k_near : PySem.W.keepIn K (.ref a.a_near) = true
  t_near : Fun K "near" "near" s_near a.a_near a.fd_near
  d_near : Binds K a.fd_near ["rule"] []
  g__law_pot : mg "_law_pot" = some (.ref a.a__law_pot)
  k__law_pot : PySem.W.keepIn K (.ref a.a__law_pot) = true
  t__law_pot : Fun K "_law_pot" "_law_pot" s__law_pot a.a__law_pot a.fd__law_pot
  d__law_pot : Binds K a.fd__law_pot ["cell", "salt"] []
  g__law_lot : mg "_law_lot" = some (.ref a.a__law_lot)
  k__law_lot : PySem.W.keepIn K (.ref a.a__law_lot) = true
  t__law_lot : Fun K "_law_lot" "_law_lot" s__law_lot a.a__law_lot a.fd__law_lot
  d__law_lot : Binds K a.fd__law_lot ["pot", "many"] []
  g__law_pick : mg "_law_pick" = some (.ref a.a__law_pick)
  k__law_pick : PySem.W.keepIn K (.ref a.a__law_pick) = true
  t__law_pick : Fun K "_law_pick" "_law_pick" s__law_pick a.a__law_pick a.fd__law_pick
  d__law_pick : Binds K a.fd__law_pick ["pot", "things"] []
  g__law_values : mg "_law_values" = some (.ref a.a__law_values)
  k__law_values : PySem.W.keepIn K (.ref a.a__law_values) = true
  t__law_values : Fun K "_law_values" "_law_values" s__law_values a.a__law_values a.fd__law_values
  d__law_values : Binds K a.fd__law_values [] []
  g__law_rule : mg "_law_rule" = some (.ref a.a__law_rule)
  k__law_rule : PySem.W.keepIn K (.ref a.a__law_rule) = true
  t__law_rule : Fun K "_law_rule" "_law_rule" s__law_rule a.a__law_rule a.fd__law_rule
  d__law_rule : Binds K a.fd__law_rule ["pot"] []
  g__law_words : mg "_law_words" = some (.ref a.a__law_words)
  k__law_words : PySem.W.keepIn K (.ref a.a__law_words) = true
  t__law_words : Fun K "_law_words" "_law_words" s__law_words a.a__law_words a.fd__law_words
  d__law_words : Binds K a.fd__law_words [] []
  g__law_event : mg "_law_event" = some (.ref a.a__law_event)
  k__law_event : PySem.W.keepIn K (.ref a.a__law_event) = true
  t__law_event : Fun K "_law_event" "_law_event" s__law_event a.a__law_event a.fd__law_event
  d__law_event : Binds K a.fd__law_event ["pot"] []
  g__law_row : mg "_law_row" = some (.ref a.a__law_row)
  k__law_row : PySem.W.keepIn K (.ref a.a__law_row) = true
  t__law_row : Fun K "_law_row" "_law_row" s__law_row a.a__law_row a.fd__law_row
  d__law_row : Binds K a.fd__law_row ["pot", "most"] []
  g__law_is_rule : mg "_law_is_rule" = some (.ref a.a__law_is_rule)
  k__law_is_rule : PySem.W.keepIn K (.ref a.a__law_is_rule) = true
  t__law_is_rule : Fun K "_law_is_rule" "_law_is_rule" s__law_is_rule a.a__law_is_rule a.fd__law_is_rule
  d__law_is_rule : Binds K a.fd__law_is_rule ["value"] []
  g__law_is_event : mg "_law_is_event" = some (.ref a.a__law_is_event)
  k__law_is_event : PySem.W.keepIn K (.ref a.a__law_is_event) = true
  t__law_is_event : Fun K "_law_is_event" "_law_is_event" s__law_is_event a.a__law_is_event a.fd__law_is_event
  d__law_is_event : Binds K a.fd__law_is_event ["value"] []
  g__law_is_row : mg "_law_is_row" = some (.ref a.a__law_is_row)
  k__law_is_row : PySem.W.keepIn K (.ref a.a__law_is_row) = true
  t__law_is_row : Fun K "_law_is_row" "_law_is_row" s__law_is_row a.a__law_is_row a.fd__law_is_row
  d__law_is_row : Binds K a.fd__law_is_row ["value"] []
  g__law_odd : mg "_law_odd" = some (.ref a.a__law_odd)
  k__law_odd : PySem.W.keepIn K (.ref a.a__law_odd) = true
  t__law_odd : Fun K "_law_odd" "_law_odd" s__law_odd a.a__law_odd a.fd__law_odd
  d__law_odd : Binds K a.fd__law_odd ["pot"] []
  g__law_bent : mg "_law_bent" = some (.ref a.a__law_bent)
  k__law_bent : PySem.W.keepIn K (.ref a.a__law_bent) = true
  t__law_bent : Fun K "_law_bent" "_law_bent" s__law_bent a.a__law_bent a.fd__law_bent
  d__law_bent : Binds K a.fd__law_bent ["pot", "value"] []
  g__law_near : mg "_law_near" = some (.ref a.a__law_near)
  k__law_near : PySem.W.keepIn K (.ref a.a__law_near) = true
  t__law_near : Fun K "_law_near" "_law_near" s__law_near a.a__law_near a.fd__law_near
  d__law_near : Binds K a.fd__law_near ["rule"] []
  g__law_refused : mg "_law_refused" = some (.ref a.a__law_refused)
  k__law_refused : PySem.W.keepIn K (.ref a.a__law_refused) = true
  t__law_refused : Fun K "_law_refused" "_law_refused" s__law_refused a.a__law_refused a.fd__law_refused
  d__law_refused : Binds K a.fd__law_refused ["value"] []
  g__law_right : mg "_law_right" = some (.ref a.a__law_right)
  k__law_right : PySem.W.keepIn K (.ref a.a__law_right) = true
  t__law_right : Fun K "_law_right" "_law_right" s__law_right a.a__law_right a.fd__law_right
  d__law_right : Binds K a.fd__law_right ["value"] []
  g_law : mg "law" = some (.ref a.a_law)
  k_law : PySem.W.keepIn K (.ref a.a_law) = true
  t_law : Fun K "law" "law" s_law a.a_law a.fd_law
  d_law : Binds K a.fd_law ["script"] []
  g_FetchError : mg "FetchError" = some (.ref a.cl_FetchError)
  k_FetchError : PySem.W.keepIn K (.ref a.cl_FetchError) = true
  u_FetchError : PySem.W.subIn K (.ref a.cl_FetchError) (.type "BaseException") = some true
  y_FetchError : PySem.W.typeIn K (.ref a.cl_FetchError) = some (.type "type")
  x_FetchError : PySem.W.excIn K a.cl_FetchError [.type "ValueError", .type "Exception", .type "BaseException", .type "object"] "ValueError.__new__" = true
  m_FetchError : ∀ k, k < 2 → PySem.W.exmOne K (.ref (a.cl k)) (.ref a.cl_FetchError) = some (isC_FetchError k)
  g_InvalidRule : mg "InvalidRule" = some (.ref a.cl_InvalidRule)
  k_InvalidRule : PySem.W.keepIn K (.ref a.cl_InvalidRule) = true
  u_InvalidRule : PySem.W.subIn K (.ref a.cl_InvalidRule) (.type "BaseException") = some true
  y_InvalidRule : PySem.W.typeIn K (.ref a.cl_InvalidRule) = some (.type "type")
  x_InvalidRule : PySem.W.excIn K a.cl_InvalidRule [.type "ValueError", .type "Exception", .type "BaseException", .type "object"] "ValueError.__new__" = true
  m_InvalidRule : ∀ k, k < 2 → PySem.W.exmOne K (.ref (a.cl k)) (.ref a.cl_InvalidRule) = some (isC_InvalidRule k)
  e_MOST_EVENTS : ∀ {X : Cx} {pos : Pos}, X.K = K → X.mg = mg → Gl X "MOST_EVENTS" → SimE a.cl X (.Name "MOST_EVENTS" pos) (mK c_MOST_EVENTS)
  e_PART_NAMES : ∀ {X : Cx} {pos : Pos}, X.K = K → X.mg = mg → Gl X "PART_NAMES" → SimE a.cl X (.Name "PART_NAMES" pos) (mK c_PART_NAMES)
  e_VALUES : ∀ {X : Cx} {pos : Pos}, X.K = K → X.mg = mg → Gl X "VALUES" → SimE a.cl X (.Name "VALUES" pos) (mK c_VALUES)
  e_WORDS : ∀ {X : Cx} {pos : Pos}, X.K = K → X.mg = mg → Gl X "WORDS" → SimE a.cl X (.Name "WORDS" pos) (mK c_WORDS)
  b_all : mg "all" = none
  b_any : mg "any" = none
  b_bool : mg "bool" = none
  b_enumerate : mg "enumerate" = none
  b_int : mg "int" = none
  b_isinstance : mg "isinstance" = none
  b_len : mg "len" = none
  b_list : mg "list" = none
  b_range : mg "range" = none
  b_sorted : mg "sorted" = none
  b_str : mg "str" = none
  b_tuple : mg "tuple" = none
  b_zip : mg "zip" = none
variable {P : Program} {w : World} {K : PySem.W.Frag} {mg : Str → Option Value} {base : Heap} {a : Ad}
theorem ok_is_same (T : Txt K mg a) : FnOk P w K mg base (L2.CX P w) 1 a.a_is_same a.fd_is_same p_is_same (FSp ⟨P, w, K, a.cl⟩ f_is_same) := by
  refine fn_ok (k := 0) a.cl T.t_is_same sc_is_same rfl rfl (by decide) fun cdv A outer s H E hr => ?_
  have hu := hu_room hr
  exact (sim_seq (sim_ifS (sim_tW (sim_tOrC (sim_tV (e_isBool ⟨by rfl, T.b_isinstance⟩ ⟨by rfl, T.b_bool⟩ (e_P 0 rfl (Or.inl rfl) nm_one)) (fun _ => rfl)) (sim_tOr1 (sim_tV (e_isBool ⟨by rfl, T.b_isinstance⟩ ⟨by rfl, T.b_bool⟩ (e_P 1 rfl (Or.inl rfl) nm_other)) (fun _ => rfl))))) (sim_one (sim_ret (sim_and (e_isBool ⟨by rfl, T.b_isinstance⟩ ⟨by rfl, T.b_bool⟩ (e_P 0 rfl (Or.inl rfl) nm_one)) (sim_and (e_isBool ⟨by rfl, T.b_isinstance⟩ ⟨by rfl, T.b_bool⟩ (e_P 1 rfl (Or.inl rfl) nm_other)) (sim_and1 ((sim_eq hu (e_P 0 rfl (Or.inl rfl) nm_one) (e_P 1 rfl (Or.inl rfl) nm_other))).e))))) sim_pnil)
  (sim_one (sim_ret (sim_and (e_isStr ⟨by rfl, T.b_isinstance⟩ ⟨by rfl, T.b_str⟩ (e_P 0 rfl (Or.inl rfl) nm_one)) (sim_and (e_isStr ⟨by rfl, T.b_isinstance⟩ ⟨by rfl, T.b_str⟩ (e_P 1 rfl (Or.inl rfl) nm_other)) (sim_and1 ((sim_eq hu (e_P 0 rfl (Or.inl rfl) nm_one) (e_P 1 rfl (Or.inl rfl) nm_other))).e))))))
theorem ok_is_rule (T : Txt K mg a) : FnOk P w K mg base (L2.CX P w) 2 a.a_is_rule a.fd_is_rule p_is_rule (FSp ⟨P, w, K, a.cl⟩ f_is_rule) := by
  refine fn_ok (k := 1) a.cl T.t_is_rule sc_is_rule rfl rfl (by decide) fun cdv A outer s H E hr => ?_
  have hu := hu_room hr
  exact (sim_seq (sim_ifS (sim_tW (sim_tOrC (sim_tNot (sim_tV (e_isTup ⟨by rfl, T.b_isinstance⟩ ⟨by rfl, T.b_tuple⟩ (e_P 0 rfl (Or.inl rfl) nm_value)) (fun _ => rfl))) (sim_tOr1 ((sim_ne hu (e_len ⟨by rfl, T.b_len⟩ (e_P 0 rfl (Or.inl rfl) nm_value)) (e_len ⟨by rfl, T.b_len⟩ (T.e_PART_NAMES rfl rfl (by rfl))))).t))) (sim_one (sim_ret (sim_cst (by kernel_rfl)))) sim_pnil)
  (sim_one (sim_ret (e_all ⟨by rfl, T.b_all⟩ rfl (sim_comp (own := [("one", 1), ("some", 2)]) rfl sc_is_rule.nd (i_zip ⟨by rfl, T.b_zip⟩ (e_V 0 rfl (Or.inl rfl) nm_value) (T.e_VALUES rfl rfl (by rfl))) (blkOk_by (by kernel_rfl)) rfl (tg_tup 2 rfl (fun _ _ _ _ _ => pg_tup rfl (pgs_one sc_is_rule.nd rfl (Or.inr rfl) (Or.inl rfl) (pgs_one sc_is_rule.nd rfl (Or.inl rfl) (Or.inr rfl) pgs_nil rfl) rfl) rfl rfl)) (fun _ _ _ _ _ => simTs_nil) (fun _ _ _ _ _ => (e_any ⟨by rfl, T.b_any⟩ rfl (sim_comp (own := [("other", 3)]) rfl sc_is_rule.nd (sim_items (e_V 2 rfl (Or.inl rfl) nm_some)) (blkOk_by (by kernel_rfl)) rfl (tg_one (fun _ _ _ _ _ => pg_name sc_is_rule.nd rfl (Or.inl rfl) (Or.inr rfl))) (fun _ _ _ _ _ => simTs_nil) (fun _ _ _ _ _ => (e_call (ok_is_same T) (hr.mono (by decide)) T.g_is_same T.k_is_same T.d_is_same nm_is_same (a_c (e_V 1 rfl (Or.inr (Or.inl rfl)) nm_one) (a_c (e_V 3 rfl (Or.inl rfl) nm_other) a_n)) (by rfl))) (fun _ => rfl)))) (fun _ => rfl))))))
theorem ok_is_number (T : Txt K mg a) : FnOk P w K mg base (L2.CX P w) 1 a.a_is_number a.fd_is_number p_is_number (FSp ⟨P, w, K, a.cl⟩ f_is_number) := by
  refine fn_ok (k := 0) a.cl T.t_is_number sc_is_number rfl rfl (by decide) fun cdv A outer s H E hr => ?_
  have hu := hu_room hr
  exact (sim_one (sim_ret (sim_and (e_isInt ⟨by rfl, T.b_isinstance⟩ ⟨by rfl, T.b_int⟩ (e_P 0 rfl (Or.inl rfl) nm_value)) (sim_and (sim_not (e_isBool ⟨by rfl, T.b_isinstance⟩ ⟨by rfl, T.b_bool⟩ (e_P 0 rfl (Or.inl rfl) nm_value))) (sim_and1 (sim_lele (sim_cst (by kernel_rfl)) (e_P 0 rfl (Or.inl rfl) nm_value) (e_P 1 rfl (Or.inl rfl) nm_high)))))))
theorem ok_is_word (T : Txt K mg a) : FnOk P w K mg base (L2.CX P w) 1 a.a_is_word a.fd_is_word p_is_word (FSp ⟨P, w, K, a.cl⟩ f_is_word) := by
  refine fn_ok (k := 0) a.cl T.t_is_word sc_is_word rfl rfl (by decide) fun cdv A outer s H E hr => ?_
  have hu := hu_room hr
  exact (sim_one (sim_ret (sim_and (e_isStr ⟨by rfl, T.b_isinstance⟩ ⟨by rfl, T.b_str⟩ (e_P 0 rfl (Or.inl rfl) nm_value)) (sim_and1 ((sim_in hu rfl (e_P 0 rfl (Or.inl rfl) nm_value) (T.e_WORDS rfl rfl (by rfl)))).e))))
theorem ok_is_event (T : Txt K mg a) : FnOk P w K mg base (L2.CX P w) 2 a.a_is_event a.fd_is_event p_is_event (FSp ⟨P, w, K, a.cl⟩ f_is_event) := by
  refine fn_ok (k := 1) a.cl T.t_is_event sc_is_event rfl rfl (by decide) fun cdv A outer s H E hr => ?_
  have hu := hu_room hr
  exact (sim_seq (sim_ifS (sim_tW (sim_tOrC (sim_tNot (sim_tV (e_isTup ⟨by rfl, T.b_isinstance⟩ ⟨by rfl, T.b_tuple⟩ (e_P 0 rfl (Or.inl rfl) nm_value)) (fun _ => rfl))) (sim_tOrC ((sim_eq hu (e_P 0 rfl (Or.inl rfl) nm_value) (sim_cst (by kernel_rfl)))).t (sim_tOr1 (sim_tNot (sim_tV (e_isStr ⟨by rfl, T.b_isinstance⟩ ⟨by rfl, T.b_str⟩ (sim_ix hu (e_P 0 rfl (Or.inl rfl) nm_value) (sim_cst (by kernel_rfl)) (fun _ _ => rfl))) (fun _ => rfl))))))) (sim_one (sim_ret (sim_cst (by kernel_rfl)))) sim_pnil)
  (sim_seq (sim_ifS ((sim_eq hu (sim_ix hu (e_P 0 rfl (Or.inl rfl) nm_value) (sim_cst (by kernel_rfl)) (fun _ _ => rfl)) (sim_cst (by kernel_rfl)))).t (sim_one (sim_ret ((sim_eq hu (e_len ⟨by rfl, T.b_len⟩ (e_P 0 rfl (Or.inl rfl) nm_value)) (sim_cst (by kernel_rfl)))).e)) sim_pnil)
  (sim_seq (sim_ifS ((sim_eq hu (sim_ix hu (e_P 0 rfl (Or.inl rfl) nm_value) (sim_cst (by kernel_rfl)) (fun _ _ => rfl)) (sim_cst (by kernel_rfl)))).t (sim_one (sim_ret (sim_and ((sim_eq hu (e_len ⟨by rfl, T.b_len⟩ (e_P 0 rfl (Or.inl rfl) nm_value)) (sim_cst (by kernel_rfl)))).e (sim_and (e_call (ok_is_number T) (hr.mono (by decide)) T.g_is_number T.k_is_number T.d_is_number nm_is_number (a_c (sim_ix hu (e_P 0 rfl (Or.inl rfl) nm_value) (sim_cst (by kernel_rfl)) (fun _ _ => rfl)) (a_c (sim_cst (by kernel_rfl)) a_n)) (by rfl)) (sim_and1 (e_call (ok_is_word T) (hr.mono (by decide)) T.g_is_word T.k_is_word T.d_is_word nm_is_word (a_c (sim_ix hu (e_P 0 rfl (Or.inl rfl) nm_value) (sim_cst (by kernel_rfl)) (fun _ _ => rfl)) a_n) (by rfl))))))) sim_pnil)
  (sim_seq (sim_ifS ((sim_eq hu (sim_ix hu (e_P 0 rfl (Or.inl rfl) nm_value) (sim_cst (by kernel_rfl)) (fun _ _ => rfl)) (sim_cst (by kernel_rfl)))).t (sim_one (sim_ret (sim_and ((sim_eq hu (e_len ⟨by rfl, T.b_len⟩ (e_P 0 rfl (Or.inl rfl) nm_value)) (sim_cst (by kernel_rfl)))).e (sim_and1 (e_call (ok_is_number T) (hr.mono (by decide)) T.g_is_number T.k_is_number T.d_is_number nm_is_number (a_c (sim_ix hu (e_P 0 rfl (Or.inl rfl) nm_value) (sim_cst (by kernel_rfl)) (fun _ _ => rfl)) (a_c (sim_cst (by kernel_rfl)) a_n)) (by rfl)))))) sim_pnil)
  (sim_one (sim_ret (sim_and ((sim_in hu rfl (sim_ix hu (e_P 0 rfl (Or.inl rfl) nm_value) (sim_cst (by kernel_rfl)) (fun _ _ => rfl)) (sim_cst (by kernel_rfl)))).e (sim_and ((sim_eq hu (e_len ⟨by rfl, T.b_len⟩ (e_P 0 rfl (Or.inl rfl) nm_value)) (sim_cst (by kernel_rfl)))).e (sim_and1 (e_call (ok_is_number T) (hr.mono (by decide)) T.g_is_number T.k_is_number T.d_is_number nm_is_number (a_c (sim_ix hu (e_P 0 rfl (Or.inl rfl) nm_value) (sim_cst (by kernel_rfl)) (fun _ _ => rfl)) (a_c (sim_cst (by kernel_rfl)) a_n)) (by rfl)))))))))))
theorem ok_are_events (T : Txt K mg a) : FnOk P w K mg base (L2.CX P w) 3 a.a_are_events a.fd_are_events p_are_events (FSp ⟨P, w, K, a.cl⟩ f_are_events) := by
  refine fn_ok (k := 2) a.cl T.t_are_events sc_are_events rfl rfl (by decide) fun cdv A outer s H E hr => ?_
  have hu := hu_room hr
  exact (sim_one (sim_ret (sim_and (e_isTup ⟨by rfl, T.b_isinstance⟩ ⟨by rfl, T.b_tuple⟩ (e_P 0 rfl (Or.inl rfl) nm_value)) (sim_and ((sim_le (e_len ⟨by rfl, T.b_len⟩ (e_P 0 rfl (Or.inl rfl) nm_value)) (T.e_MOST_EVENTS rfl rfl (by rfl)))).e (sim_and1 (e_all ⟨by rfl, T.b_all⟩ rfl (sim_comp (own := [("event", 1)]) rfl sc_are_events.nd (sim_items (e_V 0 rfl (Or.inl rfl) nm_value)) (blkOk_by (by kernel_rfl)) rfl (tg_one (fun _ _ _ _ _ => pg_name sc_are_events.nd rfl (Or.inl rfl) (Or.inr rfl))) (fun _ _ _ _ _ => simTs_nil) (fun _ _ _ _ _ => (e_call (ok_is_event T) (hr.mono (by decide)) T.g_is_event T.k_is_event T.d_is_event nm_is_event (a_c (e_V 1 rfl (Or.inl rfl) nm_event) a_n) (by rfl))) (fun _ => rfl))))))))
theorem ok_need_rule (T : Txt K mg a) : FnOk P w K mg base (L2.CX P w) 3 a.a_need_rule a.fd_need_rule p_need_rule (FSp ⟨P, w, K, a.cl⟩ f_need_rule) := by
  refine fn_ok (k := 2) a.cl T.t_need_rule sc_need_rule rfl rfl (by decide) fun cdv A outer s H E hr => ?_
  have hu := hu_room hr
  exact (sim_one (sim_ifS (sim_tNot (sim_tV (e_call (ok_is_rule T) (hr.mono (by decide)) T.g_is_rule T.k_is_rule T.d_is_rule nm_is_rule (a_c (e_P 0 rfl (Or.inl rfl) nm_rule) a_n) (by rfl)) (fun _ => rfl))) (sim_one (sim_raise rfl (pmk_own PySem.F.excBase_ValueError T.x_InvalidRule T.g_InvalidRule T.k_InvalidRule (raises_own T.u_InvalidRule T.y_InvalidRule) (by rfl) nm_InvalidRule.d))) sim_pnil))
theorem ok_rules_near (T : Txt K mg a) : FnOk P w K mg base (L2.CX P w) 2 a.a_rules_near a.fd_rules_near p_rules_near (FSp ⟨P, w, K, a.cl⟩ f_rules_near) := by
  refine fn_ok (k := 1) a.cl T.t_rules_near sc_rules_near rfl rfl (by decide) fun cdv A outer s H E hr => ?_
  have hu := hu_room hr
  exact (sim_seq (sim_set sc_rules_near.nd rfl (Or.inl rfl) (sim_lst (sim_cstL (by kernel_rfl))) rfl (Or.inl rfl))
  (sim_seq (sim_for (passes_of rfl) rfl (i_enum ⟨by rfl, T.b_enumerate⟩ (T.e_VALUES rfl rfl (by rfl))) (simG_tup rfl (pgs_one sc_rules_near.nd rfl (Or.inr rfl) (Or.inl rfl) (pgs_one sc_rules_near.nd rfl (Or.inl rfl) (Or.inl rfl) pgs_nil rfl) rfl) rfl rfl rfl rfl) (sim_one (sim_set sc_rules_near.nd rfl (Or.inl rfl) (sim_add (e_P 1 rfl (Or.inl rfl) nm_found) (sim_comp (own := [("value", 4)]) rfl sc_rules_near.nd (sim_items (e_V 3 rfl (Or.inl rfl) nm_some)) (blkOk_by (by kernel_rfl)) rfl (tg_one (fun _ _ _ _ _ => pg_name sc_rules_near.nd rfl (Or.inl rfl) (Or.inr rfl))) (fun _ _ _ _ _ => (simTs_one (sim_tNot (sim_tV (e_call (ok_is_same T) (hr.mono (by decide)) T.g_is_same T.k_is_same T.d_is_same nm_is_same (a_c (e_V 4 rfl (Or.inl rfl) nm_value) (a_c (sim_ix hu (e_P 0 rfl (Or.inr (Or.inl rfl)) nm_rule) (e_P 2 rfl (Or.inr (Or.inl rfl)) nm_at) (fun _ _ => rfl)) a_n)) (by rfl)) (fun _ => rfl))))) (fun _ _ _ _ _ => (sim_add (sim_add (sim_sl (e_P 0 rfl (Or.inr (Or.inl rfl)) nm_rule) .none (.some (e_P 2 rfl (Or.inr (Or.inl rfl)) nm_at))) (sim_tup (a_c (e_V 4 rfl (Or.inl rfl) nm_value) a_n))) (sim_sl (e_P 0 rfl (Or.inr (Or.inl rfl)) nm_rule) (.some (sim_add (e_P 2 rfl (Or.inr (Or.inl rfl)) nm_at) (sim_cst (by kernel_rfl)))) .none))) (fun _ => rfl))) rfl (Or.inl rfl))) (fun _ => rfl))
  (sim_one (sim_ret (e_sorted ⟨by rfl, T.b_sorted⟩ hu (e_P 1 rfl (Or.inl rfl) nm_found))))))
theorem ok_is_row (T : Txt K mg a) : FnOk P w K mg base (L2.CX P w) 4 a.a_is_row a.fd_is_row p_is_row (FSp ⟨P, w, K, a.cl⟩ f_is_row) := by
  refine fn_ok (k := 3) a.cl T.t_is_row sc_is_row rfl rfl (by decide) fun cdv A outer s H E hr => ?_
  have hu := hu_room hr
  exact (sim_one (sim_ret (e_call (ok_are_events T) (hr.mono (by decide)) T.g_are_events T.k_are_events T.d_are_events nm_are_events (a_c (e_P 0 rfl (Or.inl rfl) nm_value) a_n) (by rfl))))
theorem ok_near (T : Txt K mg a) : FnOk P w K mg base (L2.CX P w) 4 a.a_near a.fd_near p_near (FSp ⟨P, w, K, a.cl⟩ f_near) := by
  refine fn_ok (k := 3) a.cl T.t_near sc_near rfl rfl (by decide) fun cdv A outer s H E hr => ?_
  have hu := hu_room hr
  exact (sim_seq (sim_drop (e_call (ok_need_rule T) (hr.mono (by decide)) T.g_need_rule T.k_need_rule T.d_need_rule nm_need_rule (a_c (e_P 0 rfl (Or.inl rfl) nm_rule) a_n) (by rfl)) rfl)
  (sim_one (sim_ret (e_call (ok_rules_near T) (hr.mono (by decide)) T.g_rules_near T.k_rules_near T.d_rules_near nm_rules_near (a_c (e_P 0 rfl (Or.inl rfl) nm_rule) a_n) (by rfl)))))
theorem ok__law_pot (T : Txt K mg a) : FnOk P w K mg base (L2.CX P w) 1 a.a__law_pot a.fd__law_pot p__law_pot (FSp ⟨P, w, K, a.cl⟩ f__law_pot) := by
  refine fn_ok (k := 0) a.cl T.t__law_pot sc__law_pot rfl rfl (by decide) fun cdv A outer s H E hr => ?_
  have hu := hu_room hr
  exact (sim_seq (sim_set sc__law_pot.nd rfl (Or.inl rfl) (sim_if ((sim_ge (e_P 0 rfl (Or.inl rfl) nm_cell) (sim_pow (sim_cst (by kernel_rfl)) (sim_cst (by kernel_rfl))))).t (sim_add (sim_fdiv (e_P 0 rfl (Or.inl rfl) nm_cell) (sim_cst (by kernel_rfl))) (e_P 1 rfl (Or.inl rfl) nm_salt)) (sim_cst (by kernel_rfl))) rfl (Or.inl rfl))
  (sim_one (sim_ret (sim_lst (a_c (e_V 2 rfl (Or.inl rfl) nm_great) (a_c (sim_add (sim_mod (e_int ⟨by rfl, T.b_int⟩ (sim_add (sim_mul (e_P 0 rfl (Or.inl rfl) nm_cell) (sim_cst (by kernel_rfl))) (sim_mul (sim_cst (by kernel_rfl)) (e_P 1 rfl (Or.inl rfl) nm_salt)))) (sim_cst (by kernel_rfl))) (sim_cst (by kernel_rfl))) a_n))))))
theorem ok__law_lot (T : Txt K mg a) : FnOk P w K mg base (L2.CX P w) 1 a.a__law_lot a.fd__law_lot p__law_lot (FSp ⟨P, w, K, a.cl⟩ f__law_lot) := by
  refine fn_ok (k := 0) a.cl T.t__law_lot sc__law_lot rfl rfl (by decide) fun cdv A outer s H E hr => ?_
  have hu := hu_room hr
  exact (sim_seq (sim_ifS ((sim_gt (sim_ix hu (e_P 0 rfl (Or.inl rfl) nm_pot) (sim_cst (by kernel_rfl)) (fun _ _ => rfl)) (sim_cst (by kernel_rfl)))).t (sim_seq (sim_set sc__law_lot.nd rfl (Or.inl rfl) (sim_mod (e_int ⟨by rfl, T.b_int⟩ (sim_ix hu (e_P 0 rfl (Or.inl rfl) nm_pot) (sim_cst (by kernel_rfl)) (fun _ _ => rfl))) (e_P 1 rfl (Or.inl rfl) nm_many)) rfl (Or.inl rfl))
  (sim_seq (sim_ixset hu rfl (Or.inl rfl) nm_pot.d nm_pot.c (sim_fdiv (sim_ix hu (e_P 0 rfl (Or.inl rfl) nm_pot) (sim_cst (by kernel_rfl)) (fun _ _ => rfl)) (e_P 1 rfl (Or.inl rfl) nm_many)) (sim_cst (by kernel_rfl)) rfl rfl rfl (fun _ => rfl))
  (sim_one (sim_ret (e_M 2 rfl (Or.inl rfl) nm_found))))) sim_pnil)
  (sim_seq (sim_ixset hu rfl (Or.inl rfl) nm_pot.d nm_pot.c (sim_mod (e_int ⟨by rfl, T.b_int⟩ (sim_add (sim_mul (sim_ix hu (e_P 0 rfl (Or.inl rfl) nm_pot) (sim_cst (by kernel_rfl)) (fun _ _ => rfl)) (sim_cst (by kernel_rfl))) (sim_cst (by kernel_rfl)))) (sim_cst (by kernel_rfl))) (sim_cst (by kernel_rfl)) rfl rfl rfl (fun _ => rfl))
  (sim_seq (sim_set sc__law_lot.nd rfl (Or.inl rfl) (sim_mod (e_int ⟨by rfl, T.b_int⟩ (sim_mul (sim_ix hu (e_P 0 rfl (Or.inl rfl) nm_pot) (sim_cst (by kernel_rfl)) (fun _ _ => rfl)) (sim_add (sim_ix hu (e_P 0 rfl (Or.inl rfl) nm_pot) (sim_cst (by kernel_rfl)) (fun _ _ => rfl)) (sim_cst (by kernel_rfl))))) (sim_cst (by kernel_rfl))) rfl (Or.inl rfl))
  (sim_one (sim_ret (sim_mod (e_int ⟨by rfl, T.b_int⟩ (sim_fdiv (e_P 3 rfl (Or.inl rfl) nm_deep) (sim_cst (by kernel_rfl)))) (e_P 1 rfl (Or.inl rfl) nm_many)))))))
theorem ok__law_pick (T : Txt K mg a) : FnOk P w K mg base (L2.CX P w) 2 a.a__law_pick a.fd__law_pick p__law_pick (FSp ⟨P, w, K, a.cl⟩ f__law_pick) := by
  refine fn_ok (k := 1) a.cl T.t__law_pick sc__law_pick rfl rfl (by decide) fun cdv A outer s H E hr => ?_
  have hu := hu_room hr
  exact (sim_one (sim_ret (sim_ix hu (e_P 1 rfl (Or.inl rfl) nm_things) (e_call (ok__law_lot T) (hr.mono (by decide)) T.g__law_lot T.k__law_lot T.d__law_lot nm__law_lot (a_c (e_P 0 rfl (Or.inl rfl) nm_pot) (a_c (e_len ⟨by rfl, T.b_len⟩ (e_P 1 rfl (Or.inl rfl) nm_things)) a_n)) (by rfl)) (fun _ _ => rfl))))
theorem ok__law_values (T : Txt K mg a) : FnOk P w K mg base (L2.CX P w) 1 a.a__law_values a.fd__law_values p__law_values (FSp ⟨P, w, K, a.cl⟩ f__law_values) := by
  refine fn_ok (k := 0) a.cl T.t__law_values sc__law_values rfl rfl (by decide) fun cdv A outer s H E hr => ?_
  have hu := hu_room hr
  exact (sim_seq (sim_set sc__law_values.nd rfl (Or.inl rfl) (sim_lst (a_c (sim_lst (sim_cstL (by kernel_rfl))) (a_c (sim_lst (sim_cstL (by kernel_rfl))) (a_c (sim_lst (sim_cstL (by kernel_rfl))) (a_c (sim_lst (sim_cstL (by kernel_rfl))) (a_c (sim_lst (sim_cstL (by kernel_rfl))) a_n)))))) rfl (Or.inl rfl))
  (sim_one (sim_ret (sim_add (e_P 0 rfl (Or.inl rfl) nm_found) (sim_lst (a_c (sim_lst (sim_cstL (by kernel_rfl))) (a_c (sim_lst (sim_cstL (by kernel_rfl))) a_n)))))))
theorem ok__law_rule (T : Txt K mg a) : FnOk P w K mg base (L2.CX P w) 3 a.a__law_rule a.fd__law_rule p__law_rule (FSp ⟨P, w, K, a.cl⟩ f__law_rule) := by
  refine fn_ok (k := 2) a.cl T.t__law_rule sc__law_rule rfl rfl (by decide) fun cdv A outer s H E hr => ?_
  have hu := hu_room hr
  exact (sim_one (sim_ret (e_tuple ⟨by rfl, T.b_tuple⟩ (sim_comp (own := [("some", 1)]) rfl sc__law_rule.nd (sim_items (e_call0 (ok__law_values T) (hr.mono (by decide)) T.g__law_values T.k__law_values T.d__law_values nm__law_values  (by rfl))) (blkOk_by (by kernel_rfl)) rfl (tg_one (fun _ _ _ _ _ => pg_name sc__law_rule.nd rfl (Or.inl rfl) (Or.inr rfl))) (fun _ _ _ _ _ => simTs_nil) (fun _ _ _ _ _ => (e_call (ok__law_pick T) (hr.mono (by decide)) T.g__law_pick T.k__law_pick T.d__law_pick nm__law_pick (a_c (e_P 0 rfl (Or.inr (Or.inl rfl)) nm_pot) (a_c (e_V 1 rfl (Or.inl rfl) nm_some) a_n)) (by rfl))) (fun _ => rfl)))))
theorem ok__law_words (T : Txt K mg a) : FnOk P w K mg base (L2.CX P w) 1 a.a__law_words a.fd__law_words p__law_words (FSp ⟨P, w, K, a.cl⟩ f__law_words) := by
  refine fn_ok (k := 0) a.cl T.t__law_words sc__law_words rfl rfl (by decide) fun cdv A outer s H E hr => ?_
  have hu := hu_room hr
  exact (sim_one (sim_ret (sim_lst (sim_cstL (by kernel_rfl)))))
theorem ok__law_event (T : Txt K mg a) : FnOk P w K mg base (L2.CX P w) 3 a.a__law_event a.fd__law_event p__law_event (FSp ⟨P, w, K, a.cl⟩ f__law_event) := by
  refine fn_ok (k := 2) a.cl T.t__law_event sc__law_event rfl rfl (by decide) fun cdv A outer s H E hr => ?_
  have hu := hu_room hr
  exact (sim_seq (sim_set sc__law_event.nd rfl (Or.inl rfl) (sim_lst (sim_cstL (by kernel_rfl))) rfl (Or.inl rfl))
  (sim_seq (sim_set sc__law_event.nd rfl (Or.inl rfl) (e_call (ok__law_pick T) (hr.mono (by decide)) T.g__law_pick T.k__law_pick T.d__law_pick nm__law_pick (a_c (e_P 0 rfl (Or.inl rfl) nm_pot) (a_c (e_V 1 rfl (Or.inl rfl) nm_some) a_n)) (by rfl)) rfl (Or.inl rfl))
  (sim_seq (sim_ifS ((sim_eq hu (e_P 2 rfl (Or.inl rfl) nm_word) (sim_cst (by kernel_rfl)))).t (sim_one (sim_ret (sim_tp (a_c (e_M 2 rfl (Or.inl rfl) nm_word) a_n)))) sim_pnil)
  (sim_seq (sim_ifS ((sim_eq hu (e_P 2 rfl (Or.inl rfl) nm_word) (sim_cst (by kernel_rfl)))).t (sim_one (sim_ret (sim_tp (a_c (e_M 2 rfl (Or.inl rfl) nm_word) (a_c (e_call (ok__law_pick T) (hr.mono (by decide)) T.g__law_pick T.k__law_pick T.d__law_pick nm__law_pick (a_c (e_P 0 rfl (Or.inl rfl) nm_pot) (a_c (sim_lst (sim_cstL (by kernel_rfl))) a_n)) (by rfl)) a_n))))) sim_pnil)
  (sim_seq (sim_set sc__law_event.nd rfl (Or.inl rfl) (e_call (ok__law_lot T) (hr.mono (by decide)) T.g__law_lot T.k__law_lot T.d__law_lot nm__law_lot (a_c (e_P 0 rfl (Or.inl rfl) nm_pot) (a_c (sim_cst (by kernel_rfl)) a_n)) (by rfl)) rfl (Or.inl rfl))
  (sim_one (sim_ret (sim_if ((sim_eq hu (e_P 2 rfl (Or.inl rfl) nm_word) (sim_cst (by kernel_rfl)))).t (sim_tp (a_c (e_M 2 rfl (Or.inl rfl) nm_word) (a_c (e_M 3 rfl (Or.inl rfl) nm_parent) (a_c (e_call (ok__law_pick T) (hr.mono (by decide)) T.g__law_pick T.k__law_pick T.d__law_pick nm__law_pick (a_c (e_P 0 rfl (Or.inl rfl) nm_pot) (a_c (sim_add (e_call0 (ok__law_words T) (hr.mono (by decide)) T.g__law_words T.k__law_words T.d__law_words nm__law_words  (by rfl)) (sim_lst (sim_cstL (by kernel_rfl)))) a_n)) (by rfl)) a_n)))) (sim_tp (a_c (e_M 2 rfl (Or.inl rfl) nm_word) (a_c (e_M 3 rfl (Or.inl rfl) nm_parent) a_n)))))))))))
theorem ok__law_row (T : Txt K mg a) : FnOk P w K mg base (L2.CX P w) 4 a.a__law_row a.fd__law_row p__law_row (FSp ⟨P, w, K, a.cl⟩ f__law_row) := by
  refine fn_ok (k := 3) a.cl T.t__law_row sc__law_row rfl rfl (by decide) fun cdv A outer s H E hr => ?_
  have hu := hu_room hr
  exact (sim_one (sim_ret (e_tuple ⟨by rfl, T.b_tuple⟩ (sim_comp (own := [("turn", 2)]) rfl sc__law_row.nd (i_range ⟨by rfl, T.b_range⟩ (e_call (ok__law_lot T) (hr.mono (by decide)) T.g__law_lot T.k__law_lot T.d__law_lot nm__law_lot (a_c (e_P 0 rfl (Or.inr (Or.inl rfl)) nm_pot) (a_c (sim_add (e_P 1 rfl (Or.inl rfl) nm_most) (sim_cst (by kernel_rfl))) a_n)) (by rfl))) (blkOk_by (by kernel_rfl)) rfl (tg_one (fun _ _ _ _ _ => pg_name sc__law_row.nd rfl (Or.inl rfl) (Or.inr rfl))) (fun _ _ _ _ _ => simTs_nil) (fun _ _ _ _ _ => (e_call (ok__law_event T) (hr.mono (by decide)) T.g__law_event T.k__law_event T.d__law_event nm__law_event (a_c (e_P 0 rfl (Or.inr (Or.inl rfl)) nm_pot) a_n) (by rfl))) (fun _ => rfl)))))
theorem ok__law_is_rule (T : Txt K mg a) : FnOk P w K mg base (L2.CX P w) 1 a.a__law_is_rule a.fd__law_is_rule p__law_is_rule (FSp ⟨P, w, K, a.cl⟩ f__law_is_rule) := by
  refine fn_ok (k := 0) a.cl T.t__law_is_rule sc__law_is_rule rfl rfl (by decide) fun cdv A outer s H E hr => ?_
  have hu := hu_room hr
  exact (sim_seq (sim_ifS (sim_tW (sim_tOrC (sim_tNot (sim_tV (e_isTup ⟨by rfl, T.b_isinstance⟩ ⟨by rfl, T.b_tuple⟩ (e_P 0 rfl (Or.inl rfl) nm_value)) (fun _ => rfl))) (sim_tOr1 ((sim_ne hu (e_len ⟨by rfl, T.b_len⟩ (e_P 0 rfl (Or.inl rfl) nm_value)) (sim_cst (by kernel_rfl)))).t))) (sim_one (sim_ret (sim_cst (by kernel_rfl)))) sim_pnil)
  (sim_seq (sim_set sc__law_is_rule.nd rfl (Or.inl rfl) (sim_lst (sim_cstL (by kernel_rfl))) rfl (Or.inl rfl))
  (sim_seq (sim_for (passes_of rfl) rfl (i_range ⟨by rfl, T.b_range⟩ (sim_cst (by kernel_rfl))) (simG_one sc__law_is_rule.nd rfl (Or.inl rfl) (Or.inl rfl)) (sim_one (sim_ifS (sim_tW (sim_tOrC (sim_tNot (sim_tV (e_isStr ⟨by rfl, T.b_isinstance⟩ ⟨by rfl, T.b_str⟩ (sim_ix hu (e_P 0 rfl (Or.inl rfl) nm_value) (e_P 2 rfl (Or.inl rfl) nm_at) (fun _ _ => rfl))) (fun _ => rfl))) (sim_tOr1 ((sim_nin hu rfl (sim_ix hu (e_P 0 rfl (Or.inl rfl) nm_value) (e_P 2 rfl (Or.inl rfl) nm_at) (fun _ _ => rfl)) (e_split (sim_ix hu (e_P 1 rfl (Or.inl rfl) nm_words) (e_P 2 rfl (Or.inl rfl) nm_at) (fun _ _ => rfl)) (sim_cst (by kernel_rfl))))).t))) (sim_one (sim_ret (sim_cst (by kernel_rfl)))) sim_pnil)) (fun _ => rfl))
  (sim_one (sim_ret (sim_and (e_isBool ⟨by rfl, T.b_isinstance⟩ ⟨by rfl, T.b_bool⟩ (sim_ix hu (e_P 0 rfl (Or.inl rfl) nm_value) (sim_cst (by kernel_rfl)) (fun _ _ => rfl))) (sim_and1 (e_isBool ⟨by rfl, T.b_isinstance⟩ ⟨by rfl, T.b_bool⟩ (sim_ix hu (e_P 0 rfl (Or.inl rfl) nm_value) (sim_cst (by kernel_rfl)) (fun _ _ => rfl))))))))))
theorem ok__law_is_event (T : Txt K mg a) : FnOk P w K mg base (L2.CX P w) 1 a.a__law_is_event a.fd__law_is_event p__law_is_event (FSp ⟨P, w, K, a.cl⟩ f__law_is_event) := by
  refine fn_ok (k := 0) a.cl T.t__law_is_event sc__law_is_event rfl rfl (by decide) fun cdv A outer s H E hr => ?_
  have hu := hu_room hr
  exact (sim_seq (sim_ifS (sim_tW (sim_tOrC (sim_tNot (sim_tV (e_isTup ⟨by rfl, T.b_isinstance⟩ ⟨by rfl, T.b_tuple⟩ (e_P 0 rfl (Or.inl rfl) nm_value)) (fun _ => rfl))) (sim_tOrC ((sim_eq hu (e_P 0 rfl (Or.inl rfl) nm_value) (sim_cst (by kernel_rfl)))).t (sim_tOr1 (sim_tNot (sim_tV (e_isStr ⟨by rfl, T.b_isinstance⟩ ⟨by rfl, T.b_str⟩ (sim_ix hu (e_P 0 rfl (Or.inl rfl) nm_value) (sim_cst (by kernel_rfl)) (fun _ _ => rfl))) (fun _ => rfl))))))) (sim_one (sim_ret (sim_cst (by kernel_rfl)))) sim_pnil)
  (sim_seq (sim_ifS ((sim_eq hu (sim_ix hu (e_P 0 rfl (Or.inl rfl) nm_value) (sim_cst (by kernel_rfl)) (fun _ _ => rfl)) (sim_cst (by kernel_rfl)))).t (sim_one (sim_ret ((sim_eq hu (e_len ⟨by rfl, T.b_len⟩ (e_P 0 rfl (Or.inl rfl) nm_value)) (sim_cst (by kernel_rfl)))).e)) sim_pnil)
  (sim_seq (sim_ifS (sim_tW (sim_tOrC ((sim_nin hu rfl (sim_ix hu (e_P 0 rfl (Or.inl rfl) nm_value) (sim_cst (by kernel_rfl)) (fun _ _ => rfl)) (sim_cst (by kernel_rfl)))).t (sim_tOr1 ((sim_ne hu (e_len ⟨by rfl, T.b_len⟩ (e_P 0 rfl (Or.inl rfl) nm_value)) (sim_if ((sim_eq hu (sim_ix hu (e_P 0 rfl (Or.inl rfl) nm_value) (sim_cst (by kernel_rfl)) (fun _ _ => rfl)) (sim_cst (by kernel_rfl)))).t (sim_cst (by kernel_rfl)) (sim_cst (by kernel_rfl))))).t))) (sim_one (sim_ret (sim_cst (by kernel_rfl)))) sim_pnil)
  (sim_seq (sim_ifS (sim_tW (sim_tOrC (sim_tV (e_isBool ⟨by rfl, T.b_isinstance⟩ ⟨by rfl, T.b_bool⟩ (sim_ix hu (e_P 0 rfl (Or.inl rfl) nm_value) (sim_cst (by kernel_rfl)) (fun _ _ => rfl))) (fun _ => rfl)) (sim_tOr1 (sim_tNot (sim_tV (e_isInt ⟨by rfl, T.b_isinstance⟩ ⟨by rfl, T.b_int⟩ (sim_ix hu (e_P 0 rfl (Or.inl rfl) nm_value) (sim_cst (by kernel_rfl)) (fun _ _ => rfl))) (fun _ => rfl)))))) (sim_one (sim_ret (sim_cst (by kernel_rfl)))) sim_pnil)
  (sim_seq (sim_ifS (sim_tNot (sim_leleT (sim_cst (by kernel_rfl)) (sim_ix hu (e_P 0 rfl (Or.inl rfl) nm_value) (sim_cst (by kernel_rfl)) (fun _ _ => rfl)) (sim_if ((sim_eq hu (sim_ix hu (e_P 0 rfl (Or.inl rfl) nm_value) (sim_cst (by kernel_rfl)) (fun _ _ => rfl)) (sim_cst (by kernel_rfl)))).t (sim_cst (by kernel_rfl)) (sim_cst (by kernel_rfl))))) (sim_one (sim_ret (sim_cst (by kernel_rfl)))) sim_pnil)
  (sim_one (sim_ret (sim_or ((sim_eq hu (e_len ⟨by rfl, T.b_len⟩ (e_P 0 rfl (Or.inl rfl) nm_value)) (sim_cst (by kernel_rfl)))).e (sim_and1 (sim_and (e_isStr ⟨by rfl, T.b_isinstance⟩ ⟨by rfl, T.b_str⟩ (sim_ix hu (e_P 0 rfl (Or.inl rfl) nm_value) (sim_cst (by kernel_rfl)) (fun _ _ => rfl))) (sim_and1 ((sim_in hu rfl (sim_ix hu (e_P 0 rfl (Or.inl rfl) nm_value) (sim_cst (by kernel_rfl)) (fun _ _ => rfl)) (sim_cst (by kernel_rfl)))).e)))))))))))
theorem ok__law_is_row (T : Txt K mg a) : FnOk P w K mg base (L2.CX P w) 2 a.a__law_is_row a.fd__law_is_row p__law_is_row (FSp ⟨P, w, K, a.cl⟩ f__law_is_row) := by
  refine fn_ok (k := 1) a.cl T.t__law_is_row sc__law_is_row rfl rfl (by decide) fun cdv A outer s H E hr => ?_
  have hu := hu_room hr
  exact (sim_seq (sim_ifS (sim_tW (sim_tOrC (sim_tNot (sim_tV (e_isTup ⟨by rfl, T.b_isinstance⟩ ⟨by rfl, T.b_tuple⟩ (e_P 0 rfl (Or.inl rfl) nm_value)) (fun _ => rfl))) (sim_tOr1 ((sim_gt (e_len ⟨by rfl, T.b_len⟩ (e_P 0 rfl (Or.inl rfl) nm_value)) (sim_cst (by kernel_rfl)))).t))) (sim_one (sim_ret (sim_cst (by kernel_rfl)))) sim_pnil)
  (sim_one (sim_ret ((sim_eq hu (sim_comp (own := [("event", 1)]) rfl sc__law_is_row.nd (sim_items (e_V 0 rfl (Or.inl rfl) nm_value)) (blkOk_by (by kernel_rfl)) rfl (tg_one (fun _ _ _ _ _ => pg_name sc__law_is_row.nd rfl (Or.inl rfl) (Or.inr rfl))) (fun _ _ _ _ _ => (simTs_one (sim_tNot (sim_tV (e_call (ok__law_is_event T) (hr.mono (by decide)) T.g__law_is_event T.k__law_is_event T.d__law_is_event nm__law_is_event (a_c (e_V 1 rfl (Or.inl rfl) nm_event) a_n) (by rfl)) (fun _ => rfl))))) (fun _ _ _ _ _ => (e_V 1 rfl (Or.inl rfl) nm_event)) (fun _ => rfl)) (sim_lst (sim_cstL (by kernel_rfl))))).e)))
theorem ok__law_odd (T : Txt K mg a) : FnOk P w K mg base (L2.CX P w) 3 a.a__law_odd a.fd__law_odd p__law_odd (FSp ⟨P, w, K, a.cl⟩ f__law_odd) := by
  refine fn_ok (k := 2) a.cl T.t__law_odd sc__law_odd rfl rfl (by decide) fun cdv A outer s H E hr => ?_
  have hu := hu_room hr
  exact (sim_seq (sim_set sc__law_odd.nd rfl (Or.inl rfl) (sim_lst (a_c (sim_cst (by kernel_rfl)) (a_c (sim_cst (by kernel_rfl)) (a_c (sim_cst (by kernel_rfl)) (a_c (sim_cst (by kernel_rfl)) (a_c (sim_cst (by kernel_rfl)) (a_c (sim_cst (by kernel_rfl)) (a_c (sim_cst (by kernel_rfl)) (a_c (sim_cst (by kernel_rfl)) (a_c (sim_pow (sim_cst (by kernel_rfl)) (sim_cst (by kernel_rfl))) (a_c (sim_cst (by kernel_rfl)) (a_c (sim_cst (by kernel_rfl)) (a_c (sim_cst (by kernel_rfl)) (a_c (sim_cst (by kernel_rfl)) (a_c (sim_cst (by kernel_rfl)) (a_c (sim_cst (by kernel_rfl)) (a_c (sim_cst (by kernel_rfl)) (a_c (sim_cst (by kernel_rfl)) a_n)))))))))))))))))) rfl (Or.inl rfl))
  (sim_seq (sim_set sc__law_odd.nd rfl (Or.inl rfl) (sim_add (e_P 1 rfl (Or.inl rfl) nm_some) (sim_lst (a_c (sim_cst (by kernel_rfl)) (a_c (sim_cst (by kernel_rfl)) (a_c (sim_lst (sim_cstL (by kernel_rfl))) (a_c (sim_cst (by kernel_rfl)) (a_c (sim_cst (by kernel_rfl)) (a_c (sim_cst (by kernel_rfl)) (a_c (sim_cst (by kernel_rfl)) (a_c (sim_cst (by kernel_rfl)) a_n)))))))))) rfl (Or.inl rfl))
  (sim_one (sim_ret (e_call (ok__law_pick T) (hr.mono (by decide)) T.g__law_pick T.k__law_pick T.d__law_pick nm__law_pick (a_c (e_P 0 rfl (Or.inl rfl) nm_pot) (a_c (e_V 1 rfl (Or.inl rfl) nm_some) a_n)) (by rfl))))))
theorem ok__law_bent (T : Txt K mg a) : ∀ n : Nat, FnOk P w K mg base (L2.CX P w) (4 + n) a.a__law_bent a.fd__law_bent p__law_bent (FSp ⟨P, w, K, a.cl⟩ (f__law_bent n))
  | 0 => fn_none
  | n + 1 => by
      have ih := ok__law_bent T n
      refine fn_ok (k := 4 + n) a.cl T.t__law_bent sc__law_bent rfl rfl (by decide) fun cdv A outer s H E hr => ?_
      have hu := hu_room hr
      exact (sim_seq (sim_ifS (sim_tW (sim_tOrC (sim_tNot (sim_tV (e_isTup ⟨by rfl, T.b_isinstance⟩ ⟨by rfl, T.b_tuple⟩ (e_P 1 rfl (Or.inl rfl) nm_value)) (fun _ => rfl))) (sim_tOrC ((sim_eq hu (e_P 1 rfl (Or.inl rfl) nm_value) (sim_cst (by kernel_rfl)))).t (sim_tOr1 ((sim_eq hu (e_call (ok__law_lot T) (hr.mono (by omega)) T.g__law_lot T.k__law_lot T.d__law_lot nm__law_lot (a_c (e_P 0 rfl (Or.inl rfl) nm_pot) (a_c (sim_cst (by kernel_rfl)) a_n)) (by rfl)) (sim_cst (by kernel_rfl)))).t)))) (sim_one (sim_ret (sim_if (sim_tV (e_isBool ⟨by rfl, T.b_isinstance⟩ ⟨by rfl, T.b_bool⟩ (e_P 1 rfl (Or.inl rfl) nm_value)) (fun _ => rfl)) (sim_not (e_P 1 rfl (Or.inl rfl) nm_value)) (e_call (ok__law_odd T) (hr.mono (by omega)) T.g__law_odd T.k__law_odd T.d__law_odd nm__law_odd (a_c (e_P 0 rfl (Or.inl rfl) nm_pot) a_n) (by rfl))))) sim_pnil)
  (sim_seq (sim_par rfl sc__law_bent.nd rfl rfl (by decide) rfl rfl (a_c (e_call (ok__law_lot T) (hr.mono (by omega)) T.g__law_lot T.k__law_lot T.d__law_lot nm__law_lot (a_c (e_P 0 rfl (Or.inl rfl) nm_pot) (a_c (e_len ⟨by rfl, T.b_len⟩ (e_P 1 rfl (Or.inl rfl) nm_value)) a_n)) (by rfl)) (a_c (e_call (ok__law_lot T) (hr.mono (by omega)) T.g__law_lot T.k__law_lot T.d__law_lot nm__law_lot (a_c (e_P 0 rfl (Or.inl rfl) nm_pot) (a_c (sim_cst (by kernel_rfl)) a_n)) (by rfl)) a_n)) rfl rfl)
  (sim_seq (sim_ifS ((sim_eq hu (e_P 3 rfl (Or.inl rfl) nm_way) (sim_cst (by kernel_rfl)))).t (sim_one (sim_ret (sim_add (sim_sl (e_P 1 rfl (Or.inl rfl) nm_value) .none (.some (e_P 2 rfl (Or.inl rfl) nm_at))) (sim_sl (e_P 1 rfl (Or.inl rfl) nm_value) (.some (sim_add (e_P 2 rfl (Or.inl rfl) nm_at) (sim_cst (by kernel_rfl)))) .none)))) sim_pnil)
  (sim_seq (sim_ifS ((sim_eq hu (e_P 3 rfl (Or.inl rfl) nm_way) (sim_cst (by kernel_rfl)))).t (sim_one (sim_ret (sim_add (sim_sl (e_P 1 rfl (Or.inl rfl) nm_value) .none (.some (sim_add (e_P 2 rfl (Or.inl rfl) nm_at) (sim_cst (by kernel_rfl))))) (sim_sl (e_P 1 rfl (Or.inl rfl) nm_value) (.some (e_P 2 rfl (Or.inl rfl) nm_at)) .none)))) sim_pnil)
  (sim_seq (sim_ifS ((sim_eq hu (e_P 3 rfl (Or.inl rfl) nm_way) (sim_cst (by kernel_rfl)))).t (sim_one (sim_ret (sim_add (sim_add (sim_sl (e_P 1 rfl (Or.inl rfl) nm_value) .none (.some (e_P 2 rfl (Or.inl rfl) nm_at))) (sim_tup (a_c (e_call (ok__law_odd T) (hr.mono (by omega)) T.g__law_odd T.k__law_odd T.d__law_odd nm__law_odd (a_c (e_P 0 rfl (Or.inl rfl) nm_pot) a_n) (by rfl)) a_n))) (sim_sl (e_P 1 rfl (Or.inl rfl) nm_value) (.some (e_P 2 rfl (Or.inl rfl) nm_at)) .none)))) sim_pnil)
  (sim_seq (sim_ifS ((sim_eq hu (e_P 3 rfl (Or.inl rfl) nm_way) (sim_cst (by kernel_rfl)))).t (sim_one (sim_ret (e_list ⟨by rfl, T.b_list⟩ (e_P 1 rfl (Or.inl rfl) nm_value)))) sim_pnil)
  (sim_one (sim_ret (sim_add (sim_add (sim_sl (e_P 1 rfl (Or.inl rfl) nm_value) .none (.some (e_P 2 rfl (Or.inl rfl) nm_at))) (sim_tup (a_c (e_call ih (hr.mono (by omega)) T.g__law_bent T.k__law_bent T.d__law_bent nm__law_bent (a_c (e_P 0 rfl (Or.inl rfl) nm_pot) (a_c (sim_ix hu (e_P 1 rfl (Or.inl rfl) nm_value) (e_P 2 rfl (Or.inl rfl) nm_at) (fun _ _ => rfl)) a_n)) (by rfl)) a_n))) (sim_sl (e_P 1 rfl (Or.inl rfl) nm_value) (.some (sim_add (e_P 2 rfl (Or.inl rfl) nm_at) (sim_cst (by kernel_rfl)))) .none))))))))))
theorem ok__law_near (T : Txt K mg a) : FnOk P w K mg base (L2.CX P w) 2 a.a__law_near a.fd__law_near p__law_near (FSp ⟨P, w, K, a.cl⟩ f__law_near) := by
  refine fn_ok (k := 1) a.cl T.t__law_near sc__law_near rfl rfl (by decide) fun cdv A outer s H E hr => ?_
  have hu := hu_room hr
  exact (sim_seq (sim_par rfl sc__law_near.nd rfl rfl (by decide) rfl rfl (a_c (sim_lst (sim_cstL (by kernel_rfl))) (a_c (e_call0 (ok__law_values T) (hr.mono (by decide)) T.g__law_values T.k__law_values T.d__law_values nm__law_values  (by rfl)) a_n)) rfl rfl)
  (sim_seq (sim_for (passes_of rfl) rfl (i_range ⟨by rfl, T.b_range⟩ (sim_cst (by kernel_rfl))) (simG_one sc__law_near.nd rfl (Or.inr rfl) (Or.inl rfl)) (sim_one (sim_set sc__law_near.nd rfl (Or.inl rfl) (sim_add (e_P 1 rfl (Or.inl rfl) nm_found) (sim_comp (own := [("one", 4)]) rfl sc__law_near.nd (sim_items (sim_ix hu (e_P 2 rfl (Or.inl rfl) nm_values) (e_P 3 rfl (Or.inr (Or.inl rfl)) nm_at) (fun _ _ => rfl))) (blkOk_by (by kernel_rfl)) rfl (tg_one (fun _ _ _ _ _ => pg_name sc__law_near.nd rfl (Or.inl rfl) (Or.inr rfl))) (fun _ _ _ _ _ => (simTs_one ((sim_ne hu (e_P 4 rfl (Or.inl rfl) nm_one) (sim_ix hu (e_P 0 rfl (Or.inr (Or.inl rfl)) nm_rule) (e_P 3 rfl (Or.inr (Or.inl rfl)) nm_at) (fun _ _ => rfl)))).t)) (fun _ _ _ _ _ => (sim_add (sim_add (sim_sl (e_P 0 rfl (Or.inr (Or.inl rfl)) nm_rule) .none (.some (e_P 3 rfl (Or.inr (Or.inl rfl)) nm_at))) (sim_tup (a_c (e_V 4 rfl (Or.inl rfl) nm_one) a_n))) (sim_sl (e_P 0 rfl (Or.inr (Or.inl rfl)) nm_rule) (.some (sim_add (e_P 3 rfl (Or.inr (Or.inl rfl)) nm_at) (sim_cst (by kernel_rfl)))) .none))) (fun _ => rfl))) rfl (Or.inl rfl))) (fun _ => rfl))
  (sim_one (sim_ret (e_sorted ⟨by rfl, T.b_sorted⟩ hu (e_P 1 rfl (Or.inl rfl) nm_found))))))
theorem ok__law_refused (T : Txt K mg a) : FnOk P w K mg base (L2.CX P w) 5 a.a__law_refused a.fd__law_refused p__law_refused (FSp ⟨P, w, K, a.cl⟩ f__law_refused) := by
  refine fn_ok (k := 4) a.cl T.t__law_refused sc__law_refused rfl rfl (by decide) fun cdv A outer s H E hr => ?_
  have hu := hu_room hr
  exact (sim_seq (sim_try rfl rfl (fun _ _ po => (sim_one (sim_drop (e_call (ok_near T) (hr.mono (by decide)) T.g_near T.k_near T.d_near nm_near (a_c (e_P 0 rfl (Or.inl rfl) nm_value) a_n) (by rfl)) rfl))) (.cons ⟨by rfl, nm_InvalidRule.d, .inl T.g_InvalidRule⟩ T.m_InvalidRule (fun _ _ => (sim_one (sim_ret (sim_cst (by kernel_rfl))))) (.cons ⟨by rfl, nm_FetchError.d, .inl T.g_FetchError⟩ T.m_FetchError (fun _ _ => (sim_one (sim_ret (sim_cst (by kernel_rfl))))) .nil)))
  (sim_one (sim_ret (sim_cst (by kernel_rfl)))))
theorem ok__law_right (T : Txt K mg a) : FnOk P w K mg base (L2.CX P w) 6 a.a__law_right a.fd__law_right p__law_right (FSp ⟨P, w, K, a.cl⟩ f__law_right) := by
  refine fn_ok (k := 5) a.cl T.t__law_right sc__law_right rfl rfl (by decide) fun cdv A outer s H E hr => ?_
  have hu := hu_room hr
  exact (sim_seq (sim_set sc__law_right.nd rfl (Or.inl rfl) (sim_lst (a_c (sim_tup (a_c (e_call (ok_is_rule T) (hr.mono (by decide)) T.g_is_rule T.k_is_rule T.d_is_rule nm_is_rule (a_c (e_P 0 rfl (Or.inl rfl) nm_value) a_n) (by rfl)) (a_c (e_call (ok__law_is_rule T) (hr.mono (by decide)) T.g__law_is_rule T.k__law_is_rule T.d__law_is_rule nm__law_is_rule (a_c (e_P 0 rfl (Or.inl rfl) nm_value) a_n) (by rfl)) a_n))) (a_c (sim_tup (a_c (e_call (ok_is_row T) (hr.mono (by decide)) T.g_is_row T.k_is_row T.d_is_row nm_is_row (a_c (e_P 0 rfl (Or.inl rfl) nm_value) a_n) (by rfl)) (a_c (e_call (ok__law_is_row T) (hr.mono (by decide)) T.g__law_is_row T.k__law_is_row T.d__law_is_row nm__law_is_row (a_c (e_P 0 rfl (Or.inl rfl) nm_value) a_n) (by rfl)) a_n))) a_n))) rfl (Or.inl rfl))
  (sim_seq (sim_ifS ((sim_ne hu (sim_comp (own := [("row", 2)]) rfl sc__law_right.nd (sim_items (e_V 1 rfl (Or.inl rfl) nm_rows)) (blkOk_by (by kernel_rfl)) rfl (tg_one (fun _ _ _ _ _ => pg_name sc__law_right.nd rfl (Or.inl rfl) (Or.inr rfl))) (fun _ _ _ _ _ => (simTs_one (sim_tW (sim_tOrC (sim_tNot (sim_tV (e_isBool ⟨by rfl, T.b_isinstance⟩ ⟨by rfl, T.b_bool⟩ (sim_ix hu (e_P 2 rfl (Or.inl rfl) nm_row) (sim_cst (by kernel_rfl)) (fun _ _ => rfl))) (fun _ => rfl))) (sim_tOr1 ((sim_ne hu (sim_ix hu (e_P 2 rfl (Or.inl rfl) nm_row) (sim_cst (by kernel_rfl)) (fun _ _ => rfl)) (sim_ix hu (e_P 2 rfl (Or.inl rfl) nm_row) (sim_cst (by kernel_rfl)) (fun _ _ => rfl)))).t))))) (fun _ _ _ _ _ => (e_V 2 rfl (Or.inl rfl) nm_row)) (fun _ => rfl)) (sim_lst (sim_cstL (by kernel_rfl))))).t (sim_one (sim_ret (sim_cst (by kernel_rfl)))) sim_pnil)
  (sim_one (sim_ret ((sim_ne hu (e_call (ok__law_refused T) (hr.mono (by decide)) T.g__law_refused T.k__law_refused T.d__law_refused nm__law_refused (a_c (e_P 0 rfl (Or.inl rfl) nm_value) a_n) (by rfl)) (e_call (ok__law_is_rule T) (hr.mono (by decide)) T.g__law_is_rule T.k__law_is_rule T.d__law_is_rule nm__law_is_rule (a_c (e_P 0 rfl (Or.inl rfl) nm_value) a_n) (by rfl)))).e))))
theorem ok_law (T : Txt K mg a) : FnOk P w K mg base (L2.CX P w) 17 a.a_law a.fd_law p_law (FSp ⟨P, w, K, a.cl⟩ f_law) := by
  refine fn_ok (k := 16) a.cl T.t_law sc_law rfl rfl (by decide) fun cdv A outer s H E hr => ?_
  have hu := hu_room hr
  exact (sim_seq (sim_for (passes_of rfl) rfl (sim_items (sim_sl (sim_add (sim_lst (sim_cstL (by kernel_rfl))) (e_P 0 rfl (Or.inl rfl) nm_script)) .none (.some (sim_cst (by kernel_rfl))))) (simG_one sc_law.nd rfl (Or.inl rfl) (Or.inl rfl)) (sim_seq (sim_set sc_law.nd rfl (Or.inl rfl) (e_call (ok__law_pot T) (hr.mono (by decide)) T.g__law_pot T.k__law_pot T.d__law_pot nm__law_pot (a_c (e_V 1 rfl (Or.inl rfl) nm_cell) (a_c (sim_cst (by kernel_rfl)) a_n)) (by rfl)) rfl (Or.inl rfl))
  (sim_seq (sim_set sc_law.nd rfl (Or.inr rfl) (e_call (ok__law_rule T) (hr.mono (by decide)) T.g__law_rule T.k__law_rule T.d__law_rule nm__law_rule (a_c (e_P 2 rfl (Or.inl rfl) nm_pot) a_n) (by rfl)) rfl (Or.inl rfl))
  (sim_seq (sim_set sc_law.nd rfl (Or.inl rfl) (e_call (ok_near T) (hr.mono (by decide)) T.g_near T.k_near T.d_near nm_near (a_c (e_V 3 rfl (Or.inr (Or.inl rfl)) nm_rule) a_n) (by rfl)) rfl (Or.inl rfl))
  (sim_seq (sim_ifS (sim_tW (sim_tOrC (sim_tNot (sim_tV (e_call (ok_is_rule T) (hr.mono (by decide)) T.g_is_rule T.k_is_rule T.d_is_rule nm_is_rule (a_c (e_V 3 rfl (Or.inr (Or.inl rfl)) nm_rule) a_n) (by rfl)) (fun _ => rfl))) (sim_tOrC ((sim_ne hu (e_P 4 rfl (Or.inl rfl) nm_found) (e_call (ok__law_near T) (hr.mono (by decide)) T.g__law_near T.k__law_near T.d__law_near nm__law_near (a_c (e_V 3 rfl (Or.inr (Or.inl rfl)) nm_rule) a_n) (by rfl)))).t (sim_tOrC (sim_tNot (sim_tV (e_isLst ⟨by rfl, T.b_isinstance⟩ ⟨by rfl, T.b_list⟩ (e_P 4 rfl (Or.inl rfl) nm_found)) (fun _ => rfl))) (sim_tOr1 ((sim_ne hu (e_len ⟨by rfl, T.b_len⟩ (e_P 4 rfl (Or.inl rfl) nm_found)) (sim_cst (by kernel_rfl)))).t))))) (sim_one (sim_ret (sim_cst (by kernel_rfl)))) sim_pnil)
  (sim_seq (sim_for (passes_of rfl) rfl (i_range ⟨by rfl, T.b_range⟩ (sim_cst (by kernel_rfl))) (simG_one sc_law.nd rfl (Or.inl rfl) (Or.inl rfl)) (sim_seq (sim_set sc_law.nd rfl (Or.inl rfl) (sim_fz (e_call (ok__law_pick T) (hr.mono (by decide)) T.g__law_pick T.k__law_pick T.d__law_pick nm__law_pick (a_c (e_P 2 rfl (Or.inl rfl) nm_pot) (a_c (sim_lst (a_c (e_V 3 rfl (Or.inr (Or.inl rfl)) nm_rule) (a_c (e_call (ok__law_row T) (hr.mono (by decide)) T.g__law_row T.k__law_row T.d__law_row nm__law_row (a_c (e_P 2 rfl (Or.inl rfl) nm_pot) (a_c (sim_cst (by kernel_rfl)) a_n)) (by rfl)) a_n))) a_n)) (by rfl))) rfl (Or.inl rfl))
  (sim_one (sim_for (passes_of rfl) rfl (i_range ⟨by rfl, T.b_range⟩ (sim_cst (by kernel_rfl))) (simG_one sc_law.nd rfl (Or.inl rfl) (Or.inl rfl)) (sim_seq (sim_ifS (sim_tNot (sim_tV (e_call (ok__law_right T) (hr.mono (by decide)) T.g__law_right T.k__law_right T.d__law_right nm__law_right (a_c (e_V 6 rfl (Or.inl rfl) nm_value) a_n) (by rfl)) (fun _ => rfl))) (sim_one (sim_ret (sim_cst (by kernel_rfl)))) sim_pnil)
  (sim_one (sim_set sc_law.nd rfl (Or.inl rfl) (sim_fz (e_call (ok__law_bent T 12) (hr.mono (by decide)) T.g__law_bent T.k__law_bent T.d__law_bent nm__law_bent (a_c (e_P 2 rfl (Or.inl rfl) nm_pot) (a_c (e_V 6 rfl (Or.inl rfl) nm_value) a_n)) (by rfl))) rfl (Or.inl rfl)))) (fun _ => rfl)))) (fun _ => rfl))
  (sim_one (sim_ifS (sim_tNot (sim_tV (e_call (ok__law_right T) (hr.mono (by decide)) T.g__law_right T.k__law_right T.d__law_right nm__law_right (a_c (e_call (ok__law_odd T) (hr.mono (by decide)) T.g__law_odd T.k__law_odd T.d__law_odd nm__law_odd (a_c (e_P 2 rfl (Or.inl rfl) nm_pot) a_n) (by rfl)) a_n) (by rfl)) (fun _ => rfl))) (sim_one (sim_ret (sim_cst (by kernel_rfl)))) sim_pnil))))))) (fun _ => rfl))
  (sim_seq (sim_set sc_law.nd rfl (Or.inr rfl) (sim_cst (by kernel_rfl)) rfl (Or.inl rfl))
  (sim_seq (sim_set sc_law.nd rfl (Or.inl rfl) (sim_cst (by kernel_rfl)) rfl (Or.inl rfl))
  (sim_seq (sim_set sc_law.nd rfl (Or.inl rfl) (sim_add (sim_comp (own := [("at", 10), ("odd", 11)]) rfl sc_law.nd (sim_items (e_V 8 rfl (Or.inl rfl) nm_bad)) (blkOk_by (by kernel_rfl)) rfl (tg_tup 2 rfl (fun _ _ _ _ _ => pg_tup rfl (pgs_one sc_law.nd rfl (Or.inl rfl) (Or.inr rfl) (pgs_one sc_law.nd rfl (Or.inl rfl) (Or.inr rfl) pgs_nil rfl) rfl) rfl rfl)) (fun _ _ _ _ _ => simTs_nil) (fun _ _ _ _ _ => (sim_add (sim_add (sim_sl (e_P 3 rfl (Or.inr (Or.inl rfl)) nm_rule) .none (.some (e_P 10 rfl (Or.inl rfl) nm_at))) (sim_tup (a_c (e_V 11 rfl (Or.inl rfl) nm_odd) a_n))) (sim_sl (e_P 3 rfl (Or.inr (Or.inl rfl)) nm_rule) (.some (sim_add (e_P 10 rfl (Or.inl rfl) nm_at) (sim_cst (by kernel_rfl)))) .none))) (fun _ => rfl)) (sim_lst (a_c (sim_sl (e_P 3 rfl (Or.inr (Or.inl rfl)) nm_rule) .none (.some (sim_cst (by kernel_rfl)))) (a_c (sim_add (e_P 3 rfl (Or.inr (Or.inl rfl)) nm_rule) (sim_cst (by kernel_rfl))) (a_c (e_list ⟨by rfl, T.b_list⟩ (e_P 3 rfl (Or.inr (Or.inl rfl)) nm_rule)) a_n))))) rfl (Or.inl rfl))
  (sim_seq (sim_set sc_law.nd rfl (Or.inl rfl) (sim_add (e_P 9 rfl (Or.inl rfl) nm_rows) (sim_lst (a_c (sim_mul (sim_cst (by kernel_rfl)) (sim_cst (by kernel_rfl))) (a_c (sim_mul (sim_cst (by kernel_rfl)) (sim_cst (by kernel_rfl))) (a_c (sim_cst (by kernel_rfl)) (a_c (sim_cst (by kernel_rfl)) (a_c (sim_cst (by kernel_rfl)) a_n))))))) rfl (Or.inl rfl))
  (sim_seq (sim_set sc_law.nd rfl (Or.inl rfl) (sim_add (e_P 9 rfl (Or.inl rfl) nm_rows) (sim_lst (sim_cstL (by kernel_rfl)))) rfl (Or.inl rfl))
  (sim_seq (sim_drop (sim_app rfl (Or.inl rfl) nm_rows.d nm_rows.c (sim_cst (by kernel_rfl)) rfl rfl rfl rfl rfl) rfl)
  (sim_one (sim_ret ((sim_eq hu (sim_comp (own := [("value", 6)]) rfl sc_law.nd (sim_items (e_V 9 rfl (Or.inl rfl) nm_rows)) (blkOk_by (by kernel_rfl)) rfl (tg_one (fun _ _ _ _ _ => pg_name sc_law.nd rfl (Or.inl rfl) (Or.inr rfl))) (fun _ _ _ _ _ => (simTs_one (sim_tNot (sim_tV (e_call (ok__law_right T) (hr.mono (by decide)) T.g__law_right T.k__law_right T.d__law_right nm__law_right (a_c (e_V 6 rfl (Or.inl rfl) nm_value) a_n) (by rfl)) (fun _ => rfl))))) (fun _ _ _ _ _ => (e_V 6 rfl (Or.inl rfl) nm_value)) (fun _ => rfl)) (sim_lst (sim_cstL (by kernel_rfl))))).e)))))))))
theorem nm_MOST_EVENTS : Nm "MOST_EVENTS" := nm_of (by decide +kernel)
theorem nm_PART_NAMES : Nm "PART_NAMES" := nm_of (by decide +kernel)
theorem nm_VALUES : Nm "VALUES" := nm_of (by decide +kernel)
theorem nm_WORDS : Nm "WORDS" := nm_of (by decide +kernel)
theorem all_mk {l : PySem.W.OpenLaw} {w : World} {K : PySem.W.Frag} {h : Heap} {mg : Str → Option Value} {fa x_is_same x_is_rule x_is_number x_is_word x_is_event x_are_events x_need_rule x_rules_near x_is_row x_near x__law_pot x__law_lot x__law_pick x__law_values x__law_rule x__law_words x__law_event x__law_row x__law_is_rule x__law_is_event x__law_is_row x__law_odd x__law_bent x__law_near x__law_refused x__law_right x_law x_FetchError x_InvalidRule y_PART_NAMES y_VALUES y_VALUES_0 y_VALUES_1 y_VALUES_2 y_VALUES_3 y_VALUES_4 y_VALUES_5 y_VALUES_6 y_WORDS : Addr} (hk : Keeps f_law) (X : K.In h) (G : h.Ns mainGlobals mg) (hfa : mg "law" = some (.ref fa))
    {od_is_same an_is_same : Option Addr} {sl_is_same : Array (Option Value)} {oc_is_same kV_is_same dc_is_same pm_is_same cd_is_same ct_is_same : Value}
    {od_is_rule an_is_rule : Option Addr} {sl_is_rule : Array (Option Value)} {oc_is_rule kV_is_rule dc_is_rule pm_is_rule cd_is_rule ct_is_rule : Value}
    {od_is_number an_is_number : Option Addr} {sl_is_number : Array (Option Value)} {oc_is_number kV_is_number dc_is_number pm_is_number cd_is_number ct_is_number : Value}
    {od_is_word an_is_word : Option Addr} {sl_is_word : Array (Option Value)} {oc_is_word kV_is_word dc_is_word pm_is_word cd_is_word ct_is_word : Value}
    {od_is_event an_is_event : Option Addr} {sl_is_event : Array (Option Value)} {oc_is_event kV_is_event dc_is_event pm_is_event cd_is_event ct_is_event : Value}
    {od_are_events an_are_events : Option Addr} {sl_are_events : Array (Option Value)} {oc_are_events kV_are_events dc_are_events pm_are_events cd_are_events ct_are_events : Value}
    {od_need_rule an_need_rule : Option Addr} {sl_need_rule : Array (Option Value)} {oc_need_rule kV_need_rule dc_need_rule pm_need_rule cd_need_rule ct_need_rule : Value}
    {od_rules_near an_rules_near : Option Addr} {sl_rules_near : Array (Option Value)} {oc_rules_near kV_rules_near dc_rules_near pm_rules_near cd_rules_near ct_rules_near : Value}
    {od_is_row an_is_row : Option Addr} {sl_is_row : Array (Option Value)} {oc_is_row kV_is_row dc_is_row pm_is_row cd_is_row ct_is_row : Value}
    {od_near an_near : Option Addr} {sl_near : Array (Option Value)} {oc_near kV_near dc_near pm_near cd_near ct_near : Value}
    {od__law_pot an__law_pot : Option Addr} {sl__law_pot : Array (Option Value)} {oc__law_pot kV__law_pot dc__law_pot pm__law_pot cd__law_pot ct__law_pot : Value}
    {od__law_lot an__law_lot : Option Addr} {sl__law_lot : Array (Option Value)} {oc__law_lot kV__law_lot dc__law_lot pm__law_lot cd__law_lot ct__law_lot : Value}
    {od__law_pick an__law_pick : Option Addr} {sl__law_pick : Array (Option Value)} {oc__law_pick kV__law_pick dc__law_pick pm__law_pick cd__law_pick ct__law_pick : Value}
    {od__law_values an__law_values : Option Addr} {sl__law_values : Array (Option Value)} {oc__law_values kV__law_values dc__law_values pm__law_values cd__law_values ct__law_values : Value}
    {od__law_rule an__law_rule : Option Addr} {sl__law_rule : Array (Option Value)} {oc__law_rule kV__law_rule dc__law_rule pm__law_rule cd__law_rule ct__law_rule : Value}
    {od__law_words an__law_words : Option Addr} {sl__law_words : Array (Option Value)} {oc__law_words kV__law_words dc__law_words pm__law_words cd__law_words ct__law_words : Value}
    {od__law_event an__law_event : Option Addr} {sl__law_event : Array (Option Value)} {oc__law_event kV__law_event dc__law_event pm__law_event cd__law_event ct__law_event : Value}
    {od__law_row an__law_row : Option Addr} {sl__law_row : Array (Option Value)} {oc__law_row kV__law_row dc__law_row pm__law_row cd__law_row ct__law_row : Value}
    {od__law_is_rule an__law_is_rule : Option Addr} {sl__law_is_rule : Array (Option Value)} {oc__law_is_rule kV__law_is_rule dc__law_is_rule pm__law_is_rule cd__law_is_rule ct__law_is_rule : Value}
    {od__law_is_event an__law_is_event : Option Addr} {sl__law_is_event : Array (Option Value)} {oc__law_is_event kV__law_is_event dc__law_is_event pm__law_is_event cd__law_is_event ct__law_is_event : Value}
    {od__law_is_row an__law_is_row : Option Addr} {sl__law_is_row : Array (Option Value)} {oc__law_is_row kV__law_is_row dc__law_is_row pm__law_is_row cd__law_is_row ct__law_is_row : Value}
    {od__law_odd an__law_odd : Option Addr} {sl__law_odd : Array (Option Value)} {oc__law_odd kV__law_odd dc__law_odd pm__law_odd cd__law_odd ct__law_odd : Value}
    {od__law_bent an__law_bent : Option Addr} {sl__law_bent : Array (Option Value)} {oc__law_bent kV__law_bent dc__law_bent pm__law_bent cd__law_bent ct__law_bent : Value}
    {od__law_near an__law_near : Option Addr} {sl__law_near : Array (Option Value)} {oc__law_near kV__law_near dc__law_near pm__law_near cd__law_near ct__law_near : Value}
    {od__law_refused an__law_refused : Option Addr} {sl__law_refused : Array (Option Value)} {oc__law_refused kV__law_refused dc__law_refused pm__law_refused cd__law_refused ct__law_refused : Value}
    {od__law_right an__law_right : Option Addr} {sl__law_right : Array (Option Value)} {oc__law_right kV__law_right dc__law_right pm__law_right cd__law_right ct__law_right : Value}
    {od_law an_law : Option Addr} {sl_law : Array (Option Value)} {oc_law kV_law dc_law pm_law cd_law ct_law : Value}
    {tk_MOST_EVENTS : Tok}
    {od_PART_NAMES : Option Addr} {n_PART_NAMES_ : Nat} {sl_PART_NAMES : Array (Option Value)}
    {tk_PART_NAMES_0 : Tok}
    {tk_PART_NAMES_1 : Tok}
    {tk_PART_NAMES_2 : Tok}
    {tk_PART_NAMES_3 : Tok}
    {tk_PART_NAMES_4 : Tok}
    {tk_PART_NAMES_5 : Tok}
    {tk_PART_NAMES_6 : Tok}
    {od_VALUES : Option Addr} {n_VALUES_ : Nat} {sl_VALUES : Array (Option Value)}
    {od_VALUES_0 : Option Addr} {n_VALUES_0_ : Nat} {sl_VALUES_0 : Array (Option Value)}
    {tk_VALUES_0_0 : Tok}
    {tk_VALUES_0_1 : Tok}
    {tk_VALUES_0_2 : Tok}
    {od_VALUES_1 : Option Addr} {n_VALUES_1_ : Nat} {sl_VALUES_1 : Array (Option Value)}
    {tk_VALUES_1_0 : Tok}
    {tk_VALUES_1_1 : Tok}
    {od_VALUES_2 : Option Addr} {n_VALUES_2_ : Nat} {sl_VALUES_2 : Array (Option Value)}
    {tk_VALUES_2_0 : Tok}
    {tk_VALUES_2_1 : Tok}
    {od_VALUES_3 : Option Addr} {n_VALUES_3_ : Nat} {sl_VALUES_3 : Array (Option Value)}
    {tk_VALUES_3_0 : Tok}
    {tk_VALUES_3_1 : Tok}
    {od_VALUES_4 : Option Addr} {n_VALUES_4_ : Nat} {sl_VALUES_4 : Array (Option Value)}
    {tk_VALUES_4_0 : Tok}
    {tk_VALUES_4_1 : Tok}
    {od_VALUES_5 : Option Addr} {n_VALUES_5_ : Nat} {sl_VALUES_5 : Array (Option Value)}
    {od_VALUES_6 : Option Addr} {n_VALUES_6_ : Nat} {sl_VALUES_6 : Array (Option Value)}
    {od_WORDS : Option Addr} {n_WORDS_ : Nat} {sl_WORDS : Array (Option Value)}
    {tk_WORDS_0 : Tok}
    {tk_WORDS_1 : Tok}
    {tk_WORDS_2 : Tok}
    {tk_WORDS_3 : Tok}
    (a_is_same : PySem.W.nsIn K mainGlobals "is_same" = some (some (.ref x_is_same)))
    (l_is_same : K.lookup x_is_same = some ⟨oc_is_same, od_is_same, .func (PySem.W.fnOf "is_same" "is_same" (defArgs s_is_same) (defBody s_is_same) (defScope s_is_same) .none kV_is_same dc_is_same pm_is_same an_is_same cd_is_same ct_is_same), sl_is_same⟩)
    (c_is_same : PySem.W.codeIn K cd_is_same "is_same" = true)
    (k_is_same : PySem.W.keepIn K (.ref x_is_same) = true)
    (a_is_rule : PySem.W.nsIn K mainGlobals "is_rule" = some (some (.ref x_is_rule)))
    (l_is_rule : K.lookup x_is_rule = some ⟨oc_is_rule, od_is_rule, .func (PySem.W.fnOf "is_rule" "is_rule" (defArgs s_is_rule) (defBody s_is_rule) (defScope s_is_rule) .none kV_is_rule dc_is_rule pm_is_rule an_is_rule cd_is_rule ct_is_rule), sl_is_rule⟩)
    (c_is_rule : PySem.W.codeIn K cd_is_rule "is_rule" = true)
    (k_is_rule : PySem.W.keepIn K (.ref x_is_rule) = true)
    (a_is_number : PySem.W.nsIn K mainGlobals "is_number" = some (some (.ref x_is_number)))
    (l_is_number : K.lookup x_is_number = some ⟨oc_is_number, od_is_number, .func (PySem.W.fnOf "is_number" "is_number" (defArgs s_is_number) (defBody s_is_number) (defScope s_is_number) .none kV_is_number dc_is_number pm_is_number an_is_number cd_is_number ct_is_number), sl_is_number⟩)
    (c_is_number : PySem.W.codeIn K cd_is_number "is_number" = true)
    (k_is_number : PySem.W.keepIn K (.ref x_is_number) = true)
    (a_is_word : PySem.W.nsIn K mainGlobals "is_word" = some (some (.ref x_is_word)))
    (l_is_word : K.lookup x_is_word = some ⟨oc_is_word, od_is_word, .func (PySem.W.fnOf "is_word" "is_word" (defArgs s_is_word) (defBody s_is_word) (defScope s_is_word) .none kV_is_word dc_is_word pm_is_word an_is_word cd_is_word ct_is_word), sl_is_word⟩)
    (c_is_word : PySem.W.codeIn K cd_is_word "is_word" = true)
    (k_is_word : PySem.W.keepIn K (.ref x_is_word) = true)
    (a_is_event : PySem.W.nsIn K mainGlobals "is_event" = some (some (.ref x_is_event)))
    (l_is_event : K.lookup x_is_event = some ⟨oc_is_event, od_is_event, .func (PySem.W.fnOf "is_event" "is_event" (defArgs s_is_event) (defBody s_is_event) (defScope s_is_event) .none kV_is_event dc_is_event pm_is_event an_is_event cd_is_event ct_is_event), sl_is_event⟩)
    (c_is_event : PySem.W.codeIn K cd_is_event "is_event" = true)
    (k_is_event : PySem.W.keepIn K (.ref x_is_event) = true)
    (a_are_events : PySem.W.nsIn K mainGlobals "are_events" = some (some (.ref x_are_events)))
    (l_are_events : K.lookup x_are_events = some ⟨oc_are_events, od_are_events, .func (PySem.W.fnOf "are_events" "are_events" (defArgs s_are_events) (defBody s_are_events) (defScope s_are_events) .none kV_are_events dc_are_events pm_are_events an_are_events cd_are_events ct_are_events), sl_are_events⟩)
    (c_are_events : PySem.W.codeIn K cd_are_events "are_events" = true)
    (k_are_events : PySem.W.keepIn K (.ref x_are_events) = true)
    (a_need_rule : PySem.W.nsIn K mainGlobals "need_rule" = some (some (.ref x_need_rule)))
    (l_need_rule : K.lookup x_need_rule = some ⟨oc_need_rule, od_need_rule, .func (PySem.W.fnOf "need_rule" "need_rule" (defArgs s_need_rule) (defBody s_need_rule) (defScope s_need_rule) .none kV_need_rule dc_need_rule pm_need_rule an_need_rule cd_need_rule ct_need_rule), sl_need_rule⟩)
    (c_need_rule : PySem.W.codeIn K cd_need_rule "need_rule" = true)
    (k_need_rule : PySem.W.keepIn K (.ref x_need_rule) = true)
    (a_rules_near : PySem.W.nsIn K mainGlobals "rules_near" = some (some (.ref x_rules_near)))
    (l_rules_near : K.lookup x_rules_near = some ⟨oc_rules_near, od_rules_near, .func (PySem.W.fnOf "rules_near" "rules_near" (defArgs s_rules_near) (defBody s_rules_near) (defScope s_rules_near) .none kV_rules_near dc_rules_near pm_rules_near an_rules_near cd_rules_near ct_rules_near), sl_rules_near⟩)
    (c_rules_near : PySem.W.codeIn K cd_rules_near "rules_near" = true)
    (k_rules_near : PySem.W.keepIn K (.ref x_rules_near) = true)
    (a_is_row : PySem.W.nsIn K mainGlobals "is_row" = some (some (.ref x_is_row)))
    (l_is_row : K.lookup x_is_row = some ⟨oc_is_row, od_is_row, .func (PySem.W.fnOf "is_row" "is_row" (defArgs s_is_row) (defBody s_is_row) (defScope s_is_row) .none kV_is_row dc_is_row pm_is_row an_is_row cd_is_row ct_is_row), sl_is_row⟩)
    (c_is_row : PySem.W.codeIn K cd_is_row "is_row" = true)
    (k_is_row : PySem.W.keepIn K (.ref x_is_row) = true)
    (a_near : PySem.W.nsIn K mainGlobals "near" = some (some (.ref x_near)))
    (l_near : K.lookup x_near = some ⟨oc_near, od_near, .func (PySem.W.fnOf "near" "near" (defArgs s_near) (defBody s_near) (defScope s_near) .none kV_near dc_near pm_near an_near cd_near ct_near), sl_near⟩)
    (c_near : PySem.W.codeIn K cd_near "near" = true)
    (k_near : PySem.W.keepIn K (.ref x_near) = true)
    (a__law_pot : PySem.W.nsIn K mainGlobals "_law_pot" = some (some (.ref x__law_pot)))
    (l__law_pot : K.lookup x__law_pot = some ⟨oc__law_pot, od__law_pot, .func (PySem.W.fnOf "_law_pot" "_law_pot" (defArgs s__law_pot) (defBody s__law_pot) (defScope s__law_pot) .none kV__law_pot dc__law_pot pm__law_pot an__law_pot cd__law_pot ct__law_pot), sl__law_pot⟩)
    (c__law_pot : PySem.W.codeIn K cd__law_pot "_law_pot" = true)
    (k__law_pot : PySem.W.keepIn K (.ref x__law_pot) = true)
    (a__law_lot : PySem.W.nsIn K mainGlobals "_law_lot" = some (some (.ref x__law_lot)))
    (l__law_lot : K.lookup x__law_lot = some ⟨oc__law_lot, od__law_lot, .func (PySem.W.fnOf "_law_lot" "_law_lot" (defArgs s__law_lot) (defBody s__law_lot) (defScope s__law_lot) .none kV__law_lot dc__law_lot pm__law_lot an__law_lot cd__law_lot ct__law_lot), sl__law_lot⟩)
    (c__law_lot : PySem.W.codeIn K cd__law_lot "_law_lot" = true)
    (k__law_lot : PySem.W.keepIn K (.ref x__law_lot) = true)
    (a__law_pick : PySem.W.nsIn K mainGlobals "_law_pick" = some (some (.ref x__law_pick)))
    (l__law_pick : K.lookup x__law_pick = some ⟨oc__law_pick, od__law_pick, .func (PySem.W.fnOf "_law_pick" "_law_pick" (defArgs s__law_pick) (defBody s__law_pick) (defScope s__law_pick) .none kV__law_pick dc__law_pick pm__law_pick an__law_pick cd__law_pick ct__law_pick), sl__law_pick⟩)
    (c__law_pick : PySem.W.codeIn K cd__law_pick "_law_pick" = true)
    (k__law_pick : PySem.W.keepIn K (.ref x__law_pick) = true)
    (a__law_values : PySem.W.nsIn K mainGlobals "_law_values" = some (some (.ref x__law_values)))
    (l__law_values : K.lookup x__law_values = some ⟨oc__law_values, od__law_values, .func (PySem.W.fnOf "_law_values" "_law_values" (defArgs s__law_values) (defBody s__law_values) (defScope s__law_values) .none kV__law_values dc__law_values pm__law_values an__law_values cd__law_values ct__law_values), sl__law_values⟩)
    (c__law_values : PySem.W.codeIn K cd__law_values "_law_values" = true)
    (k__law_values : PySem.W.keepIn K (.ref x__law_values) = true)
    (a__law_rule : PySem.W.nsIn K mainGlobals "_law_rule" = some (some (.ref x__law_rule)))
    (l__law_rule : K.lookup x__law_rule = some ⟨oc__law_rule, od__law_rule, .func (PySem.W.fnOf "_law_rule" "_law_rule" (defArgs s__law_rule) (defBody s__law_rule) (defScope s__law_rule) .none kV__law_rule dc__law_rule pm__law_rule an__law_rule cd__law_rule ct__law_rule), sl__law_rule⟩)
    (c__law_rule : PySem.W.codeIn K cd__law_rule "_law_rule" = true)
    (k__law_rule : PySem.W.keepIn K (.ref x__law_rule) = true)
    (a__law_words : PySem.W.nsIn K mainGlobals "_law_words" = some (some (.ref x__law_words)))
    (l__law_words : K.lookup x__law_words = some ⟨oc__law_words, od__law_words, .func (PySem.W.fnOf "_law_words" "_law_words" (defArgs s__law_words) (defBody s__law_words) (defScope s__law_words) .none kV__law_words dc__law_words pm__law_words an__law_words cd__law_words ct__law_words), sl__law_words⟩)
    (c__law_words : PySem.W.codeIn K cd__law_words "_law_words" = true)
    (k__law_words : PySem.W.keepIn K (.ref x__law_words) = true)
    (a__law_event : PySem.W.nsIn K mainGlobals "_law_event" = some (some (.ref x__law_event)))
    (l__law_event : K.lookup x__law_event = some ⟨oc__law_event, od__law_event, .func (PySem.W.fnOf "_law_event" "_law_event" (defArgs s__law_event) (defBody s__law_event) (defScope s__law_event) .none kV__law_event dc__law_event pm__law_event an__law_event cd__law_event ct__law_event), sl__law_event⟩)
    (c__law_event : PySem.W.codeIn K cd__law_event "_law_event" = true)
    (k__law_event : PySem.W.keepIn K (.ref x__law_event) = true)
    (a__law_row : PySem.W.nsIn K mainGlobals "_law_row" = some (some (.ref x__law_row)))
    (l__law_row : K.lookup x__law_row = some ⟨oc__law_row, od__law_row, .func (PySem.W.fnOf "_law_row" "_law_row" (defArgs s__law_row) (defBody s__law_row) (defScope s__law_row) .none kV__law_row dc__law_row pm__law_row an__law_row cd__law_row ct__law_row), sl__law_row⟩)
    (c__law_row : PySem.W.codeIn K cd__law_row "_law_row" = true)
    (k__law_row : PySem.W.keepIn K (.ref x__law_row) = true)
    (a__law_is_rule : PySem.W.nsIn K mainGlobals "_law_is_rule" = some (some (.ref x__law_is_rule)))
    (l__law_is_rule : K.lookup x__law_is_rule = some ⟨oc__law_is_rule, od__law_is_rule, .func (PySem.W.fnOf "_law_is_rule" "_law_is_rule" (defArgs s__law_is_rule) (defBody s__law_is_rule) (defScope s__law_is_rule) .none kV__law_is_rule dc__law_is_rule pm__law_is_rule an__law_is_rule cd__law_is_rule ct__law_is_rule), sl__law_is_rule⟩)
    (c__law_is_rule : PySem.W.codeIn K cd__law_is_rule "_law_is_rule" = true)
    (k__law_is_rule : PySem.W.keepIn K (.ref x__law_is_rule) = true)
    (a__law_is_event : PySem.W.nsIn K mainGlobals "_law_is_event" = some (some (.ref x__law_is_event)))
    (l__law_is_event : K.lookup x__law_is_event = some ⟨oc__law_is_event, od__law_is_event, .func (PySem.W.fnOf "_law_is_event" "_law_is_event" (defArgs s__law_is_event) (defBody s__law_is_event) (defScope s__law_is_event) .none kV__law_is_event dc__law_is_event pm__law_is_event an__law_is_event cd__law_is_event ct__law_is_event), sl__law_is_event⟩)
    (c__law_is_event : PySem.W.codeIn K cd__law_is_event "_law_is_event" = true)
    (k__law_is_event : PySem.W.keepIn K (.ref x__law_is_event) = true)
    (a__law_is_row : PySem.W.nsIn K mainGlobals "_law_is_row" = some (some (.ref x__law_is_row)))
    (l__law_is_row : K.lookup x__law_is_row = some ⟨oc__law_is_row, od__law_is_row, .func (PySem.W.fnOf "_law_is_row" "_law_is_row" (defArgs s__law_is_row) (defBody s__law_is_row) (defScope s__law_is_row) .none kV__law_is_row dc__law_is_row pm__law_is_row an__law_is_row cd__law_is_row ct__law_is_row), sl__law_is_row⟩)
    (c__law_is_row : PySem.W.codeIn K cd__law_is_row "_law_is_row" = true)
    (k__law_is_row : PySem.W.keepIn K (.ref x__law_is_row) = true)
    (a__law_odd : PySem.W.nsIn K mainGlobals "_law_odd" = some (some (.ref x__law_odd)))
    (l__law_odd : K.lookup x__law_odd = some ⟨oc__law_odd, od__law_odd, .func (PySem.W.fnOf "_law_odd" "_law_odd" (defArgs s__law_odd) (defBody s__law_odd) (defScope s__law_odd) .none kV__law_odd dc__law_odd pm__law_odd an__law_odd cd__law_odd ct__law_odd), sl__law_odd⟩)
    (c__law_odd : PySem.W.codeIn K cd__law_odd "_law_odd" = true)
    (k__law_odd : PySem.W.keepIn K (.ref x__law_odd) = true)
    (a__law_bent : PySem.W.nsIn K mainGlobals "_law_bent" = some (some (.ref x__law_bent)))
    (l__law_bent : K.lookup x__law_bent = some ⟨oc__law_bent, od__law_bent, .func (PySem.W.fnOf "_law_bent" "_law_bent" (defArgs s__law_bent) (defBody s__law_bent) (defScope s__law_bent) .none kV__law_bent dc__law_bent pm__law_bent an__law_bent cd__law_bent ct__law_bent), sl__law_bent⟩)
    (c__law_bent : PySem.W.codeIn K cd__law_bent "_law_bent" = true)
    (k__law_bent : PySem.W.keepIn K (.ref x__law_bent) = true)
    (a__law_near : PySem.W.nsIn K mainGlobals "_law_near" = some (some (.ref x__law_near)))
    (l__law_near : K.lookup x__law_near = some ⟨oc__law_near, od__law_near, .func (PySem.W.fnOf "_law_near" "_law_near" (defArgs s__law_near) (defBody s__law_near) (defScope s__law_near) .none kV__law_near dc__law_near pm__law_near an__law_near cd__law_near ct__law_near), sl__law_near⟩)
    (c__law_near : PySem.W.codeIn K cd__law_near "_law_near" = true)
    (k__law_near : PySem.W.keepIn K (.ref x__law_near) = true)
    (a__law_refused : PySem.W.nsIn K mainGlobals "_law_refused" = some (some (.ref x__law_refused)))
    (l__law_refused : K.lookup x__law_refused = some ⟨oc__law_refused, od__law_refused, .func (PySem.W.fnOf "_law_refused" "_law_refused" (defArgs s__law_refused) (defBody s__law_refused) (defScope s__law_refused) .none kV__law_refused dc__law_refused pm__law_refused an__law_refused cd__law_refused ct__law_refused), sl__law_refused⟩)
    (c__law_refused : PySem.W.codeIn K cd__law_refused "_law_refused" = true)
    (k__law_refused : PySem.W.keepIn K (.ref x__law_refused) = true)
    (a__law_right : PySem.W.nsIn K mainGlobals "_law_right" = some (some (.ref x__law_right)))
    (l__law_right : K.lookup x__law_right = some ⟨oc__law_right, od__law_right, .func (PySem.W.fnOf "_law_right" "_law_right" (defArgs s__law_right) (defBody s__law_right) (defScope s__law_right) .none kV__law_right dc__law_right pm__law_right an__law_right cd__law_right ct__law_right), sl__law_right⟩)
    (c__law_right : PySem.W.codeIn K cd__law_right "_law_right" = true)
    (k__law_right : PySem.W.keepIn K (.ref x__law_right) = true)
    (a_law : PySem.W.nsIn K mainGlobals "law" = some (some (.ref x_law)))
    (l_law : K.lookup x_law = some ⟨oc_law, od_law, .func (PySem.W.fnOf "law" "law" (defArgs s_law) (defBody s_law) (defScope s_law) .none kV_law dc_law pm_law an_law cd_law ct_law), sl_law⟩)
    (c_law : PySem.W.codeIn K cd_law "law" = true)
    (k_law : PySem.W.keepIn K (.ref x_law) = true)
    (a_FetchError : PySem.W.nsIn K mainGlobals "FetchError" = some (some (.ref x_FetchError)))
    (k_FetchError : PySem.W.keepIn K (.ref x_FetchError) = true)
    (u_FetchError : PySem.W.subIn K (.ref x_FetchError) (.type "BaseException") = some true)
    (y_FetchError : PySem.W.typeIn K (.ref x_FetchError) = some (.type "type"))
    (q_FetchError : PySem.W.excIn K x_FetchError [.type "ValueError", .type "Exception", .type "BaseException", .type "object"] "ValueError.__new__" = true)
    (a_InvalidRule : PySem.W.nsIn K mainGlobals "InvalidRule" = some (some (.ref x_InvalidRule)))
    (k_InvalidRule : PySem.W.keepIn K (.ref x_InvalidRule) = true)
    (u_InvalidRule : PySem.W.subIn K (.ref x_InvalidRule) (.type "BaseException") = some true)
    (y_InvalidRule : PySem.W.typeIn K (.ref x_InvalidRule) = some (.type "type"))
    (q_InvalidRule : PySem.W.excIn K x_InvalidRule [.type "ValueError", .type "Exception", .type "BaseException", .type "object"] "ValueError.__new__" = true)
    (i_FetchError : PySem.W.isClsIn K x_FetchError = true)
    (r_FetchError_FetchError : PySem.W.subIn K (.ref x_FetchError) (.ref x_FetchError) = some true)
    (r_InvalidRule_FetchError : PySem.W.subIn K (.ref x_InvalidRule) (.ref x_FetchError) = some true)
    (i_InvalidRule : PySem.W.isClsIn K x_InvalidRule = true)
    (r_FetchError_InvalidRule : PySem.W.subIn K (.ref x_FetchError) (.ref x_InvalidRule) = some false)
    (r_InvalidRule_InvalidRule : PySem.W.subIn K (.ref x_InvalidRule) (.ref x_InvalidRule) = some true)
    (a_MOST_EVENTS : PySem.W.nsIn K mainGlobals "MOST_EVENTS" = some (some (.int 60 tk_MOST_EVENTS)))
    (a_PART_NAMES : PySem.W.nsIn K mainGlobals "PART_NAMES" = some (some (.ref y_PART_NAMES)))
    (l_PART_NAMES : K.lookup y_PART_NAMES = some ⟨.type "tuple", od_PART_NAMES, .seq #[.str "words" tk_PART_NAMES_0, .str "bars" tk_PART_NAMES_1, .str "lag" tk_PART_NAMES_2, .str "court" tk_PART_NAMES_3, .str "once" tk_PART_NAMES_4, .str "void" tk_PART_NAMES_5, .str "paper" tk_PART_NAMES_6] n_PART_NAMES_, sl_PART_NAMES⟩)
    (a_VALUES : PySem.W.nsIn K mainGlobals "VALUES" = some (some (.ref y_VALUES)))
    (l_VALUES : K.lookup y_VALUES = some ⟨.type "tuple", od_VALUES, .seq #[.ref y_VALUES_0, .ref y_VALUES_1, .ref y_VALUES_2, .ref y_VALUES_3, .ref y_VALUES_4, .ref y_VALUES_5, .ref y_VALUES_6] n_VALUES_, sl_VALUES⟩)
    (l_VALUES_0 : K.lookup y_VALUES_0 = some ⟨.type "tuple", od_VALUES_0, .seq #[.str "both" tk_VALUES_0_0, .str "either" tk_VALUES_0_1, .str "last" tk_VALUES_0_2] n_VALUES_0_, sl_VALUES_0⟩)
    (l_VALUES_1 : K.lookup y_VALUES_1 = some ⟨.type "tuple", od_VALUES_1, .seq #[.str "own" tk_VALUES_1_0, .str "win" tk_VALUES_1_1] n_VALUES_1_, sl_VALUES_1⟩)
    (l_VALUES_2 : K.lookup y_VALUES_2 = some ⟨.type "tuple", od_VALUES_2, .seq #[.str "morning" tk_VALUES_2_0, .str "now" tk_VALUES_2_1] n_VALUES_2_, sl_VALUES_2⟩)
    (l_VALUES_3 : K.lookup y_VALUES_3 = some ⟨.type "tuple", od_VALUES_3, .seq #[.str "morning" tk_VALUES_3_0, .str "now" tk_VALUES_3_1] n_VALUES_3_, sl_VALUES_3⟩)
    (l_VALUES_4 : K.lookup y_VALUES_4 = some ⟨.type "tuple", od_VALUES_4, .seq #[.str "day" tk_VALUES_4_0, .str "use" tk_VALUES_4_1] n_VALUES_4_, sl_VALUES_4⟩)
    (l_VALUES_5 : K.lookup y_VALUES_5 = some ⟨.type "tuple", od_VALUES_5, .seq #[.bool false, .bool true] n_VALUES_5_, sl_VALUES_5⟩)
    (l_VALUES_6 : K.lookup y_VALUES_6 = some ⟨.type "tuple", od_VALUES_6, .seq #[.bool false, .bool true] n_VALUES_6_, sl_VALUES_6⟩)
    (a_WORDS : PySem.W.nsIn K mainGlobals "WORDS" = some (some (.ref y_WORDS)))
    (l_WORDS : K.lookup y_WORDS = some ⟨.type "tuple", od_WORDS, .seq #[.str "always" tk_WORDS_0, .str "bar" tk_WORDS_1, .str "no" tk_WORDS_2, .str "once" tk_WORDS_3] n_WORDS_, sl_WORDS⟩)
    (b_all : PySem.W.nsIn K mainGlobals "all" = some none)
    (b_any : PySem.W.nsIn K mainGlobals "any" = some none)
    (b_bool : PySem.W.nsIn K mainGlobals "bool" = some none)
    (b_enumerate : PySem.W.nsIn K mainGlobals "enumerate" = some none)
    (b_int : PySem.W.nsIn K mainGlobals "int" = some none)
    (b_isinstance : PySem.W.nsIn K mainGlobals "isinstance" = some none)
    (b_len : PySem.W.nsIn K mainGlobals "len" = some none)
    (b_list : PySem.W.nsIn K mainGlobals "list" = some none)
    (b_range : PySem.W.nsIn K mainGlobals "range" = some none)
    (b_sorted : PySem.W.nsIn K mainGlobals "sorted" = some none)
    (b_str : PySem.W.nsIn K mainGlobals "str" = some none)
    (b_tuple : PySem.W.nsIn K mainGlobals "tuple" = some none)
    (b_zip : PySem.W.nsIn K mainGlobals "zip" = some none) :
    ∃ fd : FuncData, (∀ (s : Shared) (v : Value), BindsTo s fd ⟨[v], []⟩ [("script", v)]) ∧ ∀ base : Heap, K.In base → base.Ns mainGlobals mg → FnOk l.prog w K mg base (L2.CX l.prog w) 17 fa fd ["script"] (spLaw K) := by
  have e : x_law = fa := by have e := hfa.symm.trans (PySem.W.mg_of X G a_law); cases e; rfl
  subst e
  have T : Txt K mg ⟨x_is_same, PySem.W.fnOf "is_same" "is_same" (defArgs s_is_same) (defBody s_is_same) (defScope s_is_same) .none kV_is_same dc_is_same pm_is_same an_is_same cd_is_same ct_is_same, x_is_rule, PySem.W.fnOf "is_rule" "is_rule" (defArgs s_is_rule) (defBody s_is_rule) (defScope s_is_rule) .none kV_is_rule dc_is_rule pm_is_rule an_is_rule cd_is_rule ct_is_rule, x_is_number, PySem.W.fnOf "is_number" "is_number" (defArgs s_is_number) (defBody s_is_number) (defScope s_is_number) .none kV_is_number dc_is_number pm_is_number an_is_number cd_is_number ct_is_number, x_is_word, PySem.W.fnOf "is_word" "is_word" (defArgs s_is_word) (defBody s_is_word) (defScope s_is_word) .none kV_is_word dc_is_word pm_is_word an_is_word cd_is_word ct_is_word, x_is_event, PySem.W.fnOf "is_event" "is_event" (defArgs s_is_event) (defBody s_is_event) (defScope s_is_event) .none kV_is_event dc_is_event pm_is_event an_is_event cd_is_event ct_is_event, x_are_events, PySem.W.fnOf "are_events" "are_events" (defArgs s_are_events) (defBody s_are_events) (defScope s_are_events) .none kV_are_events dc_are_events pm_are_events an_are_events cd_are_events ct_are_events, x_need_rule, PySem.W.fnOf "need_rule" "need_rule" (defArgs s_need_rule) (defBody s_need_rule) (defScope s_need_rule) .none kV_need_rule dc_need_rule pm_need_rule an_need_rule cd_need_rule ct_need_rule, x_rules_near, PySem.W.fnOf "rules_near" "rules_near" (defArgs s_rules_near) (defBody s_rules_near) (defScope s_rules_near) .none kV_rules_near dc_rules_near pm_rules_near an_rules_near cd_rules_near ct_rules_near, x_is_row, PySem.W.fnOf "is_row" "is_row" (defArgs s_is_row) (defBody s_is_row) (defScope s_is_row) .none kV_is_row dc_is_row pm_is_row an_is_row cd_is_row ct_is_row, x_near, PySem.W.fnOf "near" "near" (defArgs s_near) (defBody s_near) (defScope s_near) .none kV_near dc_near pm_near an_near cd_near ct_near, x__law_pot, PySem.W.fnOf "_law_pot" "_law_pot" (defArgs s__law_pot) (defBody s__law_pot) (defScope s__law_pot) .none kV__law_pot dc__law_pot pm__law_pot an__law_pot cd__law_pot ct__law_pot, x__law_lot, PySem.W.fnOf "_law_lot" "_law_lot" (defArgs s__law_lot) (defBody s__law_lot) (defScope s__law_lot) .none kV__law_lot dc__law_lot pm__law_lot an__law_lot cd__law_lot ct__law_lot, x__law_pick, PySem.W.fnOf "_law_pick" "_law_pick" (defArgs s__law_pick) (defBody s__law_pick) (defScope s__law_pick) .none kV__law_pick dc__law_pick pm__law_pick an__law_pick cd__law_pick ct__law_pick, x__law_values, PySem.W.fnOf "_law_values" "_law_values" (defArgs s__law_values) (defBody s__law_values) (defScope s__law_values) .none kV__law_values dc__law_values pm__law_values an__law_values cd__law_values ct__law_values, x__law_rule, PySem.W.fnOf "_law_rule" "_law_rule" (defArgs s__law_rule) (defBody s__law_rule) (defScope s__law_rule) .none kV__law_rule dc__law_rule pm__law_rule an__law_rule cd__law_rule ct__law_rule, x__law_words, PySem.W.fnOf "_law_words" "_law_words" (defArgs s__law_words) (defBody s__law_words) (defScope s__law_words) .none kV__law_words dc__law_words pm__law_words an__law_words cd__law_words ct__law_words, x__law_event, PySem.W.fnOf "_law_event" "_law_event" (defArgs s__law_event) (defBody s__law_event) (defScope s__law_event) .none kV__law_event dc__law_event pm__law_event an__law_event cd__law_event ct__law_event, x__law_row, PySem.W.fnOf "_law_row" "_law_row" (defArgs s__law_row) (defBody s__law_row) (defScope s__law_row) .none kV__law_row dc__law_row pm__law_row an__law_row cd__law_row ct__law_row, x__law_is_rule, PySem.W.fnOf "_law_is_rule" "_law_is_rule" (defArgs s__law_is_rule) (defBody s__law_is_rule) (defScope s__law_is_rule) .none kV__law_is_rule dc__law_is_rule pm__law_is_rule an__law_is_rule cd__law_is_rule ct__law_is_rule, x__law_is_event, PySem.W.fnOf "_law_is_event" "_law_is_event" (defArgs s__law_is_event) (defBody s__law_is_event) (defScope s__law_is_event) .none kV__law_is_event dc__law_is_event pm__law_is_event an__law_is_event cd__law_is_event ct__law_is_event, x__law_is_row, PySem.W.fnOf "_law_is_row" "_law_is_row" (defArgs s__law_is_row) (defBody s__law_is_row) (defScope s__law_is_row) .none kV__law_is_row dc__law_is_row pm__law_is_row an__law_is_row cd__law_is_row ct__law_is_row, x__law_odd, PySem.W.fnOf "_law_odd" "_law_odd" (defArgs s__law_odd) (defBody s__law_odd) (defScope s__law_odd) .none kV__law_odd dc__law_odd pm__law_odd an__law_odd cd__law_odd ct__law_odd, x__law_bent, PySem.W.fnOf "_law_bent" "_law_bent" (defArgs s__law_bent) (defBody s__law_bent) (defScope s__law_bent) .none kV__law_bent dc__law_bent pm__law_bent an__law_bent cd__law_bent ct__law_bent, x__law_near, PySem.W.fnOf "_law_near" "_law_near" (defArgs s__law_near) (defBody s__law_near) (defScope s__law_near) .none kV__law_near dc__law_near pm__law_near an__law_near cd__law_near ct__law_near, x__law_refused, PySem.W.fnOf "_law_refused" "_law_refused" (defArgs s__law_refused) (defBody s__law_refused) (defScope s__law_refused) .none kV__law_refused dc__law_refused pm__law_refused an__law_refused cd__law_refused ct__law_refused, x__law_right, PySem.W.fnOf "_law_right" "_law_right" (defArgs s__law_right) (defBody s__law_right) (defScope s__law_right) .none kV__law_right dc__law_right pm__law_right an__law_right cd__law_right ct__law_right, x_law, PySem.W.fnOf "law" "law" (defArgs s_law) (defBody s_law) (defScope s_law) .none kV_law dc_law pm_law an_law cd_law ct_law, x_FetchError, x_InvalidRule⟩ := by
    constructor
    case g_is_same => exact PySem.W.mg_of X G a_is_same
    case k_is_same => exact k_is_same
    case t_is_same => exact fun_mk (st := s_is_same) l_is_same c_is_same k_is_same
    case d_is_same => exact (fun_mk (st := s_is_same) l_is_same c_is_same k_is_same).binds (ps := p_is_same) (fun _ _ _ _ _ _ us hl => match us, hl with | [_, _], _ => rfl)
    case g_is_rule => exact PySem.W.mg_of X G a_is_rule
    case k_is_rule => exact k_is_rule
    case t_is_rule => exact fun_mk (st := s_is_rule) l_is_rule c_is_rule k_is_rule
    case d_is_rule => exact (fun_mk (st := s_is_rule) l_is_rule c_is_rule k_is_rule).binds (ps := p_is_rule) (fun _ _ _ _ _ _ us hl => match us, hl with | [_], _ => rfl)
    case g_is_number => exact PySem.W.mg_of X G a_is_number
    case k_is_number => exact k_is_number
    case t_is_number => exact fun_mk (st := s_is_number) l_is_number c_is_number k_is_number
    case d_is_number => exact (fun_mk (st := s_is_number) l_is_number c_is_number k_is_number).binds (ps := p_is_number) (fun _ _ _ _ _ _ us hl => match us, hl with | [_, _], _ => rfl)
    case g_is_word => exact PySem.W.mg_of X G a_is_word
    case k_is_word => exact k_is_word
    case t_is_word => exact fun_mk (st := s_is_word) l_is_word c_is_word k_is_word
    case d_is_word => exact (fun_mk (st := s_is_word) l_is_word c_is_word k_is_word).binds (ps := p_is_word) (fun _ _ _ _ _ _ us hl => match us, hl with | [_], _ => rfl)
    case g_is_event => exact PySem.W.mg_of X G a_is_event
    case k_is_event => exact k_is_event
    case t_is_event => exact fun_mk (st := s_is_event) l_is_event c_is_event k_is_event
    case d_is_event => exact (fun_mk (st := s_is_event) l_is_event c_is_event k_is_event).binds (ps := p_is_event) (fun _ _ _ _ _ _ us hl => match us, hl with | [_], _ => rfl)
    case g_are_events => exact PySem.W.mg_of X G a_are_events
    case k_are_events => exact k_are_events
    case t_are_events => exact fun_mk (st := s_are_events) l_are_events c_are_events k_are_events
    case d_are_events => exact (fun_mk (st := s_are_events) l_are_events c_are_events k_are_events).binds (ps := p_are_events) (fun _ _ _ _ _ _ us hl => match us, hl with | [_], _ => rfl)
    case g_need_rule => exact PySem.W.mg_of X G a_need_rule
    case k_need_rule => exact k_need_rule
    case t_need_rule => exact fun_mk (st := s_need_rule) l_need_rule c_need_rule k_need_rule
    case d_need_rule => exact (fun_mk (st := s_need_rule) l_need_rule c_need_rule k_need_rule).binds (ps := p_need_rule) (fun _ _ _ _ _ _ us hl => match us, hl with | [_], _ => rfl)
    case g_rules_near => exact PySem.W.mg_of X G a_rules_near
    case k_rules_near => exact k_rules_near
    case t_rules_near => exact fun_mk (st := s_rules_near) l_rules_near c_rules_near k_rules_near
    case d_rules_near => exact (fun_mk (st := s_rules_near) l_rules_near c_rules_near k_rules_near).binds (ps := p_rules_near) (fun _ _ _ _ _ _ us hl => match us, hl with | [_], _ => rfl)
    case g_is_row => exact PySem.W.mg_of X G a_is_row
    case k_is_row => exact k_is_row
    case t_is_row => exact fun_mk (st := s_is_row) l_is_row c_is_row k_is_row
    case d_is_row => exact (fun_mk (st := s_is_row) l_is_row c_is_row k_is_row).binds (ps := p_is_row) (fun _ _ _ _ _ _ us hl => match us, hl with | [_], _ => rfl)
    case g_near => exact PySem.W.mg_of X G a_near
    case k_near => exact k_near
    case t_near => exact fun_mk (st := s_near) l_near c_near k_near
    case d_near => exact (fun_mk (st := s_near) l_near c_near k_near).binds (ps := p_near) (fun _ _ _ _ _ _ us hl => match us, hl with | [_], _ => rfl)
    case g__law_pot => exact PySem.W.mg_of X G a__law_pot
    case k__law_pot => exact k__law_pot
    case t__law_pot => exact fun_mk (st := s__law_pot) l__law_pot c__law_pot k__law_pot
    case d__law_pot => exact (fun_mk (st := s__law_pot) l__law_pot c__law_pot k__law_pot).binds (ps := p__law_pot) (fun _ _ _ _ _ _ us hl => match us, hl with | [_, _], _ => rfl)
    case g__law_lot => exact PySem.W.mg_of X G a__law_lot
    case k__law_lot => exact k__law_lot
    case t__law_lot => exact fun_mk (st := s__law_lot) l__law_lot c__law_lot k__law_lot
    case d__law_lot => exact (fun_mk (st := s__law_lot) l__law_lot c__law_lot k__law_lot).binds (ps := p__law_lot) (fun _ _ _ _ _ _ us hl => match us, hl with | [_, _], _ => rfl)
    case g__law_pick => exact PySem.W.mg_of X G a__law_pick
    case k__law_pick => exact k__law_pick
    case t__law_pick => exact fun_mk (st := s__law_pick) l__law_pick c__law_pick k__law_pick
    case d__law_pick => exact (fun_mk (st := s__law_pick) l__law_pick c__law_pick k__law_pick).binds (ps := p__law_pick) (fun _ _ _ _ _ _ us hl => match us, hl with | [_, _], _ => rfl)
    case g__law_values => exact PySem.W.mg_of X G a__law_values
    case k__law_values => exact k__law_values
    case t__law_values => exact fun_mk (st := s__law_values) l__law_values c__law_values k__law_values
    case d__law_values => exact (fun_mk (st := s__law_values) l__law_values c__law_values k__law_values).binds (ps := p__law_values) (fun _ _ _ _ _ _ us hl => match us, hl with | [], _ => rfl)
    case g__law_rule => exact PySem.W.mg_of X G a__law_rule
    case k__law_rule => exact k__law_rule
    case t__law_rule => exact fun_mk (st := s__law_rule) l__law_rule c__law_rule k__law_rule
    case d__law_rule => exact (fun_mk (st := s__law_rule) l__law_rule c__law_rule k__law_rule).binds (ps := p__law_rule) (fun _ _ _ _ _ _ us hl => match us, hl with | [_], _ => rfl)
    case g__law_words => exact PySem.W.mg_of X G a__law_words
    case k__law_words => exact k__law_words
    case t__law_words => exact fun_mk (st := s__law_words) l__law_words c__law_words k__law_words
    case d__law_words => exact (fun_mk (st := s__law_words) l__law_words c__law_words k__law_words).binds (ps := p__law_words) (fun _ _ _ _ _ _ us hl => match us, hl with | [], _ => rfl)
    case g__law_event => exact PySem.W.mg_of X G a__law_event
    case k__law_event => exact k__law_event
    case t__law_event => exact fun_mk (st := s__law_event) l__law_event c__law_event k__law_event
    case d__law_event => exact (fun_mk (st := s__law_event) l__law_event c__law_event k__law_event).binds (ps := p__law_event) (fun _ _ _ _ _ _ us hl => match us, hl with | [_], _ => rfl)
    case g__law_row => exact PySem.W.mg_of X G a__law_row
    case k__law_row => exact k__law_row
    case t__law_row => exact fun_mk (st := s__law_row) l__law_row c__law_row k__law_row
    case d__law_row => exact (fun_mk (st := s__law_row) l__law_row c__law_row k__law_row).binds (ps := p__law_row) (fun _ _ _ _ _ _ us hl => match us, hl with | [_, _], _ => rfl)
    case g__law_is_rule => exact PySem.W.mg_of X G a__law_is_rule
    case k__law_is_rule => exact k__law_is_rule
    case t__law_is_rule => exact fun_mk (st := s__law_is_rule) l__law_is_rule c__law_is_rule k__law_is_rule
    case d__law_is_rule => exact (fun_mk (st := s__law_is_rule) l__law_is_rule c__law_is_rule k__law_is_rule).binds (ps := p__law_is_rule) (fun _ _ _ _ _ _ us hl => match us, hl with | [_], _ => rfl)
    case g__law_is_event => exact PySem.W.mg_of X G a__law_is_event
    case k__law_is_event => exact k__law_is_event
    case t__law_is_event => exact fun_mk (st := s__law_is_event) l__law_is_event c__law_is_event k__law_is_event
    case d__law_is_event => exact (fun_mk (st := s__law_is_event) l__law_is_event c__law_is_event k__law_is_event).binds (ps := p__law_is_event) (fun _ _ _ _ _ _ us hl => match us, hl with | [_], _ => rfl)
    case g__law_is_row => exact PySem.W.mg_of X G a__law_is_row
    case k__law_is_row => exact k__law_is_row
    case t__law_is_row => exact fun_mk (st := s__law_is_row) l__law_is_row c__law_is_row k__law_is_row
    case d__law_is_row => exact (fun_mk (st := s__law_is_row) l__law_is_row c__law_is_row k__law_is_row).binds (ps := p__law_is_row) (fun _ _ _ _ _ _ us hl => match us, hl with | [_], _ => rfl)
    case g__law_odd => exact PySem.W.mg_of X G a__law_odd
    case k__law_odd => exact k__law_odd
    case t__law_odd => exact fun_mk (st := s__law_odd) l__law_odd c__law_odd k__law_odd
    case d__law_odd => exact (fun_mk (st := s__law_odd) l__law_odd c__law_odd k__law_odd).binds (ps := p__law_odd) (fun _ _ _ _ _ _ us hl => match us, hl with | [_], _ => rfl)
    case g__law_bent => exact PySem.W.mg_of X G a__law_bent
    case k__law_bent => exact k__law_bent
    case t__law_bent => exact fun_mk (st := s__law_bent) l__law_bent c__law_bent k__law_bent
    case d__law_bent => exact (fun_mk (st := s__law_bent) l__law_bent c__law_bent k__law_bent).binds (ps := p__law_bent) (fun _ _ _ _ _ _ us hl => match us, hl with | [_, _], _ => rfl)
    case g__law_near => exact PySem.W.mg_of X G a__law_near
    case k__law_near => exact k__law_near
    case t__law_near => exact fun_mk (st := s__law_near) l__law_near c__law_near k__law_near
    case d__law_near => exact (fun_mk (st := s__law_near) l__law_near c__law_near k__law_near).binds (ps := p__law_near) (fun _ _ _ _ _ _ us hl => match us, hl with | [_], _ => rfl)
    case g__law_refused => exact PySem.W.mg_of X G a__law_refused
    case k__law_refused => exact k__law_refused
    case t__law_refused => exact fun_mk (st := s__law_refused) l__law_refused c__law_refused k__law_refused
    case d__law_refused => exact (fun_mk (st := s__law_refused) l__law_refused c__law_refused k__law_refused).binds (ps := p__law_refused) (fun _ _ _ _ _ _ us hl => match us, hl with | [_], _ => rfl)
    case g__law_right => exact PySem.W.mg_of X G a__law_right
    case k__law_right => exact k__law_right
    case t__law_right => exact fun_mk (st := s__law_right) l__law_right c__law_right k__law_right
    case d__law_right => exact (fun_mk (st := s__law_right) l__law_right c__law_right k__law_right).binds (ps := p__law_right) (fun _ _ _ _ _ _ us hl => match us, hl with | [_], _ => rfl)
    case g_law => exact PySem.W.mg_of X G a_law
    case k_law => exact k_law
    case t_law => exact fun_mk (st := s_law) l_law c_law k_law
    case d_law => exact (fun_mk (st := s_law) l_law c_law k_law).binds (ps := p_law) (fun _ _ _ _ _ _ us hl => match us, hl with | [_], _ => rfl)
    case g_FetchError => exact PySem.W.mg_of X G a_FetchError
    case k_FetchError => exact k_FetchError
    case u_FetchError => exact u_FetchError
    case y_FetchError => exact y_FetchError
    case x_FetchError => exact q_FetchError
    case g_InvalidRule => exact PySem.W.mg_of X G a_InvalidRule
    case k_InvalidRule => exact k_InvalidRule
    case u_InvalidRule => exact u_InvalidRule
    case y_InvalidRule => exact y_InvalidRule
    case x_InvalidRule => exact q_InvalidRule
    case m_FetchError => exact (fun k hk => match k, hk with | 0, _ => exm_ok u_FetchError i_FetchError y_FetchError r_FetchError_FetchError | 1, _ => exm_ok u_FetchError i_FetchError y_FetchError r_InvalidRule_FetchError | _ + 2, h => absurd h (by omega))
    case m_InvalidRule => exact (fun k hk => match k, hk with | 0, _ => exm_ok u_InvalidRule i_InvalidRule y_InvalidRule r_FetchError_InvalidRule | 1, _ => exm_ok u_InvalidRule i_InvalidRule y_InvalidRule r_InvalidRule_InvalidRule | _ + 2, h => absurd h (by omega))
    case e_MOST_EVENTS => exact fun hK hM hg => g_const (v := (.int 60)) (PySem.W.mg_of X G a_MOST_EVENTS) (rv_int 60) (fun C hC => (.int _)) nm_MOST_EVENTS hK hM hg
    case e_PART_NAMES => exact fun hK hM hg => g_const (v := (.ref y_PART_NAMES)) (PySem.W.mg_of X G a_PART_NAMES) (rv_ref y_PART_NAMES) (fun C hC => (rep_tup hC l_PART_NAMES (Nat.le_of_ble_eq_true (by rfl)) (.cons (rv_str t_words (by kernel_rfl)) (.cons (rv_str t_bars (by kernel_rfl)) (.cons (rv_str t_lag (by kernel_rfl)) (.cons (rv_str t_court (by kernel_rfl)) (.cons (rv_str t_once (by kernel_rfl)) (.cons (rv_str t_void (by kernel_rfl)) (.cons (rv_str t_paper (by kernel_rfl)) .nil))))))) (.cons (rep_str (s := t_words) (by decide +kernel)) (.cons (rep_str (s := t_bars) (by decide +kernel)) (.cons (rep_str (s := t_lag) (by decide +kernel)) (.cons (rep_str (s := t_court) (by decide +kernel)) (.cons (rep_str (s := t_once) (by decide +kernel)) (.cons (rep_str (s := t_void) (by decide +kernel)) (.cons (rep_str (s := t_paper) (by decide +kernel)) .nil))))))))) nm_PART_NAMES hK hM hg
    case e_VALUES => exact fun hK hM hg => g_const (v := (.ref y_VALUES)) (PySem.W.mg_of X G a_VALUES) (rv_ref y_VALUES) (fun C hC => (rep_tup hC l_VALUES (Nat.le_of_ble_eq_true (by rfl)) (.cons (rv_ref y_VALUES_0) (.cons (rv_ref y_VALUES_1) (.cons (rv_ref y_VALUES_2) (.cons (rv_ref y_VALUES_3) (.cons (rv_ref y_VALUES_4) (.cons (rv_ref y_VALUES_5) (.cons (rv_ref y_VALUES_6) .nil))))))) (.cons (rep_tup hC l_VALUES_0 (Nat.le_of_ble_eq_true (by rfl)) (.cons (rv_str t_both (by kernel_rfl)) (.cons (rv_str t_either (by kernel_rfl)) (.cons (rv_str t_last (by kernel_rfl)) .nil))) (.cons (rep_str (s := t_both) (by decide +kernel)) (.cons (rep_str (s := t_either) (by decide +kernel)) (.cons (rep_str (s := t_last) (by decide +kernel)) .nil)))) (.cons (rep_tup hC l_VALUES_1 (Nat.le_of_ble_eq_true (by rfl)) (.cons (rv_str t_own (by kernel_rfl)) (.cons (rv_str t_win (by kernel_rfl)) .nil)) (.cons (rep_str (s := t_own) (by decide +kernel)) (.cons (rep_str (s := t_win) (by decide +kernel)) .nil))) (.cons (rep_tup hC l_VALUES_2 (Nat.le_of_ble_eq_true (by rfl)) (.cons (rv_str t_morning (by kernel_rfl)) (.cons (rv_str t_now (by kernel_rfl)) .nil)) (.cons (rep_str (s := t_morning) (by decide +kernel)) (.cons (rep_str (s := t_now) (by decide +kernel)) .nil))) (.cons (rep_tup hC l_VALUES_3 (Nat.le_of_ble_eq_true (by rfl)) (.cons (rv_str t_morning (by kernel_rfl)) (.cons (rv_str t_now (by kernel_rfl)) .nil)) (.cons (rep_str (s := t_morning) (by decide +kernel)) (.cons (rep_str (s := t_now) (by decide +kernel)) .nil))) (.cons (rep_tup hC l_VALUES_4 (Nat.le_of_ble_eq_true (by rfl)) (.cons (rv_str t_day (by kernel_rfl)) (.cons (rv_str t_use (by kernel_rfl)) .nil)) (.cons (rep_str (s := t_day) (by decide +kernel)) (.cons (rep_str (s := t_use) (by decide +kernel)) .nil))) (.cons (rep_tup hC l_VALUES_5 (Nat.le_of_ble_eq_true (by rfl)) (.cons (rv_bl false) (.cons (rv_bl true) .nil)) (.cons (.bl _) (.cons (.bl _) .nil))) (.cons (rep_tup hC l_VALUES_6 (Nat.le_of_ble_eq_true (by rfl)) (.cons (rv_bl false) (.cons (rv_bl true) .nil)) (.cons (.bl _) (.cons (.bl _) .nil))) .nil))))))))) nm_VALUES hK hM hg
    case e_WORDS => exact fun hK hM hg => g_const (v := (.ref y_WORDS)) (PySem.W.mg_of X G a_WORDS) (rv_ref y_WORDS) (fun C hC => (rep_tup hC l_WORDS (Nat.le_of_ble_eq_true (by rfl)) (.cons (rv_str t_always (by kernel_rfl)) (.cons (rv_str t_bar (by kernel_rfl)) (.cons (rv_str t_no (by kernel_rfl)) (.cons (rv_str t_once (by kernel_rfl)) .nil)))) (.cons (rep_str (s := t_always) (by decide +kernel)) (.cons (rep_str (s := t_bar) (by decide +kernel)) (.cons (rep_str (s := t_no) (by decide +kernel)) (.cons (rep_str (s := t_once) (by decide +kernel)) .nil)))))) nm_WORDS hK hM hg
    case b_all => exact PySem.W.mg_none_of X G b_all
    case b_any => exact PySem.W.mg_none_of X G b_any
    case b_bool => exact PySem.W.mg_none_of X G b_bool
    case b_enumerate => exact PySem.W.mg_none_of X G b_enumerate
    case b_int => exact PySem.W.mg_none_of X G b_int
    case b_isinstance => exact PySem.W.mg_none_of X G b_isinstance
    case b_len => exact PySem.W.mg_none_of X G b_len
    case b_list => exact PySem.W.mg_none_of X G b_list
    case b_range => exact PySem.W.mg_none_of X G b_range
    case b_sorted => exact PySem.W.mg_none_of X G b_sorted
    case b_str => exact PySem.W.mg_none_of X G b_str
    case b_tuple => exact PySem.W.mg_none_of X G b_tuple
    case b_zip => exact PySem.W.mg_none_of X G b_zip
  exact ⟨_, fun s v => .of_eq rfl, fun base _ _ => law_imp hk (ok_law T)⟩
end K01
end WF

set_option Elab.async false
set_option linter.all false
open PySem PySem.W PyProof.Rows
set_option maxRecDepth 100000 in
set_option maxHeartbeats 0 in
theorem PySem.Challenge.cw_whofetches_k01_rules_and_rows_known_holds : PySem.Challenge.rw_whofetches_k01_rules_and_rows_known.Holds := by
  w_on; o_law; k_head; (case hw => w_witness2)
  k_fill
  refine L2.walk_of (l := PySem.Challenge.rw_whofetches_k01_rules_and_rows_known) (n := 63) (k := 17) (x := "script") (CX := fun w => L2.CX PySem.Challenge.rw_whofetches_k01_rules_and_rows_known.prog w) (sp := fun w => WF.spLaw _) rfl (by decide) rfl ⟨rfl, by decide, by decide⟩ (fun w h Y => PySem.W.kIn_of Y) ?F (fun _ _ a ns hl _ hS => ⟨a, ns, rfl, hS, hl, fun _ => rfl⟩) fun _ _ _ _ _ ⟨_, _, _, _, _, _, _, _, _, _, _, _, z⟩ => z
  case F =>
    intro w mg fa h KX G hmg
    refine' WF.K01.all_mk WF.K01.keeps KX G hmg ?a_is_same ?l_is_same ?c_is_same ?k_is_same ?a_is_rule ?l_is_rule ?c_is_rule ?k_is_rule ?a_is_number ?l_is_number ?c_is_number ?k_is_number ?a_is_word ?l_is_word ?c_is_word ?k_is_word ?a_is_event ?l_is_event ?c_is_event ?k_is_event ?a_are_events ?l_are_events ?c_are_events ?k_are_events ?a_need_rule ?l_need_rule ?c_need_rule ?k_need_rule ?a_rules_near ?l_rules_near ?c_rules_near ?k_rules_near ?a_is_row ?l_is_row ?c_is_row ?k_is_row ?a_near ?l_near ?c_near ?k_near ?a__law_pot ?l__law_pot ?c__law_pot ?k__law_pot ?a__law_lot ?l__law_lot ?c__law_lot ?k__law_lot ?a__law_pick ?l__law_pick ?c__law_pick ?k__law_pick ?a__law_values ?l__law_values ?c__law_values ?k__law_values ?a__law_rule ?l__law_rule ?c__law_rule ?k__law_rule ?a__law_words ?l__law_words ?c__law_words ?k__law_words ?a__law_event ?l__law_event ?c__law_event ?k__law_event ?a__law_row ?l__law_row ?c__law_row ?k__law_row ?a__law_is_rule ?l__law_is_rule ?c__law_is_rule ?k__law_is_rule ?a__law_is_event ?l__law_is_event ?c__law_is_event ?k__law_is_event ?a__law_is_row ?l__law_is_row ?c__law_is_row ?k__law_is_row ?a__law_odd ?l__law_odd ?c__law_odd ?k__law_odd ?a__law_bent ?l__law_bent ?c__law_bent ?k__law_bent ?a__law_near ?l__law_near ?c__law_near ?k__law_near ?a__law_refused ?l__law_refused ?c__law_refused ?k__law_refused ?a__law_right ?l__law_right ?c__law_right ?k__law_right ?a_law ?l_law ?c_law ?k_law ?a_FetchError ?k_FetchError ?u_FetchError ?y_FetchError ?q_FetchError ?a_InvalidRule ?k_InvalidRule ?u_InvalidRule ?y_InvalidRule ?q_InvalidRule ?i_FetchError ?r_FetchError_FetchError ?r_InvalidRule_FetchError ?i_InvalidRule ?r_FetchError_InvalidRule ?r_InvalidRule_InvalidRule ?a_MOST_EVENTS ?a_PART_NAMES ?l_PART_NAMES ?a_VALUES ?l_VALUES ?l_VALUES_0 ?l_VALUES_1 ?l_VALUES_2 ?l_VALUES_3 ?l_VALUES_4 ?l_VALUES_5 ?l_VALUES_6 ?a_WORDS ?l_WORDS ?b_all ?b_any ?b_bool ?b_enumerate ?b_int ?b_isinstance ?b_len ?b_list ?b_range ?b_sorted ?b_str ?b_tuple ?b_zip
    (case a_is_same => k_is)
    (case l_is_same => k_is)
    (case c_is_same => k_is)
    (case k_is_same => k_is)
    (case a_is_rule => k_is)
    (case l_is_rule => k_is)
    (case c_is_rule => k_is)
    (case k_is_rule => k_is)
    (case a_is_number => k_is)
    (case l_is_number => k_is)
    (case c_is_number => k_is)
    (case k_is_number => k_is)
    (case a_is_word => k_is)
    (case l_is_word => k_is)
    (case c_is_word => k_is)
    (case k_is_word => k_is)
    (case a_is_event => k_is)
    (case l_is_event => k_is)
    (case c_is_event => k_is)
    (case k_is_event => k_is)
    (case a_are_events => k_is)
    (case l_are_events => k_is)
    (case c_are_events => k_is)
    (case k_are_events => k_is)
    (case a_need_rule => k_is)
    (case l_need_rule => k_is)
    (case c_need_rule => k_is)
    (case k_need_rule => k_is)
    (case a_rules_near => k_is)
    (case l_rules_near => k_is)
    (case c_rules_near => k_is)
    (case k_rules_near => k_is)
    (case a_is_row => k_is)
    (case l_is_row => k_is)
    (case c_is_row => k_is)
    (case k_is_row => k_is)
    (case a_near => k_is)
    (case l_near => k_is)
    (case c_near => k_is)
    (case k_near => k_is)
    (case a__law_pot => k_is)
    (case l__law_pot => k_is)
    (case c__law_pot => k_is)
    (case k__law_pot => k_is)
    (case a__law_lot => k_is)
    (case l__law_lot => k_is)
    (case c__law_lot => k_is)
    (case k__law_lot => k_is)
    (case a__law_pick => k_is)
    (case l__law_pick => k_is)
    (case c__law_pick => k_is)
    (case k__law_pick => k_is)
    (case a__law_values => k_is)
    (case l__law_values => k_is)
    (case c__law_values => k_is)
    (case k__law_values => k_is)
    (case a__law_rule => k_is)
    (case l__law_rule => k_is)
    (case c__law_rule => k_is)
    (case k__law_rule => k_is)
    (case a__law_words => k_is)
    (case l__law_words => k_is)
    (case c__law_words => k_is)
    (case k__law_words => k_is)
    (case a__law_event => k_is)
    (case l__law_event => k_is)
    (case c__law_event => k_is)
    (case k__law_event => k_is)
    (case a__law_row => k_is)
    (case l__law_row => k_is)
    (case c__law_row => k_is)
    (case k__law_row => k_is)
    (case a__law_is_rule => k_is)
    (case l__law_is_rule => k_is)
    (case c__law_is_rule => k_is)
    (case k__law_is_rule => k_is)
    (case a__law_is_event => k_is)
    (case l__law_is_event => k_is)
    (case c__law_is_event => k_is)
    (case k__law_is_event => k_is)
    (case a__law_is_row => k_is)
    (case l__law_is_row => k_is)
    (case c__law_is_row => k_is)
    (case k__law_is_row => k_is)
    (case a__law_odd => k_is)
    (case l__law_odd => k_is)
    (case c__law_odd => k_is)
    (case k__law_odd => k_is)
    (case a__law_bent => k_is)
    (case l__law_bent => k_is)
    (case c__law_bent => k_is)
    (case k__law_bent => k_is)
    (case a__law_near => k_is)
    (case l__law_near => k_is)
    (case c__law_near => k_is)
    (case k__law_near => k_is)
    (case a__law_refused => k_is)
    (case l__law_refused => k_is)
    (case c__law_refused => k_is)
    (case k__law_refused => k_is)
    (case a__law_right => k_is)
    (case l__law_right => k_is)
    (case c__law_right => k_is)
    (case k__law_right => k_is)
    (case a_law => k_is)
    (case l_law => k_is)
    (case c_law => k_is)
    (case k_law => k_is)
    (case a_FetchError => k_is)
    (case k_FetchError => k_is)
    (case u_FetchError => k_is)
    (case y_FetchError => k_is)
    (case q_FetchError => kernel_rfl)
    (case a_InvalidRule => k_is)
    (case k_InvalidRule => k_is)
    (case u_InvalidRule => k_is)
    (case y_InvalidRule => k_is)
    (case q_InvalidRule => kernel_rfl)
    (case i_FetchError => k_is)
    (case r_FetchError_FetchError => k_is)
    (case r_InvalidRule_FetchError => k_is)
    (case i_InvalidRule => k_is)
    (case r_FetchError_InvalidRule => k_is)
    (case r_InvalidRule_InvalidRule => k_is)
    (case a_MOST_EVENTS => k_is)
    (case a_PART_NAMES => k_is)
    (case l_PART_NAMES => k_is)
    (case a_VALUES => k_is)
    (case l_VALUES => k_is)
    (case l_VALUES_0 => k_is)
    (case l_VALUES_1 => k_is)
    (case l_VALUES_2 => k_is)
    (case l_VALUES_3 => k_is)
    (case l_VALUES_4 => k_is)
    (case l_VALUES_5 => k_is)
    (case l_VALUES_6 => k_is)
    (case a_WORDS => k_is)
    (case l_WORDS => k_is)
    (case b_all => k_is)
    (case b_any => k_is)
    (case b_bool => k_is)
    (case b_enumerate => k_is)
    (case b_int => k_is)
    (case b_isinstance => k_is)
    (case b_len => k_is)
    (case b_list => k_is)
    (case b_range => k_is)
    (case b_sorted => k_is)
    (case b_str => k_is)
    (case b_tuple => k_is)
    (case b_zip => k_is)
