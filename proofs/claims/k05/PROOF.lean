import PyProof.Rows.All
import Wide.All
import OpenK.AllK
import Wide.FinOn
import HandS.ForMost
import HandS.ForExc
import HandS.TryMany
import HandS.Deep
import HandS.Conv
import HandS.Flow
import HandS.ExcInit
import KE.KDictKeyed
import KE.KeyNested
import HandS.TupAny
import HandS.TupMul
import HandS.Style
import HandS.IsInst
import HandS.Strs
import HandS.Zip
import HandS.More
import KE.GoesEnum
import HandS.Codes
import HandS.SortRule
import KE.SortData
import KE.KDictZip
import KE.KDictDisplayH
import HandS.ForSpec
import PySem.Challenge.RW_whofetches_k05_who_can_alone
set_option linter.all false
/-! WFA: pure data, owned objects, the monad of the mirror functions, one combinator for each construct. Core Lean alone. -/
namespace WF
abbrev Txt := List Nat

/-- pure data; dic true: the keys are tuples, dic false: texts -/
inductive D where
  | non | bl (b : Bool) | int (i : Int) | str (s : Txt) | tup (xs : List D) | lst (xs : List D) | dic (t : Bool) (kvs : List (D × D))
deriving Inhabited

/-- the longest list, tuple, text -/
abbrev LIM : Nat := 16777216

mutual
/-- Python's == -/
def D.eqv : D → D → Bool
  | .non, .non => true
  | .bl a, .bl b => a == b
  | .bl a, .int j => (if a then 1 else 0) == j
  | .int i, .bl b => i == (if b then 1 else 0)
  | .int i, .int j => i == j
  | .str x, .str y => x == y
  | .tup xs, .tup ys => D.eqvs xs ys
  | .lst xs, .lst ys => D.eqvs xs ys
  | _, _ => false
def D.eqvs : List D → List D → Bool
  | [], [] => true
  | x :: xs, y :: ys => D.eqv x y && D.eqvs xs ys
  | _, _ => false
end
mutual
/-- how deep it is nested; a dict is too deep for == -/
def D.dep : D → Nat
  | .tup xs => D.deps xs + 1
  | .lst xs => D.deps xs + 1
  | .dic _ _ => 1000
  | _ => 0
def D.deps : List D → Nat
  | [] => 0
  | x :: xs => max (D.dep x) (D.deps xs)
end
def D.flat : D → Bool
  | .non => true | .bl _ => true | .int _ => true | .str _ => true | _ => false

/-- what only one name holds -/
inductive O where
  | lst (xs : List D) | dic (t : Bool) (kvs : List (D × D)) | ins (c : Nat) (fs : List (Txt × D))
deriving Inhabited
def O.toD : O → Option D
  | .lst xs => some (.lst xs)
  | .dic t kvs => some (.dic t kvs)
  | .ins _ _ => none
/-- a name's binding: shared data; its own object; a caller's object, lent -/
inductive SB where
  | sh (d : D) | ow (o : O) | io (o : O)
deriving Inhabited
def SB.toD : SB → Option D
  | .sh d => some d
  | .ow o => o.toD
  | .io o => o.toD
def SB.obj : SB → Option O
  | .sh _ => none
  | .ow o => some o
  | .io o => some o
def SB.put : SB → O → SB
  | .sh d, _ => .sh d
  | .ow _, o => .ow o
  | .io _, o => .io o
/-- what an expression gives: data; a new object; the object of the name at a place; a new tuple with objects in it -/
inductive B where
  | sh (d : D) | ow (o : O) | pl (i : Nat) | tp (bs : List SB)
deriving Inhabited

abbrev Env := List (Option SB)
def Env.at (ρ : Env) (i : Nat) : Option SB := ρ.getD i none

/-- an error: its class, its attribute -/
inductive Res (α : Type) where
  | ok (a : α) | exc (c : Nat) (p : Option (Txt × D))
abbrev M (α : Type) := Env → Option (Res α × Env)
def ret {α : Type} (a : α) : M α := fun ρ => some (.ok a, ρ)
def stuck {α : Type} : M α := fun _ => none
def bind {α β : Type} (m : M α) (k : α → M β) : M β := fun ρ =>
  match m ρ with
  | none => none
  | some (.exc c p, ρ1) => some (.exc c p, ρ1)
  | some (.ok a, ρ1) => k a ρ1
def lift {α : Type} (o : Option α) : M α := fun ρ => match o with | none => none | some a => some (.ok a, ρ)
instance : Monad M where
  pure := ret
  bind := bind

def sbsD : List SB → Option (List D)
  | [] => some []
  | b :: r => match b.toD, sbsD r with | some d, some ds => some (d :: ds) | _, _ => none
/-- the data that it is, as things stand -/
def B.dat (ρ : Env) : B → Option D
  | .sh d => some d
  | .ow o => o.toD
  | .pl i => match ρ.at i with | some b => b.toD | none => none
  | .tp bs => match sbsD bs with | some ds => some (.tup ds) | none => none
def dat (b : B) : M D := fun ρ => match b.dat ρ with | none => none | some d => some (.ok d, ρ)

/-! ### names, constants -/
def mK (d : D) : M B := ret (.sh d)
/-- a name, as a value: its object is shared from now on -/
def mV (i : Nat) : M B := fun ρ => match ρ.at i with
  | some (.sh d) => some (.ok (.sh d), ρ)
  | some (.ow o) => match o.toD with | some d => some (.ok (.sh d), ρ.set i (some (.sh d))) | none => none
  | _ => none
/-- a name, looked at -/
def mP (i : Nat) : M B := fun ρ => match ρ.at i with
  | some (.sh d) => some (.ok (.sh d), ρ)
  | some (.ow _) => some (.ok (.pl i), ρ)
  | some (.io _) => some (.ok (.pl i), ρ)
  | none => none

/-! ### operators by values -/
def iAdd (x y : D) : Option B := match x, y with
  | .int a, .int b => some (.sh (.int (a + b)))
  | .str a, .str b => if a.length + b.length ≤ LIM then some (.sh (.str (a ++ b))) else none
  | .tup a, .tup b => if a.length + b.length ≤ LIM then some (.sh (.tup (a ++ b))) else none
  | .lst a, .lst b => if a.length + b.length ≤ LIM then some (.ow (.lst (a ++ b))) else none
  | _, _ => none
def iSub (x y : D) : Option B := match x, y with
  | .int a, .int b => some (.sh (.int (a - b)))
  | _, _ => none
def smallI (a : Int) : Bool := decide (-(2 ^ 64) < a) && decide (a < 2 ^ 64)
def repL {α : Type} (xs : List α) (n : Nat) : List α := (List.replicate n xs).flatten
def iMul (x y : D) : Option B := match x, y with
  | .int a, .int b => if smallI a || smallI b then some (.sh (.int (a * b))) else none
  | .lst a, .int n => if decide (0 ≤ n) && decide (n ≤ 1000) && decide (a.length ≤ 1000) then some (.ow (.lst (repL a n.toNat))) else none
  | .tup a, .int n => if decide (2 ≤ n) && decide (n ≤ 1000) && decide (a.length ≤ 1000) && !a.isEmpty then some (.sh (.tup (repL a n.toNat))) else none
  | _, _ => none
def iFdiv (x y : D) : Option B := match x, y with
  | .int a, .int b => if decide (0 < b) && decide (b < 1073741824) then some (.sh (.int (a / b))) else none
  | _, _ => none
def iMod (x y : D) : Option B := match x, y with
  | .int a, .int b => if decide (0 < b) then some (.sh (.int (a % b))) else none
  | _, _ => none
def iPow (x y : D) : Option B := match x, y with
  | .int a, .int b => if decide (0 ≤ b) && decide (b ≤ 100) && smallI a then some (.sh (.int (a ^ b.toNat))) else none
  | _, _ => none
def mOp (f : D → D → Option B) (a b : M B) : M B := bind a fun x => bind b fun y => bind (dat x) fun d => bind (dat y) fun e => lift (f d e)
def mAdd := mOp iAdd
def mSub := mOp iSub
def mMul := mOp iMul
def mFdiv := mOp iFdiv
def mMod := mOp iMod
def mPow := mOp iPow
def iNeg (x : D) : Option B := match x with | .int a => some (.sh (.int (-a))) | _ => none
def mNeg (a : M B) : M B := bind a fun x => bind (dat x) fun d => lift (iNeg d)

/-! ### comparisons -/
def boo (b : Bool) : B := .sh (.bl b)
def iEq (x y : D) : Option B := if x.dep ≤ 60 && y.dep ≤ 60 then some (boo (D.eqv x y)) else none
def iNe (x y : D) : Option B := if x.dep ≤ 60 && y.dep ≤ 60 then some (boo (!D.eqv x y)) else none
def iLt (x y : D) : Option B := match x, y with | .int a, .int b => some (boo (decide (a < b))) | _, _ => none
def iLe (x y : D) : Option B := match x, y with | .int a, .int b => some (boo (decide (a ≤ b))) | _, _ => none
def iGt (x y : D) : Option B := match x, y with | .int a, .int b => some (boo (decide (b < a))) | _, _ => none
def iGe (x y : D) : Option B := match x, y with | .int a, .int b => some (boo (decide (b ≤ a))) | _, _ => none
def memD (x : D) (ys : List D) : Bool := ys.any fun y => D.eqv y x
def lookD (kvs : List (D × D)) (k : D) : Option D := (kvs.find? fun p => D.eqv p.1 k).map (·.2)
mutual
/-- keys: texts; nested tuples of texts, bools, ints, None -/
def D.key : D → Bool
  | .non => true | .bl _ => true | .int _ => true | .str _ => true
  | .tup xs => D.keys xs
  | _ => false
def D.keys : List D → Bool
  | [] => true
  | x :: xs => D.key x && D.keys xs
end
def keyT (x : D) : Bool := match x with | .tup xs => D.keys xs && decide (D.dep x ≤ 8) | _ => false
def keyS (x : D) : Bool := match x with | .str _ => true | _ => false
def keyOf (t : Bool) (x : D) : Bool := if t then keyT x else keyS x
def isIn (x y : D) : Option Bool := match y with
  | .tup ys => if x.dep ≤ 60 && D.deps ys ≤ 60 then some (memD x ys) else none
  | .lst ys => if x.dep ≤ 60 && D.deps ys ≤ 60 then some (memD x ys) else none
  | .dic t kvs => if keyOf t x then some (lookD kvs x).isSome else none
  | _ => none
def iIn (x y : D) : Option B := (isIn x y).map fun b => boo b
def iNin (x y : D) : Option B := (isIn x y).map fun b => boo (!b)
def mEq := mOp iEq
def mNe := mOp iNe
def mLt := mOp iLt
def mLe := mOp iLe
def mGt := mOp iGt
def mGe := mOp iGe
def mIn := mOp iIn
def mNin := mOp iNin
def D.isNon : D → Bool | .non => true | _ => false
/-- is None -/
def mIsN (a : M B) : M B := bind a fun x => bind (dat x) fun d => ret (boo d.isNon)
def mNotN (a : M B) : M B := bind a fun x => bind (dat x) fun d => ret (boo (!d.isNon))
/-- a <= b <= c, of ints -/
def mLeLe (a b c : M B) : M B := bind a fun x => bind b fun y => bind (dat x) fun d => bind (dat y) fun e => bind (lift (iLe d e)) fun r =>
  match r with
  | .sh (.bl true) => bind c fun z => bind (dat z) fun g => lift (iLe e g)
  | .sh (.bl false) => ret (boo false)
  | _ => stuck

/-! ### truth, tests -/
def D.tru : D → Option Bool
  | .non => some false
  | .bl b => some b
  | .int i => some (i != 0)
  | .str s => some (!s.isEmpty)
  | .tup xs => some (!xs.isEmpty)
  | .lst xs => some (!xs.isEmpty)
  | .dic _ _ => none
/-- a test: an expression's truth -/
def tV (a : M B) : M Bool := bind a fun x => bind (dat x) fun d => lift d.tru
def tAnd (a b : M Bool) : M Bool := bind a fun c => if c then b else ret false
def tOr (a b : M Bool) : M Bool := bind a fun c => if c then ret true else b
def tNot (a : M Bool) : M Bool := bind a fun c => ret (!c)
def D.boolV : D → Option Bool | .bl b => some b | _ => none
/-- as values, of bools -/
def mAnd (a b : M B) : M B := bind a fun x => bind (dat x) fun d => bind (lift d.boolV) fun c => if c then b else ret (boo false)
def mOr (a b : M B) : M B := bind a fun x => bind (dat x) fun d => bind (lift d.boolV) fun c => if c then ret (boo true) else b
def mNot (a : M B) : M B := bind a fun x => bind (dat x) fun d => bind (lift d.boolV) fun c => ret (boo (!c))
def mIf (t : M Bool) (a b : M B) : M B := bind t fun c => if c then a else b

/-! ### displays -/
def mNil : M (List B) := ret []
def mCons (a : M B) (r : M (List B)) : M (List B) := bind a fun x => bind r fun xs => ret (x :: xs)
def datsL (ρ : Env) : List B → Option (List D)
  | [] => some []
  | b :: r => match b.dat ρ, datsL ρ r with | some d, some ds => some (d :: ds) | _, _ => none
def dats (bs : List B) : M (List D) := fun ρ => match datsL ρ bs with | none => none | some ds => some (.ok ds, ρ)
def noPl : B → Bool | .pl _ => false | _ => true
/-- what is kept: no name's own object -/
def kept (bs : List B) : M (List D) := if bs.all noPl then dats bs else stuck
def few (bs : List B) : Bool := decide (bs.length ≤ 1000)
def mTup (es : M (List B)) : M B := bind es fun bs => if few bs then bind (kept bs) fun ds => ret (.sh (.tup ds)) else stuck
def mLst (es : M (List B)) : M B := bind es fun bs => if few bs then bind (kept bs) fun ds => ret (.ow (.lst ds)) else stuck
/-- {} and {k: v} -/
def mDic0 : M B := ret (.ow (.dic false []))
def mDic1 (k v : M B) : M B := bind k fun x => bind v fun y => bind (kept [x, y]) fun ds => match ds with
  | [d, e] => if keyT d then ret (.ow (.dic true [(d, e)])) else stuck
  | _ => stuck

/-! ### subscripts -/
def atI {α : Type} (xs : List α) (i : Int) : Option α :=
  if 0 ≤ i then xs[i.toNat]? else if 0 ≤ (xs.length : Int) + i then xs[((xs.length : Int) + i).toNat]? else none
def iIx (x y : D) : Option B := match x, y with
  | .tup xs, .int i => (atI xs i).map B.sh
  | .lst xs, .int i => (atI xs i).map B.sh
  | .str s, .int i => (atI s i).map fun c => B.sh (.str [c])
  | .dic t kvs, k => if keyOf t k then (lookD kvs k).map B.sh else none
  | _, _ => none
def ixB (b : B) (i : B) : M B := match b with
  | .tp bs => bind (dat i) fun e => match e with
    | .int j => (match atI bs j with | some (.sh d) => ret (.sh d) | some (.ow o) => ret (.ow o) | _ => stuck)
    | _ => stuck
  | _ => bind (dat b) fun d => bind (dat i) fun e => lift (iIx d e)
def mIx (a i : M B) : M B := bind a fun x => bind i fun y => ixB x y
/-- the places of a slice's ends -/
def clip (n : Nat) (i : Int) : Nat := if i < 0 then (i + (n : Int)).toNat else min i.toNat n
/-- the place of a slice's end that may be left out -/
def endI (n d : Nat) : Option Int → Nat
  | none => d
  | some i => clip n i
def cutL {α : Type} (xs : List α) (a b : Nat) : List α := (xs.drop a).take (b - a)
def iSl (x : D) (lo hi : Option Int) : Option B := match x with
  | .tup xs => some (.sh (.tup (cutL xs (endI xs.length 0 lo) (endI xs.length xs.length hi))))
  | .lst xs => some (.ow (.lst (cutL xs (endI xs.length 0 lo) (endI xs.length xs.length hi))))
  | .str xs => some (.sh (.str (cutL xs (endI xs.length 0 lo) (endI xs.length xs.length hi))))
  | _ => none
/-- an end that is left out, or an int -/
def mEnd : Option (M B) → M (Option Int)
  | none => ret none
  | some e => bind e fun x => bind (dat x) fun d => match d with | .int i => ret (some i) | _ => stuck
/-- x[lo:hi] -/
def mSl (a : M B) (lo hi : Option (M B)) : M B := bind a fun x => bind (mEnd lo) fun l => bind (mEnd hi) fun h => bind (dat x) fun d => lift (iSl d l h)
/-- x[::-1] -/
def iRev (x : D) : Option B := match x with
  | .tup xs => some (.sh (.tup xs.reverse))
  | .lst xs => some (.ow (.lst xs.reverse))
  | _ => none
def mRev (a : M B) : M B := bind a fun x => bind (dat x) fun d => lift (iRev d)

/-! ### built-in functions and methods, by values -/
def dLen (x : D) : Option Nat := match x with
  | .tup xs => some xs.length
  | .lst xs => some xs.length
  | .str s => some s.length
  | .dic _ kvs => some kvs.length
  | _ => none
def iLen (x : D) : Option B := (dLen x).map fun n => B.sh (.int n)
def iInt (x : D) : Option B := match x with
  | .int i => some (.sh (.int i))
  | .bl b => some (.sh (.int (if b then 1 else 0)))
  | _ => none
/-- the digits of a small number -/
def digs : Nat → Nat → Txt
  | 0, _ => []
  | f + 1, n => if n < 10 then [48 + n] else digs f (n / 10) ++ [48 + n % 10]
def iStr (x : D) : Option B := match x with
  | .int i => if decide (0 ≤ i) && decide (i < 1000) then some (.sh (.str (digs 4 i.toNat))) else none
  | .str s => some (.sh (.str s))
  | _ => none
def iList (x : D) : Option B := match x with
  | .tup xs => some (.ow (.lst xs))
  | .lst xs => some (.ow (.lst xs))
  | .dic false kvs => some (.ow (.lst (kvs.map (·.1))))
  | _ => none
def iTuple (x : D) : Option B := match x with
  | .tup xs => some (.sh (.tup xs))
  | .lst xs => some (.sh (.tup xs))
  | _ => none
def bools : List D → Option (List Bool)
  | [] => some []
  | .bl b :: r => (bools r).map fun bs => b :: bs
  | _ :: _ => none
def iAll (x : D) : Option B := match x with | .lst xs => (bools xs).map fun bs => boo (bs.all id) | _ => none
def iAny (x : D) : Option B := match x with | .lst xs => (bools xs).map fun bs => boo (bs.any id) | _ => none
def iMin (x y : D) : Option B := match x, y with | .int a, .int b => some (.sh (.int (if b < a then b else a))) | _, _ => none
/-- the built-in classes of isinstance -/
inductive Ty where | bool | int | str | tuple | list
deriving DecidableEq
def isA (x : D) (t : Ty) : Bool := match x, t with
  | .bl _, .bool => true
  | .bl _, .int => true
  | .int _, .int => true
  | .str _, .str => true
  | .tup _, .tuple => true
  | .lst _, .list => true
  | _, _ => false
def mUn (f : D → Option B) (a : M B) : M B := bind a fun x => bind (dat x) fun d => lift (f d)
def mLen := mUn iLen
def mInt := mUn iInt
def mStr := mUn iStr
def mTuple := mUn iTuple
def mAll := mUn iAll
def mAny := mUn iAny
def mMin := mOp iMin
def iIsA (t : Ty) (d : D) : Option B := match d with | .dic _ _ => none | _ => some (boo (isA d t))
def mIsA (t : Ty) := mUn (iIsA t)
def mList := mUn iList
mutual
/-- a datum as a row of signs, by which sorted compares -/
def D.toks : D → List (Int ⊕ Txt)
  | .non => []
  | .bl b => [.inl (if b = true then 1 else 0)]
  | .int i => [.inl i]
  | .str s => [.inr s]
  | .tup xs => D.toksL xs
  | .lst xs => D.toksL xs
  | .dic _ _ => []
def D.toksL : List D → List (Int ⊕ Txt)
  | [] => [.inl 0]
  | x :: xs => .inl 1 :: (D.toks x ++ D.toksL xs)
end
mutual
/-- of one kind, place by place -/
def D.like : D → D → Bool
  | .non, .non => true
  | .bl _, .bl _ => true
  | .int _, .int _ => true
  | .str _, .str _ => true
  | .tup xs, .tup ys => D.likeL xs ys
  | .lst xs, .lst ys => D.likeL xs ys
  | _, _ => false
def D.likeL : List D → List D → Bool
  | x :: xs, y :: ys => D.like x y && D.likeL xs ys
  | [], _ => true
  | _ :: _, [] => true
end
def tokLt : Int ⊕ Txt → Int ⊕ Txt → Bool
  | .inl a, .inl b => decide (a < b)
  | .inl _, .inr _ => true
  | .inr _, .inl _ => false
  | .inr a, .inr b => decide (a < b)
def lexD : List (Int ⊕ Txt) → List (Int ⊕ Txt) → Bool
  | [], [] => false
  | [], _ :: _ => true
  | _ :: _, [] => false
  | x :: r, y :: t => tokLt x y || (!tokLt y x && lexD r t)
def leD (x y : D) : Bool := !lexD y.toks x.toks
def isTupC : D → Bool | .tup (_ :: _) => true | _ => false
def isOther : D → Bool | .non => false | .tup _ => false | _ => true
def canSort (xs : List D) : Bool := (xs.all fun x => xs.all fun y => D.like x y) && (xs.all isTupC || xs.all isOther) && decide (D.deps xs ≤ 60)
def strL : List D → Option (List Txt)
  | [] => some []
  | .str s :: r => (strL r).map fun ss => s :: ss
  | _ :: _ => none
def leS (a b : Txt) : Bool := decide (a ≤ b)
def iSorted (x : D) : Option B := match x with
  | .lst xs => if canSort xs then some (.ow (.lst (xs.mergeSort leD))) else none
  | .dic false kvs => (match strL (kvs.map (·.1)) with
    | some ts => if ts.length < 64 then some (.ow (.lst ((ts.mergeSort leS).map D.str))) else none
    | none => none)
  | _ => none
def mSorted := mUn iSorted
def zipD : List D → List D → List D
  | x :: xs, y :: ys => .tup [x, y] :: zipD xs ys
  | _, _ => []
def dItems (x : D) : Option (List D) := match x with
  | .tup xs => some xs
  | .lst xs => some xs
  | _ => none
def putD (kvs : List (D × D)) (k v : D) : List (D × D) :=
  if (lookD kvs k).isSome then kvs.map fun p => if D.eqv p.1 k then (p.1, v) else p else kvs ++ [(k, v)]
def pairsD : List D → Option (List (D × D))
  | [] => some []
  | .tup [k, v] :: r => (pairsD r).map fun ps => (k, v) :: ps
  | _ :: _ => none
/-- dict(list of pairs), the keys texts -/
def iDict (x : D) : Option B := match x with
  | .lst xs => (match pairsD xs with
    | some ps => if ps.all fun p => keyS p.1 then some (.ow (.dic false (ps.foldl (fun a p => putD a p.1 p.2) []))) else none
    | none => none)
  | _ => none
def mDict := mUn iDict
/-- d.get(k, x) -/
def iGet (x k e : D) : Option B := match x with
  | .dic t kvs => if keyOf t k then some (.sh ((lookD kvs k).getD e)) else none
  | _ => none
def mGet (a b c : M B) : M B := bind a fun x => bind b fun y => bind c fun z => bind (dat x) fun d => bind (dat y) fun e => bind (dat z) fun g => lift (iGet d e g)
def joinT (sep : Txt) : List Txt → Txt
  | [] => []
  | [x] => x
  | x :: r => x ++ sep ++ joinT sep r
def iJoin (x y : D) : Option B := match x, y with
  | .str sep, .lst xs => (match strL xs with | some ss => if (joinT sep ss).length ≤ LIM then some (.sh (.str (joinT sep ss))) else none | none => none)
  | _, _ => none
def mJoin := mOp iJoin
/-- cut at each sign c -/
def splitT (c : Nat) : Txt → List Txt
  | [] => [[]]
  | a :: x => if a = c then [] :: splitT c x else match splitT c x with
    | [] => [[a]]
    | y :: r => (a :: y) :: r
def iSplit (x y : D) : Option B := match x, y with
  | .str s, .str [c] => if decide (s.length + 2 ≤ LIM) && decide (c < 256) then some (.ow (.lst ((splitT c s).map D.str))) else none
  | _, _ => none
def mSplit (a b : M B) : M B := bind a fun x => match x with
  | .sh (.str s) => bind b fun y => bind (dat y) fun e => lift (iSplit (.str s) e)
  | _ => stuck
def idxD (xs : List D) (x : D) : Option Nat := xs.findIdx? fun y => D.eqv y x
def iIndex (x y : D) : Option B := match x with
  | .tup xs => if D.deps xs ≤ 60 && y.dep ≤ 60 then (idxD xs y).map fun n => B.sh (.int n) else none
  | .lst xs => if D.deps xs ≤ 60 && y.dep ≤ 60 then (idxD xs y).map fun n => B.sh (.int n) else none
  | _ => none
def mIndex := mOp iIndex

/-! ### calls of defs -/
/-- a def: the bindings of its parameters in; what it gives, and the parameters' bindings behind it -/
abbrev Fn := List SB → Option (Res B × Env)
/-- how an argument is handed over -/
def handB (ρ : Env) : B → Option SB
  | .sh d => some (.sh d)
  | .ow (.ins c fs) => some (.io (.ins c fs))
  | .ow o => (o.toD).map SB.sh
  | .pl i => match ρ.at i with
    | some (.sh d) => some (.sh d)
    | some (.ow o) => some (.io o)
    | some (.io o) => some (.io o)
    | none => none
  | .tp bs => (sbsD bs).map fun ds => SB.sh (.tup ds)
def handL (ρ : Env) : List B → Option (List SB)
  | [] => some []
  | b :: r => match handB ρ b, handL ρ r with | some x, some xs => some (x :: xs) | _, _ => none
/-- the places that are lent -/
def lent : List B → List Nat
  | [] => []
  | .pl i :: r => i :: lent r
  | _ :: r => lent r
/-- what came back of a lent object -/
def backB (ρ : Env) (b : B) (out : Option SB) : Env := match b with
  | .pl i => (match ρ.at i, out with
    | some c, some (.io o) => ρ.set i (some (c.put o))
    | _, _ => ρ)
  | _ => ρ
def backL (ρ : Env) : List B → Env → Env
  | b :: r, o :: os => backL (backB ρ b o) r os
  | _, _ => ρ
def nodupN : List Nat → Bool
  | [] => true
  | a :: r => !(r.elem a) && nodupN r
def callF (f : Fn) (bs : List B) : M B := fun ρ =>
  if nodupN (lent bs) then
    match handL ρ bs with
    | none => none
    | some sbs => match f sbs with
      | none => none
      | some (r, outs) => some (r, backL ρ bs outs)
  else none
def mCall (f : Fn) (args : M (List B)) : M B := bind args fun bs => callF f bs

/-! ### comprehensions, loops: what is walked -/
def clr (ρ : Env) : List Nat → Env
  | [] => ρ
  | i :: is => (clr ρ is).set i none
/-- ρ1 with the bindings of ρ at some places -/
def back (ρ ρ1 : Env) : List Nat → Env
  | [] => ρ1
  | i :: is => (back ρ ρ1 is).set i (ρ.at i)
/-- a target's names -/
inductive Tg where | one (i : Nat) | tup (is : List Nat)
def Tg.slots : Tg → List Nat | .one i => [i] | .tup is => is
/-- a name may be bound anew: it is not lent -/
def putS (ρ : Env) (i : Nat) (b : SB) : Option Env :=
  if i < ρ.length then match ρ.at i with | some (.io _) => none | _ => some (ρ.set i (some b)) else none
def putSs (ρ : Env) : List Nat → List D → Option Env
  | [], [] => some ρ
  | i :: is, d :: ds => match putS ρ i (.sh d) with | some ρ1 => putSs ρ1 is ds | none => none
  | _, _ => none
def putTg (ρ : Env) (t : Tg) (d : D) : Option Env := match t with
  | .one i => putS ρ i (.sh d)
  | .tup is => (match d with | .tup ds => if is.length = ds.length then putSs ρ is ds else none | _ => none)
def items (e : M B) : M (List D) := bind e fun x => bind (kept [x]) fun ds => match ds with | [d] => lift (dItems d) | _ => stuck
def upto (n : Nat) : List D := (List.range n).map fun (i : Nat) => D.int i
def itRange (e : M B) : M (List D) := bind e fun x => bind (dat x) fun d => match d with
  | .int n => if decide (n < 2 ^ 62) && decide (-(2 ^ 62) ≤ n) then ret (upto n.toNat) else stuck
  | _ => stuck
def itRange2 (a b : M B) : M (List D) := bind a fun x => bind b fun y => bind (dat x) fun d => bind (dat y) fun e => match d, e with
  | .int l, .int n => if decide (n < 2 ^ 62) && decide (-(2 ^ 62) ≤ n) && decide (l < 2 ^ 62) && decide (-(2 ^ 62) ≤ l) then ret ((List.range (n - l).toNat).map fun (i : Nat) => D.int (l + i)) else stuck
  | _, _ => stuck
def iZip2 (d e : D) : Option (List D) := match d, e with
  | .tup xs, .tup ys => some (zipD xs ys)
  | .lst xs, .lst ys => some (zipD xs ys)
  | _, _ => none
def itZip (a b : M B) : M (List D) := bind a fun x => bind b fun y => bind (kept [x, y]) fun ds => match ds with
  | [d, e] => lift (iZip2 d e)
  | _ => stuck
def enumD (d : D) : Option (List D) := match dItems d with
  | some xs => some (zipD (upto xs.length) xs)
  | none => none
def itEnum (e : M B) : M (List D) := bind e fun x => bind (kept [x]) fun ds => match ds with | [d] => lift (enumD d) | _ => stuck
/-- one item of a comprehension -/
def compGo (t : Tg) (c : M Bool) (e : M B) : List D → List D → M (List D)
  | [], acc => ret acc
  | d :: ds, acc => fun ρ => match putTg (clr ρ t.slots) t d with
    | none => none
    | some ρ1 => bind c (fun k => if k then bind e fun x => bind (kept [x]) fun v => compGo t c e ds (acc ++ v) else compGo t c e ds acc) ρ1
def free (ρ : Env) (is : List Nat) : Bool := is.all fun i => match ρ.at i with | none => decide (i < ρ.length) | some (.sh _) => true | some _ => false
/-- an error that leaves a comprehension is not served -/
def noExc {α : Type} (m : M α) : M α := fun ρ => match m ρ with | some (.ok a, ρ1) => some (.ok a, ρ1) | _ => none
def mComp (t : Tg) (it : M (List D)) (c : M Bool) (e : M B) : M B := bind it fun ds => fun ρ =>
  if free ρ t.slots then
    match noExc (compGo t c e ds []) ρ with
    | some (.ok vs, ρ1) => if vs.length ≤ LIM then some (.ok (.ow (.lst vs)), back ρ ρ1 t.slots) else none
    | _ => none
  else none
def yes : M Bool := ret true

/-! ### statements -/
inductive Fl where | nx | rt (b : B) | bk | ct
abbrev S := M Fl
def sPass : S := ret .nx
def sBreak : S := ret .bk
def sCont : S := ret .ct
def sSeq (a b : S) : S := bind a fun f => match f with | .nx => b | _ => ret f
def sDrop (e : M B) : S := bind e fun _ => ret .nx
def bindS (i : Nat) (b : SB) : S := fun ρ => match putS ρ i b with | some ρ1 => some (.ok .nx, ρ1) | none => none
/-- what a name is bound to -/
def ownB (b : B) : M SB := match b with
  | .sh d => ret (.sh d)
  | .ow o => ret (.ow o)
  | .pl _ => stuck
  | .tp bs => lift ((sbsD bs).map fun ds => SB.sh (.tup ds))
def sSet (i : Nat) (e : M B) : S := bind e fun x => bind (ownB x) fun b => bindS i b
def ownBs : List B → M (List SB)
  | [] => ret []
  | b :: r => bind (ownB b) fun x => bind (ownBs r) fun xs => ret (x :: xs)
def bindSs : List Nat → List SB → S
  | [], [] => ret .nx
  | i :: is, b :: bs => sSeq (bindS i b) (bindSs is bs)
  | _, _ => stuck
/-- a, b = e1, e2 -/
def sPar (is : List Nat) (es : M (List B)) : S := bind es fun xs => bind (ownBs xs) fun bs => bindSs is bs
/-- a, b = e -/
def sUnp (is : List Nat) (e : M B) : S := bind e fun x => match x with
  | .tp bs => bindSs is bs
  | _ => bind (kept [x]) fun ds => match ds with
    | [.tup vs] => bindSs is (vs.map SB.sh)
    | _ => stuck
def setAt (o : O) (k v : D) : Option O := match o with
  | .lst xs => (match k with
    | .int j => if decide (0 ≤ j) && decide (j.toNat < xs.length) then some (.lst (xs.set j.toNat v)) else none
    | _ => none)
  | .dic false kvs => if kvs.length < LIM then
      (if keyOf false k then some (.dic false (putD kvs k v)) else none) else none
  | .dic true kvs => if kvs.length < LIM then
      (if keyOf true k then some (.dic true (putD kvs k v)) else none) else none
  | .ins _ _ => none
def putO (i : Nat) (f : O → Option O) : M Unit := fun ρ => match ρ.at i with
  | some c => (match c.obj with
    | some o => (match f o with | some o1 => some (.ok (), ρ.set i (some (c.put o1))) | none => none)
    | none => none)
  | none => none
/-- the object of a name -/
def mHas (i : Nat) : M O := fun ρ => match ρ.at i with
  | some c => (match c.obj with | some o => some (.ok o, ρ) | none => none)
  | none => none
/-- x[k] = e -/
def sIxSet (i : Nat) (k e : M B) : S := bind e fun v => bind (mHas i) fun _ => bind k fun x => bind (kept [v, x]) fun ds => match ds with
  | [d, q] => bind (putO i fun o => setAt o q d) fun _ => ret .nx
  | _ => stuck
def addAt (d : D) (o : O) : Option O := match o with
  | .lst xs => if xs.length < LIM then some (.lst (xs ++ [d])) else none
  | _ => none
def isLstO : O → Bool | .lst _ => true | _ => false
/-- x.append(e), x a name -/
def mApp (i : Nat) (e : M B) : M B := bind (mHas i) fun o => if isLstO o then bind e fun v => bind (kept [v]) fun vs => match vs with
  | [d] => bind (putO i (addAt d)) fun _ => ret (.sh .non)
  | _ => stuck else stuck
def sIf (t : M Bool) (a b : S) : S := bind t fun c => if c then a else b
def forGo (t : Tg) (body : S) : List D → S
  | [] => ret .nx
  | d :: ds => fun ρ => match putTg ρ t d with
    | none => none
    | some ρ1 => bind body (fun f => match f with
      | .nx => forGo t body ds
      | .ct => forGo t body ds
      | .bk => ret .nx
      | .rt b => ret (.rt b)) ρ1
def sFor (t : Tg) (it : M (List D)) (body : S) : S := bind it fun ds => forGo t body ds
def whGo (t : M Bool) (body : S) : Nat → S
  | 0 => stuck
  | n + 1 => bind t fun c => if c then bind body (fun f => match f with
      | .nx => whGo t body n
      | .ct => whGo t body n
      | .bk => ret .nx
      | .rt b => ret (.rt b)) else ret .nx
/-- more turns than any loop takes -/
def TURNS : Nat := 1000000000
def sWhile (t : M Bool) (body : S) : S := whGo t body TURNS
def sRet (e : M B) : S := bind e fun x => match x with
  | .pl _ => stuck
  | _ => ret (.rt x)
/-- return x: the name is given away -/
def mMv (i : Nat) : M B := fun ρ => match ρ.at i with
  | some (.sh d) => some (.ok (.sh d), ρ)
  | some (.ow o) => some (.ok (.ow o), ρ.set i none)
  | _ => none
/-- return (x, y): names of their own are given away -/
def sbB : B → Option SB
  | .sh d => some (.sh d)
  | .ow o => some (.ow o)
  | _ => none
def sbBs : List B → Option (List SB)
  | [] => some []
  | b :: r => match sbB b, sbBs r with | some x, some xs => some (x :: xs) | _, _ => none
def mTp (es : M (List B)) : M B := bind es fun bs => if few bs then bind (lift (sbBs bs)) fun sbs => ret (.tp sbs) else stuck
def sRaise (c : Nat) : S := fun ρ => some (.exc c none, ρ)
/-- a clause is taken by the error's class; a suite lets no error out -/
def tryGo (c : Nat) (p : Option (Txt × D)) : List ((Nat → Bool) × S) → S
  | [] => fun ρ => some (.exc c p, ρ)
  | (t, s) :: r => if t c then noExc s else tryGo c p r
def sTry (n : Nat) (body : S) (hs : List ((Nat → Bool) × S)) : S := fun ρ => match body ρ with
  | some (.exc c p, ρ1) => if c < n then tryGo c p hs ρ1 else none
  | some (.ok f, ρ1) => some (.ok f, ρ1)
  | none => none
/-- an error with an attribute -/
def sRaiseP (c : Nat) (f : Txt) (e : M B) : S := bind e fun x => bind (dat x) fun d => match d with
  | .int i => fun ρ => some (.exc c (some (f, .int i)), ρ)
  | _ => stuck
/-- what a caller sees of the parameters: lent objects -/
def outs (np : Nat) (ρ : Env) : Env := (List.range np).map fun i => match ρ.at i with | some (.io o) => some (.io o) | _ => none
/-- a def -/
def mkFn (np n : Nat) (body : S) : Fn := fun args =>
  if args.length = np then
    match body (args.map some ++ List.replicate (n - np) none) with
    | none => none
    | some (.ok (.rt b), ρ) => some (.ok b, outs np ρ)
    | some (.ok .nx, ρ) => some (.ok (.sh .non), outs np ρ)
    | some (.ok _, _) => none
    | some (.exc c p, ρ) => some (.exc c p, outs np ρ)
  else none
end WF

set_option linter.all false
/-! WFA2: more combinators (core Lean and WFA alone). -/
namespace WF
/-- e, its new object shared at once (the name is a comprehension's target later) -/
def mFz (m : M B) : M B := bind m fun x => bind (kept [x]) fun ds => match ds with
  | [d] => ret (.sh d)
  | _ => stuck
/-- list(zip(a, b)), of two tuples with two items each -/
def lzip2 (ds : List D) : Option B := match ds with
  | [.tup [a, b], .tup [c, d]] => some (.ow (.lst [.tup [a, c], .tup [b, d]]))
  | _ => none
def mLZip (a b : M B) : M B := bind a fun x => bind b fun y => bind (kept [x, y]) fun ds => lift (lzip2 ds)
/-- the keys of a new dict in hand, walked -/
def keysOf : B → Option (List D)
  | .ow (.dic true kvs) => some (kvs.map (·.1))
  | _ => none
def itKeys (e : M B) : M (List D) := bind e fun x => lift (keysOf x)
/-- x.get(k, e), x a name of a dict with text keys -/
def isDicS : O → Bool | .dic false _ => true | _ => false
def getS (o : O) (s : Txt) (e : D) : Option B := match o with
  | .dic false kvs => some (.sh ((lookD kvs (.str s)).getD e))
  | _ => none
def mGetN (i : Nat) (b c : M B) : M B := bind (mHas i) fun o => if isDicS o then bind b fun y => bind (dat y) fun k => match k with
  | .str s => bind c fun z => bind (kept [z]) fun ds => match ds with
    | [e] => bind (mHas i) fun o1 => lift (getS o1 s e)
    | _ => stuck
  | _ => stuck else stuck
end WF

set_option Elab.async false
set_option linter.all false
set_option maxRecDepth 100000
set_option maxHeartbeats 4000000
/-! WFB: how pure data stands for the abstract heap of the layer; states; readings. -/
namespace WF
open PySem PySem.Spec L2
/-- the slots' values -/
abbrev St := L2.St

/-- what stands fixed: program, world, the written part, the addresses of the text's classes -/
structure Cs where
  P : Program
  w : World
  K : PySem.W.Frag
  cl : Nat → Addr
abbrev cs (cl : Nat → Addr) (X : Cx) : Cs := ⟨X.prog, X.w, X.K, cl⟩

def mkS (t : Txt) : Str := ⟨t.toArray⟩
def okT (s : Txt) : Prop := (∀ c ∈ s, c < 0x110000) ∧ s.length ≤ LIM
theorem mkS_inj {a b : Txt} (h : mkS a = mkS b) : a = b := by
  have := congrArg (fun s : Str => s.cps.toList) h
  simpa [mkS] using this
theorem mkS_len (a : Txt) : (mkS a).length = a.length := by simp [mkS, Str.length]
theorem lim_eq : LIM = sizeLine := by rw [sizeLine_eq]

mutual
def nk : D → NestedKey
  | .bl b => .num (if b then 1 else 0)
  | .int i => .num i
  | .str s => .text (mkS s)
  | .tup xs => .tup (nks xs)
  | .non => .none
  | .lst _ => .none
  | .dic _ _ => .none
def nks : List D → List NestedKey
  | [] => []
  | x :: xs => nk x :: nks xs
end

/-- a dict with keys that are tuples, by its own object alone -/
def dkT (C : Cs) (a : Addr) (xs : List (NestedKey × Addr × V)) : HO := .ext fun h =>
  ∃ ys : List (NestedKey × Addr × Value), Paired (fun (p : NestedKey × Addr × V) (q : NestedKey × Addr × Value) => p.1 = q.1 ∧ p.2.1 = q.2.1 ∧ RelV p.2.2 q.2.2) xs ys ∧
    ∃ o es ep, h.get? a = some o ∧ o.ExactDict ∧ o.data = .dict es ep ∧ es.toList = ys.map (entryOfKey (nestedKind C.P C.w)) ∧ xs.length ≤ sizeLine ∧ (a == sysModules) = false ∧ (xs.map (·.1)).Nodup

mutual
/-- the value v is the data d, of frozen objects -/
inductive Rep (C : Cs) (F : Hp) : V → D → Prop
  | non : Rep C F .non .non
  | bl (b : Bool) : Rep C F (.bl b) (.bl b)
  | int (i : Int) : Rep C F (.int i) (.int i)
  | str (s : Txt) : okT s → Rep C F (.str (mkS s)) (.str s)
  | tup {a : Addr} {xs : List V} {ds : List D} : SqT C.K F a xs → Reps C F xs ds → Rep C F (.ref a) (.tup ds)
  | lst {a : Addr} {xs : List V} {ds : List D} : SqL C.K F a xs → Reps C F xs ds → Rep C F (.ref a) (.lst ds)
  | dicS {a : Addr} {xs : List (Key × V)} {kvs : List (D × D)} : F a = some (.dK xs) → RepS C F xs kvs → Rep C F (.ref a) (.dic false kvs)
  | dicT {a : Addr} {xs : List (NestedKey × Addr × V)} {kvs : List (D × D)} : F a = some (dkT C a xs) → RepT C F xs kvs → Rep C F (.ref a) (.dic true kvs)
inductive Reps (C : Cs) (F : Hp) : List V → List D → Prop
  | nil : Reps C F [] []
  | cons {v : V} {vs : List V} {d : D} {ds : List D} : Rep C F v d → Reps C F vs ds → Reps C F (v :: vs) (d :: ds)
inductive RepS (C : Cs) (F : Hp) : List (Key × V) → List (D × D) → Prop
  | nil : RepS C F [] []
  | cons {s : Txt} {v : V} {d : D} {xs : List (Key × V)} {kvs : List (D × D)} : okT s → Rep C F v d → RepS C F xs kvs → RepS C F ((Sum.inr (mkS s), v) :: xs) ((.str s, d) :: kvs)
inductive RepT (C : Cs) (F : Hp) : List (NestedKey × Addr × V) → List (D × D) → Prop
  | nil : RepT C F [] []
  | cons {ka : Addr} {k : D} {v : V} {d : D} {xs : List (NestedKey × Addr × V)} {kvs : List (D × D)} : keyT k = true → Rep C F (.ref ka) k → Rep C F v d → RepT C F xs kvs → RepT C F ((nk k, ka, v) :: xs) ((k, d) :: kvs)
end

/-- all of F stands in F' -/
def Sub (F F' : Hp) : Prop := ∀ a o, F a = some o → F' a = some o
theorem Sub.refl (F : Hp) : Sub F F := fun _ _ h => h
theorem Sub.trans {F F1 F2 : Hp} (a : Sub F F1) (b : Sub F1 F2) : Sub F F2 := fun x o h => b x o (a x o h)
theorem Sub.rd {F F' : Hp} (s : Sub F F') {a : Addr} {u : HO} (h : Rd F a u) : Rd F' a u := by
  rcases h with h | ⟨o, h⟩
  · exact .inl (s _ _ h)
  · exact .inr ⟨o, s _ _ h⟩
theorem Sub.sqL {K : PySem.W.Frag} {F F' : Hp} (s : Sub F F') {a : Addr} {xs : List V} (h : SqL K F a xs) : SqL K F' a xs := by
  rcases h with h | h
  · exact .inl (s.rd h)
  · exact .inr h
theorem Sub.sqT {K : PySem.W.Frag} {F F' : Hp} (s : Sub F F') {a : Addr} {xs : List V} (h : SqT K F a xs) : SqT K F' a xs := by
  rcases h with h | h
  · exact .inl (s.rd h)
  · exact .inr h
mutual
theorem Rep.mono {C : Cs} {F F' : Hp} (s : Sub F F') : ∀ {v : V} {d : D}, Rep C F v d → Rep C F' v d
  | _, _, .non => .non
  | _, _, .bl b => .bl b
  | _, _, .int i => .int i
  | _, _, .str t h => .str t h
  | _, _, .tup h r => .tup (s.sqT h) (Reps.mono s r)
  | _, _, .lst h r => .lst (s.sqL h) (Reps.mono s r)
  | _, _, .dicS h r => .dicS (s _ _ h) (RepS.mono s r)
  | _, _, .dicT h r => .dicT (s _ _ h) (RepT.mono s r)
theorem Reps.mono {C : Cs} {F F' : Hp} (s : Sub F F') : ∀ {v : List V} {d : List D}, Reps C F v d → Reps C F' v d
  | _, _, .nil => .nil
  | _, _, .cons h r => .cons (Rep.mono s h) (Reps.mono s r)
theorem RepS.mono {C : Cs} {F F' : Hp} (s : Sub F F') : ∀ {v : List (Key × V)} {d : List (D × D)}, RepS C F v d → RepS C F' v d
  | _, _, .nil => .nil
  | _, _, .cons t h r => .cons t (Rep.mono s h) (RepS.mono s r)
theorem RepT.mono {C : Cs} {F F' : Hp} (s : Sub F F') : ∀ {v : List (NestedKey × Addr × V)} {d : List (D × D)}, RepT C F v d → RepT C F' v d
  | _, _, .nil => .nil
  | _, _, .cons t k h r => .cons t (Rep.mono s k) (Rep.mono s h) (RepT.mono s r)
end
theorem Reps.length {C : Cs} {F : Hp} : ∀ {v : List V} {d : List D}, Reps C F v d → v.length = d.length
  | _, _, .nil => rfl
  | _, _, .cons _ r => by simp [Reps.length r]


/-- the attributes of an instance -/
abbrev RepF (C : Cs) (F : Hp) : List (Str × V) → List (Txt × D) → Prop := Paired fun (p : Str × V) (q : Txt × D) => p.1 = mkS q.1 ∧ Rep C F p.2 q.2
theorem RepF.mono {C : Cs} {F F' : Hp} (s : Sub F F') {xs : List (Str × V)} {fs : List (Txt × D)} (h : RepF C F xs fs) : RepF C F' xs fs := Paired.mapP h fun _ _ z => ⟨z.1, z.2.mono s⟩

/-- the object o at a, its parts frozen -/
inductive ROb (C : Cs) (F H : Hp) (a : Addr) : O → Prop
  | lst {xs : List V} {ds : List D} : H a = some (.lst xs) → Reps C F xs ds → ROb C F H a (.lst ds)
  | dicS {xs : List (Key × V)} {kvs : List (D × D)} : H a = some (.dK xs) → RepS C F xs kvs → ROb C F H a (.dic false kvs)
  | dicT {xs : List (NestedKey × Addr × V)} {kvs : List (D × D)} : H a = some (dkT C a xs) → RepT C F xs kvs → ROb C F H a (.dic true kvs)
  | ins {c : Nat} {dx : Addr} {xs : List (Str × V)} {fs : List (Txt × D)} : H a = some (.ins (C.cl c) dx xs) → RepF C F xs fs → ROb C F H a (.ins c fs)
theorem ROb.mono {C : Cs} {F F' H H' : Hp} {a : Addr} {o : O} (h : ROb C F H a o) (s : Sub F F') (k : ∀ o, H a = some o → H' a = some o) : ROb C F' H' a o := by
  cases h with
  | lst h r => exact .lst (k _ h) (r.mono s)
  | dicS h r => exact .dicS (k _ h) (r.mono s)
  | dicT h r => exact .dicT (k _ h) (r.mono s)
  | ins h r => exact .ins (k _ h) (RepF.mono s r)
theorem ROb.some {C : Cs} {F H : Hp} {a : Addr} {o : O} (h : ROb C F H a o) : ∃ u, H a = Option.some u := by
  cases h <;> exact ⟨_, by assumption⟩
/-- its data, seen in any heap in which it stands -/
theorem ROb.toD {C : Cs} {F H G : Hp} {a : Addr} {o : O} {d : D} (h : ROb C F H a o) (e : o.toD = Option.some d) (s : Sub F G) (k : ∀ o, H a = Option.some o → G a = Option.some o) : Rep C G (.ref a) d := by
  cases h with
  | lst h r => cases e; exact .lst (.inl (.inl (k _ h))) (r.mono s)
  | dicS h r => cases e; exact .dicS (k _ h) (r.mono s)
  | dicT h r => cases e; exact .dicT (k _ h) (r.mono s)
  | ins h r => cases e

/-- a binding's value -/
inductive RSB (C : Cs) (F H : Hp) : V → SB → Prop
  | sh {v : V} {d : D} : Rep C F v d → RSB C F H v (.sh d)
  | ow {a : Addr} {o : O} : ROb C F H a o → F a = none → RSB C F H (.ref a) (.ow o)
  | io {a : Addr} {o : O} : ROb C F H a o → F a = none → RSB C F H (.ref a) (.io o)

/-- a name's own object stands at a -/
def Owns (σ : St) (ρ : Env) (a : Addr) : Prop := ∃ i b, ρ.at i = some b ∧ b.obj.isSome = true ∧ σ[i]? = some (some (.ref a))

structure Stt (C : Cs) (F H : Hp) (σ : St) (ρ : Env) : Prop where
  sub : Sub F H
  len : ρ.length = σ.length
  sl : ∀ i b, ρ.at i = some b → ∃ v, σ[i]? = some (some v) ∧ RSB C F H v b
  dis : ∀ i j b c a, ρ.at i = some b → b.obj.isSome = true → ρ.at j = some c → c.obj.isSome = true → σ[i]? = some (some (.ref a)) → σ[j]? = some (some (.ref a)) → i = j

/-- from one state to a later one; A: the new objects in hand, that may be used up -/
structure Tr (A : List Addr) (σ : St) (F H : Hp) (ρ : Env) (σ' : St) (F' H' : Hp) (ρ' : Env) : Prop where
  sub : Sub F F'
  keep : ∀ a o, H a = some o → ¬ Owns σ ρ a → a ∉ A → H' a = some o
  nofz : ∀ a, H a ≠ none → ¬ Owns σ ρ a → a ∉ A → F a = none → F' a = none
  there : ∀ a, H a ≠ none → H' a ≠ none
  own : ∀ a, Owns σ' ρ' a → Owns σ ρ a ∨ a ∈ A ∨ H a = none
  io : ∀ i o, ρ.at i = some (.io o) → (∃ o', ρ'.at i = some (.io o')) ∧ σ'[i]? = σ[i]?
  oi : ∀ i o, ρ'.at i = some (.io o) → ∃ o', ρ.at i = some (.io o')
/-- not seen before -/
def New (A : List Addr) (σ : St) (H : Hp) (ρ : Env) (A' : List Addr) : Prop := ∀ a ∈ A', Owns σ ρ a ∨ a ∈ A ∨ H a = none

section
variable {C : Cs} {σ σ1 σ2 : St} {F H F1 H1 F2 H2 : Hp} {ρ ρ1 ρ2 : Env} {a : Addr} {o : O} {b : SB} {v : V} {A A0 A1 A' : List Addr}
theorem there_none (t : ∀ a, H a ≠ none → H1 a ≠ none) (q : H1 a = none) : H a = none := by
  cases e : H a with
  | none => rfl
  | some u => exact absurd q (t a (by rw [e]; simp))
theorem Tr.refl : Tr A σ F H ρ σ F H ρ := ⟨Sub.refl _, fun _ _ h _ _ => h, fun _ _ _ _ h => h, fun _ h => h, fun _ h => .inl h, fun _ o h => ⟨⟨o, h⟩, rfl⟩, fun _ o h => ⟨o, h⟩⟩
theorem Tr.hand (x : Tr A σ F H ρ σ1 F1 H1 ρ1) (h : ∀ a ∈ A, a ∈ A') : Tr A' σ F H ρ σ1 F1 H1 ρ1 :=
  ⟨x.sub, fun a o q n m => x.keep a o q n fun z => m (h a z), fun a q n m => x.nofz a q n fun z => m (h a z), x.there, fun a q => (x.own a q).imp id fun z => z.imp (h a) id, x.io, x.oi⟩
/-- what the first part brought (A1) may be used up by the second -/
theorem Tr.trans (x : Tr A0 σ F H ρ σ1 F1 H1 ρ1) (n : New A0 σ H ρ A1) (y : Tr (A0 ++ A1) σ1 F1 H1 ρ1 σ2 F2 H2 ρ2) : Tr A0 σ F H ρ σ2 F2 H2 ρ2 := by
  have no : ∀ a, H a ≠ none → ¬ Owns σ ρ a → a ∉ A0 → ¬ Owns σ1 ρ1 a ∧ a ∉ A0 ++ A1 := fun a h n1 m => by
    refine ⟨fun q => ?_, fun q => ?_⟩
    · rcases x.own a q with z | z | z
      · exact n1 z
      · exact m z
      · exact h z
    · rcases List.mem_append.mp q with z | z
      · exact m z
      · rcases n a z with z | z | z
        · exact n1 z
        · exact m z
        · exact h z
  refine ⟨x.sub.trans y.sub, fun a o h n1 m => ?_, fun a h n1 m f => ?_, fun a h => y.there a (x.there a h), fun a h => ?_, fun i o h => ?_, fun i o h => let ⟨o1, h1⟩ := y.oi i o h; x.oi i o1 h1⟩
  · have q := no a (by rw [h]; simp) n1 m
    exact y.keep a o (x.keep a o h n1 m) q.1 q.2
  · have q := no a h n1 m
    exact y.nofz a (x.there a h) q.1 q.2 (x.nofz a h n1 m f)
  · rcases y.own a h with q | q | q
    · exact x.own a q
    · rcases List.mem_append.mp q with z | z
      · exact .inr (.inl z)
      · exact n a z
    · exact .inr (.inr (there_none x.there q))
  · obtain ⟨⟨o1, h1⟩, e1⟩ := x.io i o h
    obtain ⟨h2, e2⟩ := y.io i o1 h1
    exact ⟨h2, e2.trans e1⟩
theorem Tr.trans0 (x : Tr A0 σ F H ρ σ1 F1 H1 ρ1) (y : Tr [] σ1 F1 H1 ρ1 σ2 F2 H2 ρ2) : Tr A0 σ F H ρ σ2 F2 H2 ρ2 :=
  x.trans (A1 := []) (fun _ h => nomatch h) (y.hand fun _ h => nomatch h)

theorem RSB.rep {d : D} (h : RSB C F H v b) (s : Sub F H) (e : b.toD = some d) : Rep C H v d := by
  cases h with
  | sh r => cases e; exact r.mono s
  | ow r f => exact r.toD e s fun _ h => h
  | io r f => exact r.toD e s fun _ h => h
theorem Stt.notF (S : Stt C F H σ ρ) (h : Owns σ ρ a) : F a = none := by
  obtain ⟨i, b, h1, h2, h3⟩ := h
  obtain ⟨v, e, r⟩ := S.sl i b h1
  rw [h3] at e
  cases e
  cases r with
  | sh r => cases h2
  | ow r f => exact f
  | io r f => exact f
theorem Stt.own_some (S : Stt C F H σ ρ) (h : Owns σ ρ a) : H a ≠ none := by
  obtain ⟨i, b, h1, h2, h3⟩ := h
  obtain ⟨v, e, r⟩ := S.sl i b h1
  rw [h3] at e
  cases e
  cases r with
  | sh r => cases h2
  | ow r f => obtain ⟨u, q⟩ := r.some; rw [q]; simp
  | io r f => obtain ⟨u, q⟩ := r.some; rw [q]; simp
end

/-- the items of a tuple that holds new objects; their addresses -/
inductive RTp (C : Cs) (F H : Hp) : List V → List SB → List Addr → Prop
  | nil : RTp C F H [] [] []
  | sh {v : V} {d : D} {vs : List V} {bs : List SB} {A : List Addr} : Rep C F v d → RTp C F H vs bs A → RTp C F H (v :: vs) (.sh d :: bs) A
  | ow {a : Addr} {o : O} {vs : List V} {bs : List SB} {A : List Addr} : ROb C F H a o → RTp C F H vs bs A → RTp C F H (.ref a :: vs) (.ow o :: bs) (a :: A)
/-- what an expression gives; the addresses of its new objects -/
inductive RB (C : Cs) (σ : St) (F H : Hp) : V → B → List Addr → Prop
  | sh {v : V} {d : D} : Rep C F v d → RB C σ F H v (.sh d) []
  | ow {a : Addr} {o : O} : ROb C F H a o → RB C σ F H (.ref a) (.ow o) [a]
  | pl {i : Nat} {v : V} : σ[i]? = some (some v) → RB C σ F H v (.pl i) []
  | tp {a : Addr} {xs : List V} {bs : List SB} {A : List Addr} : SqT C.K F a xs → RTp C F H xs bs A → RB C σ F H (.ref a) (.tp bs) A
/-- several -/
inductive RBs (C : Cs) (σ : St) (F H : Hp) : List V → List B → List Addr → Prop
  | nil : RBs C σ F H [] [] []
  | cons {v : V} {b : B} {vs : List V} {bs : List B} {A A' : List Addr} : RB C σ F H v b A → RBs C σ F H vs bs A' → RBs C σ F H (v :: vs) (b :: bs) (A ++ A')
/-- new objects, in nobody's hand -/
structure Fp (σ : St) (F H : Hp) (ρ : Env) (A : List Addr) : Prop where
  nd : A.Nodup
  nf : ∀ a ∈ A, F a = none
  no : ∀ a ∈ A, ¬ Owns σ ρ a
  th : ∀ a ∈ A, H a ≠ none
theorem Fp.nil {σ : St} {F H : Hp} {ρ : Env} : Fp σ F H ρ [] := ⟨List.nodup_nil, fun _ h => (nomatch h), fun _ h => (nomatch h), fun _ h => (nomatch h)⟩
theorem New.nil {A : List Addr} {σ : St} {H : Hp} {ρ : Env} : New A σ H ρ [] := fun _ h => nomatch h
section
variable {C : Cs} {σ σ1 σ' : St} {F H F1 H1 F' H' : Hp} {ρ ρ1 ρ' : Env} {a : Addr} {A A' A0 A1 : List Addr}
theorem Fp.tr (f : Fp σ F H ρ A) (t : Tr [] σ F H ρ σ' F' H' ρ') : Fp σ' F' H' ρ' A :=
  ⟨f.nd, fun a h => t.nofz a (f.th a h) (f.no a h) (fun z => nomatch z) (f.nf a h), fun a h q => by
    rcases t.own a q with z | z | z
    · exact f.no a h z
    · exact nomatch z
    · exact f.th a h z, fun a h => t.there a (f.th a h)⟩
theorem Fp.keep (f : Fp σ F H ρ A) (t : Tr [] σ F H ρ σ' F' H' ρ') (h : a ∈ A) : ∀ o, H a = some o → H' a = some o := fun o e => t.keep a o e (f.no a h) fun z => nomatch z
theorem Fp.left (f : Fp σ F H ρ (A ++ A')) : Fp σ F H ρ A := ⟨(List.nodup_append.mp f.nd).1, fun a h => f.nf a (List.mem_append_left _ h), fun a h => f.no a (List.mem_append_left _ h), fun a h => f.th a (List.mem_append_left _ h)⟩
theorem Fp.right (f : Fp σ F H ρ (A ++ A')) : Fp σ F H ρ A' := ⟨(List.nodup_append.mp f.nd).2.1, fun a h => f.nf a (List.mem_append_right _ h), fun a h => f.no a (List.mem_append_right _ h), fun a h => f.th a (List.mem_append_right _ h)⟩
/-- two, the second one made behind the first -/
theorem Fp.append (f : Fp σ F H ρ A) (t : Tr [] σ F H ρ σ' F' H' ρ') (g : Fp σ' F' H' ρ' A') (n : New [] σ H ρ A') : Fp σ' F' H' ρ' (A ++ A') := by
  have f' := f.tr t
  refine ⟨List.nodup_append.mpr ⟨f.nd, g.nd, fun a h b h' e => ?_⟩, fun a h => ?_, fun a h => ?_, fun a h => ?_⟩
  · subst e
    rcases n a h' with z | z | z
    · exact f.no a h z
    · exact nomatch z
    · exact f.th a h z
  · exact (List.mem_append.mp h).elim (f'.nf a) (g.nf a)
  · exact (List.mem_append.mp h).elim (f'.no a) (g.no a)
  · exact (List.mem_append.mp h).elim (f'.th a) (g.th a)
/-- .. as seen from ahead of the first -/
theorem New.append (n : New [] σ H ρ A) (t : Tr [] σ F H ρ σ1 F1 H1 ρ1) (m : New [] σ1 H1 ρ1 A') : New [] σ H ρ (A ++ A') := fun a h => by
  rcases List.mem_append.mp h with q | q
  · exact n a q
  · rcases m a q with z | z | z
    · exact t.own a z
    · exact nomatch z
    · exact .inr (.inr (there_none t.there z))
/-- behind two steps, the first of which left A1 in hand -/
theorem New.trans (t : Tr A0 σ F H ρ σ1 F1 H1 ρ1) (n : New A0 σ H ρ A1) (m : New (A0 ++ A1) σ1 H1 ρ1 A') : New A0 σ H ρ A' := fun a h => by
  rcases m a h with z | z | z
  · exact t.own a z
  · rcases List.mem_append.mp z with z | z
    · exact .inr (.inl z)
    · exact n a z
  · exact .inr (.inr (there_none t.there z))
theorem RTp.mono {xs : List V} {bs : List SB} (h : RTp C F H xs bs A) (s : Sub F F') (k : ∀ a ∈ A, ∀ o, H a = some o → H' a = some o) : RTp C F' H' xs bs A := by
  induction h with
  | nil => exact .nil
  | sh r t ih => exact .sh (r.mono s) (ih k)
  | ow r t ih => exact .ow (r.mono s (k _ List.mem_cons_self)) (ih fun a h => k a (List.mem_cons_of_mem _ h))
theorem RB.mono {v : V} {b : B} (h : RB C σ F H v b A) (s : Sub F F') (k : ∀ a ∈ A, ∀ o, H a = some o → H' a = some o) : RB C σ F' H' v b A := by
  cases h with
  | sh r => exact .sh (r.mono s)
  | ow r => exact .ow (r.mono s (k _ (by simp)))
  | pl e => exact .pl e
  | tp h r => exact .tp (s.sqT h) (r.mono s k)
theorem RBs.mono {vs : List V} {bs : List B} (h : RBs C σ F H vs bs A) (s : Sub F F') (k : ∀ a ∈ A, ∀ o, H a = some o → H' a = some o) : RBs C σ F' H' vs bs A := by
  induction h with
  | nil => exact .nil
  | cons r t ih => exact .cons (r.mono s fun a h => k a (List.mem_append_left _ h)) (ih fun a h => k a (List.mem_append_right _ h))
theorem RBs.length {vs : List V} {bs : List B} (h : RBs C σ F H vs bs A) : vs.length = bs.length := by
  induction h with
  | nil => rfl
  | cons r t ih => simp [ih]
end

/-! ### readings -/
/-- how a result α stands as β: rel C σ F H β α addresses -/
structure Rl (β α : Type) where
  rel : Cs → St → Hp → Hp → β → α → List Addr → Prop
abbrev RlB : Rl V B := ⟨fun C σ F H v b A => RB C σ F H v b A⟩
abbrev RlL : Rl (List V) (List B) := ⟨fun C σ F H v b A => RBs C σ F H v b A⟩
abbrev RlT : Rl Bool Bool := ⟨fun _ _ _ _ v b A => v = b ∧ A = []⟩
/-- an error that leaves: its class, its attribute -/
def REx (C : Cs) (F : Hp) (c : Nat) (p : Option (Txt × D)) (cls : Value) (d : Option Addr) (H : Hp) : Prop :=
  cls = .ref (C.cl c) ∧ match p with
    | none => d = none
    | some (f, x) => ∃ dx i, d = some dx ∧ x = .int i ∧ H dx = some (.xd [(mkS f, .int i)])
/-- what is wanted behind m, from the state F ρ, with the new objects A0 in hand -/
def tR {β α : Type} (C : Cs) (R : Rl β α) (W : WX) (A0 : List Addr) (F : Hp) (ρ : Env) (m : M α) : St → Hp → (β → Hp → Prop) → Prop := fun σ H Q => ∃ r ρ', m ρ = some (r, ρ') ∧
  match r with
  | .ok a => ∀ v A F' H', Tr A0 σ F H ρ σ F' H' ρ' → Stt C F' H' σ ρ' → R.rel C σ F' H' v a A → Fp σ F' H' ρ' A → New A0 σ H ρ A → Q v H'
  | .exc c p => ∀ cls d F' H', Tr A0 σ F H ρ σ F' H' ρ' → Stt C F' H' σ ρ' → REx C F' c p cls d H' → W cls d σ H'
def tM {β α : Type} (C : Cs) (R : Rl β α) (W : WX) (m : M α) : St → Hp → (β → Hp → Prop) → Prop := fun σ H Q => ∃ F ρ, Stt C F H σ ρ ∧ tR C R W [] F ρ m σ H Q
section
variable {C : Cs} {W : WX} {σ : St} {F H : Hp} {ρ : Env} {α β α1 β1 : Type} {R : Rl β α} {R1 : Rl β1 α1} {Q : β → Hp → Prop} {A0 : List Addr}
theorem tR_bind {m : M α1} {k : α1 → M α} (h : tR C R W A0 F ρ (bind m k) σ H Q) : tR C R1 W [] F ρ m σ H (fun v H1 => ∃ a A F1 ρ1, Tr [] σ F H ρ σ F1 H1 ρ1 ∧ Stt C F1 H1 σ ρ1 ∧ R1.rel C σ F1 H1 v a A ∧ Fp σ F1 H1 ρ1 A ∧ New [] σ H ρ A ∧
    tR C R W (A0 ++ A) F1 ρ1 (k a) σ H1 Q) := by
  obtain ⟨r, ρ', e, h⟩ := h
  have up : ∀ {A : List Addr}, New [] σ H ρ A → New A0 σ H ρ A := fun n a z => (n a z).imp id fun q => q.elim (fun q => nomatch q) .inr
  unfold bind at e
  split at e
  · cases e
  · rename_i c p ρ1 em
    cases e
    exact ⟨_, _, em, fun cls d F' H' T S x => h cls d F' H' (T.hand fun _ z => nomatch z) S x⟩
  · rename_i a ρ1 em
    refine ⟨_, _, em, fun v A F1 H1 T S rl fp nw => ⟨a, A, F1, ρ1, T, S, rl, fp, nw, r, ρ', e, ?_⟩⟩
    have T0 : Tr A0 σ F H ρ σ F1 H1 ρ1 := T.hand fun _ z => nomatch z
    cases r with
    | ok b => exact fun v' A' F' H' T' S' rl' fp' nw' => h v' A' F' H' (T0.trans (up nw) T') S' rl' fp' (New.trans T0 (up nw) nw')
    | exc c p => exact fun cls d F' H' T' S' x => h cls d F' H' (T0.trans (up nw) T') S' x
/-- a step that neither fails nor turns anything -/
theorem tR_step {m : M α1} {k : α1 → M α} (h : tR C R W A0 F ρ (bind m k) σ H Q) (p : ∀ r ρ', m ρ = some (r, ρ') → ρ' = ρ ∧ ∃ a, r = .ok a) : ∃ a, m ρ = some (.ok a, ρ) ∧ tR C R W A0 F ρ (k a) σ H Q := by
  obtain ⟨r, ρ', e, h⟩ := h
  unfold bind at e
  split at e
  · cases e
  · rename_i c q ρ1 em
    obtain ⟨_, a, z⟩ := p _ _ em
    cases z
  · rename_i a ρ1 em
    obtain ⟨z, _⟩ := p _ _ em
    subst z
    exact ⟨a, em, r, ρ', e, h⟩
theorem dat_pure {b : B} {r : Res D} {ρ' : Env} (h : dat b ρ = some (r, ρ')) : ρ' = ρ ∧ ∃ a, r = .ok a := by
  unfold dat at h
  split at h
  · cases h
  · cases h
    exact ⟨rfl, _, rfl⟩
theorem dats_pure {b : List B} {r : Res (List D)} {ρ' : Env} (h : dats b ρ = some (r, ρ')) : ρ' = ρ ∧ ∃ a, r = .ok a := by
  unfold dats at h
  split at h
  · cases h
  · cases h
    exact ⟨rfl, _, rfl⟩
theorem lift_pure {γ : Type} {o : Option γ} {r : Res γ} {ρ' : Env} (h : lift o ρ = some (r, ρ')) : ρ' = ρ ∧ ∃ a, r = .ok a := by
  unfold lift at h
  split at h
  · cases h
  · cases h
    exact ⟨rfl, _, rfl⟩
theorem tR_dat {b : B} {k : D → M α} (h : tR C R W A0 F ρ (bind (dat b) k) σ H Q) : ∃ d, b.dat ρ = some d ∧ tR C R W A0 F ρ (k d) σ H Q := by
  obtain ⟨a, e, h⟩ := tR_step h fun _ _ => dat_pure
  refine ⟨a, ?_, h⟩
  unfold dat at e
  split at e
  · cases e
  · cases e; assumption
theorem tR_lift {γ : Type} {o : Option γ} {k : γ → M α} (h : tR C R W A0 F ρ (bind (lift o) k) σ H Q) : ∃ d, o = some d ∧ tR C R W A0 F ρ (k d) σ H Q := by
  obtain ⟨a, e, h⟩ := tR_step h fun _ _ => lift_pure
  refine ⟨a, ?_, h⟩
  unfold lift at e
  split at e
  · cases e
  · cases e; rfl
/-- what is wanted of a value a, from here -/
abbrev Fin (C : Cs) (R : Rl β α) (A0 : List Addr) (F : Hp) (ρ : Env) (σ : St) (H : Hp) (Q : β → Hp → Prop) (a : α) : Prop :=
  ∀ v A F' H', Tr A0 σ F H ρ σ F' H' ρ → Stt C F' H' σ ρ → R.rel C σ F' H' v a A → Fp σ F' H' ρ A → New A0 σ H ρ A → Q v H'
/-- what is left is a value -/
theorem tR_end {o : Option α} (h : tR C R W A0 F ρ (lift o) σ H Q) : ∃ a, o = some a ∧ Fin C R A0 F ρ σ H Q a := by
  obtain ⟨r, ρ', e, h⟩ := h
  unfold lift at e
  split at e
  · cases e
  · cases e
    exact ⟨_, rfl, h⟩
theorem tR_ret {a : α} (h : tR C R W A0 F ρ (ret a) σ H Q) : Fin C R A0 F ρ σ H Q a := by
  obtain ⟨r, ρ', e, h⟩ := h
  unfold ret at e
  cases e
  exact h
/-- the same from a later state, with A1 in hand -/
theorem tR_from {m : M α} {F1 H1 : Hp} {A1 : List Addr} (T : Tr A0 σ F H ρ σ F1 H1 ρ) (n : New A0 σ H ρ A1) (h : tR C R W A0 F ρ m σ H Q) : tR C R W A1 F1 ρ m σ H1 Q := by
  obtain ⟨r, ρ', e, h⟩ := h
  refine ⟨r, ρ', e, ?_⟩
  have up : ∀ {x : Addr}, x ∈ A1 → x ∈ A0 ++ A1 := fun z => List.mem_append_right _ z
  cases r with
  | ok a => exact fun v A F' H' T' S rl fp nw => h v A F' H' (T.trans n (T'.hand fun _ => up)) S rl fp (New.trans T n fun x z => (nw x z).imp id fun q => q.imp up id)
  | exc c p => exact fun cls d F' H' T' S x => h cls d F' H' (T.trans n (T'.hand fun _ => up)) S x
theorem Fin.from_ {a : α} {F1 H1 : Hp} {A1 : List Addr} (h : Fin C R A0 F ρ σ H Q a) (T : Tr A0 σ F H ρ σ F1 H1 ρ) (n : New A0 σ H ρ A1) : Fin C R A1 F1 ρ σ H1 Q a := by
  have up : ∀ {x : Addr}, x ∈ A1 → x ∈ A0 ++ A1 := fun z => List.mem_append_right _ z
  exact fun v A F' H' T' S rl fp nw => h v A F' H' (T.trans n (T'.hand fun _ => up)) S rl fp (New.trans T n fun x z => (nw x z).imp id fun q => q.imp up id)
theorem tR_mono {m : M α} {Q' : β → Hp → Prop} (h : tR C R W A0 F ρ m σ H Q) (i : ∀ v H', Q v H' → Q' v H') : tR C R W A0 F ρ m σ H Q' := by
  obtain ⟨r, ρ', e, h⟩ := h
  refine ⟨r, ρ', e, ?_⟩
  cases r with
  | ok a => exact fun v A F' H' T' S rl fp nw => i _ _ (h v A F' H' T' S rl fp nw)
  | exc c p => exact h
theorem tR_stuck {P : Prop} (h : tR C R W A0 F ρ (stuck : M α) σ H Q) : P := by
  obtain ⟨r, ρ', e, h⟩ := h
  cases e
end

/-! ### what is data stands for it in the heap as it is -/
section
variable {C : Cs} {σ : St} {F H F' H' : Hp} {ρ ρ' : Env} {A : List Addr} {v : V} {b : B} {d : D}
theorem rtp_dat {xs : List V} {bs : List SB} {ds : List D} (h : RTp C F H xs bs A) (s : Sub F H) (e : sbsD bs = some ds) : Reps C H xs ds := by
  induction h generalizing ds with
  | nil => cases e; exact .nil
  | sh r t ih =>
    unfold sbsD at e
    split at e
    · rename_i e1 e2
      cases e1; cases e
      exact .cons (r.mono s) (ih e2)
    · cases e
  | ow r t ih =>
    unfold sbsD at e
    split at e
    · rename_i e1 e2
      cases e
      exact .cons (r.toD e1 s fun _ h => h) (ih e2)
    · cases e
theorem RB.dat (h : RB C σ F H v b A) (S : Stt C F H σ ρ) (e : b.dat ρ = some d) : Rep C H v d := by
  cases h with
  | sh r => cases e; exact r.mono S.sub
  | ow r => exact r.toD e S.sub fun _ h => h
  | pl q =>
    rename_i i
    have e : (match ρ.at i with | some b => b.toD | none => none) = some d := e
    split at e
    · rename_i c hc
      obtain ⟨w, e1, r⟩ := S.sl i c hc
      rw [q] at e1
      cases e1
      exact r.rep S.sub e
    · cases e
  | tp q r =>
    rename_i a xs bs
    have e : (match sbsD bs with | some ds => some (D.tup ds) | none => none) = some d := e
    split at e
    · rename_i ds hd
      cases e
      exact .tup (S.sub.sqT q) (rtp_dat r S.sub hd)
    · cases e
end
end WF

set_option Elab.async false
set_option linter.all false
set_option maxRecDepth 100000
set_option maxHeartbeats 4000000
/-! WFC: judgements SimE, SimT, SimA; new objects; operators. -/
namespace WF
open PySem PySem.Spec L2

/-! ### new objects, shared objects -/
section
variable {C : Cs} {σ : St} {F H : Hp} {ρ : Env} {A A0 : List Addr} {p : Addr} {o : HO}
theorem sub_upd (h : H p = none) : Sub H (upd H p o) := fun a u e => by rw [upd_ne (ne_of_none e h)]; exact e
theorem owns_ne (S : Stt C F H σ ρ) (h : H p = none) {a : Addr} (q : Owns σ ρ a) : a ≠ p := fun e => S.own_some q (by rw [e]; exact h)
/-- a new object, nobody's yet -/
theorem new_own (S : Stt C F H σ ρ) (h : H p = none) : Stt C F (upd H p o) σ ρ ∧ Tr [] σ F H ρ σ F (upd H p o) ρ ∧ Fp σ F (upd H p o) ρ [p] ∧ New [] σ H ρ [p] := by
  have k := sub_upd (o := o) h
  have fp : F p = none := by
    cases e : F p with
    | none => rfl
    | some u => rw [S.sub _ _ e] at h; cases h
  refine ⟨⟨S.sub.trans k, S.len, fun i b e => ?_, S.dis⟩, ⟨Sub.refl _, fun a u e _ _ => k _ _ e, fun _ _ _ _ z => z, fun a e q => ?_, fun a q => .inl q, fun i b q => ⟨⟨b, q⟩, rfl⟩, fun i b q => ⟨b, q⟩⟩, ⟨by simp, fun a m => ?_, fun a m q => ?_, fun a m => ?_⟩, fun a m => ?_⟩
  · obtain ⟨v, e1, r⟩ := S.sl i b e
    refine ⟨v, e1, ?_⟩
    cases r with
    | sh r => exact .sh r
    | ow r f => exact .ow (r.mono (Sub.refl _) fun _ z => k _ _ z) f
    | io r f => exact .io (r.mono (Sub.refl _) fun _ z => k _ _ z) f
  · cases e' : H a with
    | none => exact e e'
    | some u => rw [k _ _ e'] at q; cases q
  · rw [List.mem_singleton.mp m]; exact fp
  · rw [List.mem_singleton.mp m] at q
    exact owns_ne S h q rfl
  · rw [List.mem_singleton.mp m, upd_same]; simp
  · rw [List.mem_singleton.mp m]; exact .inr (.inr h)
/-- a new object, shared at once -/
theorem new_sh (S : Stt C F H σ ρ) (h : H p = none) : Stt C (upd F p o) (upd H p o) σ ρ ∧ Tr [] σ F H ρ σ (upd F p o) (upd H p o) ρ := by
  have k := sub_upd (o := o) h
  have fp : F p = none := by
    cases e : F p with
    | none => rfl
    | some u => rw [S.sub _ _ e] at h; cases h
  have kf := sub_upd (o := o) fp
  refine ⟨⟨fun a u e => ?_, S.len, fun i b e => ?_, S.dis⟩, ⟨kf, fun a u e _ _ => k _ _ e, fun a e _ _ z => ?_, fun a e q => ?_, fun a q => .inl q, fun i b q => ⟨⟨b, q⟩, rfl⟩, fun i b q => ⟨b, q⟩⟩⟩
  · by_cases e' : a = p
    · subst e'; rw [upd_same] at e ⊢; exact e
    · rw [upd_ne e'] at e ⊢; exact S.sub _ _ e
  · obtain ⟨v, e1, r⟩ := S.sl i b e
    refine ⟨v, e1, ?_⟩
    cases r with
    | sh r => exact .sh (r.mono kf)
    | ow r f =>
      refine .ow (r.mono kf fun _ z => k _ _ z) ?_
      rw [upd_ne (owns_ne S h ⟨i, _, e, rfl, e1⟩)]; exact f
    | io r f =>
      refine .io (r.mono kf fun _ z => k _ _ z) ?_
      rw [upd_ne (owns_ne S h ⟨i, _, e, rfl, e1⟩)]; exact f
  · by_cases e' : a = p
    · subst e'; exact absurd h e
    · rw [upd_ne e']; exact z
  · cases e' : H a with
    | none => exact e e'
    | some u => rw [k _ _ e'] at q; cases q
/-- F with the objects at A -/
def addF (F H : Hp) (A : List Addr) : Hp := fun a => if a ∈ A then H a else F a
theorem addF_in {a : Addr} (h : a ∈ A) : addF F H A a = H a := if_pos h
theorem addF_out {a : Addr} (h : a ∉ A) : addF F H A a = F a := if_neg h
/-- new objects in hand are shared from now on -/
theorem share (S : Stt C F H σ ρ) (f : Fp σ F H ρ A) : Stt C (addF F H A) H σ ρ ∧ Tr A σ F H ρ σ (addF F H A) H ρ := by
  have kf : Sub F (addF F H A) := fun a u e => by
    by_cases h : a ∈ A
    · rw [f.nf a h] at e; cases e
    · rw [addF_out h]; exact e
  refine ⟨⟨fun a u e => ?_, S.len, fun i b e => ?_, S.dis⟩, ⟨kf, fun a u e _ _ => e, fun a e _ m z => ?_, fun a e => e, fun a q => .inl q, fun i b q => ⟨⟨b, q⟩, rfl⟩, fun i b q => ⟨b, q⟩⟩⟩
  · by_cases h : a ∈ A
    · rw [addF_in h] at e; exact e
    · rw [addF_out h] at e; exact S.sub _ _ e
  · obtain ⟨v, e1, r⟩ := S.sl i b e
    refine ⟨v, e1, ?_⟩
    cases r with
    | sh r => exact .sh (r.mono kf)
    | ow r g =>
      refine .ow (r.mono kf fun _ z => z) ?_
      rw [addF_out fun q => f.no _ q ⟨i, _, e, rfl, e1⟩]; exact g
    | io r g =>
      refine .io (r.mono kf fun _ z => z) ?_
      rw [addF_out fun q => f.no _ q ⟨i, _, e, rfl, e1⟩]; exact g
  · rw [addF_out m]; exact z
theorem sub_addF (f : Fp σ F H ρ A) : Sub F (addF F H A) := fun a u e => by
  by_cases h : a ∈ A
  · rw [f.nf a h] at e; cases e
  · rw [addF_out h]; exact e
end

/-! ### what is kept: its objects are shared -/
section
variable {C : Cs} {σ : St} {F H G : Hp} {ρ : Env} {A A0 : List Addr} {v : V} {b : B} {d : D}
theorem rtp_in {xs : List V} {bs : List SB} {ds : List D} (h : RTp C F H xs bs A) (s : Sub F G) (k : ∀ a ∈ A, ∀ o, H a = some o → G a = some o) (e : sbsD bs = some ds) : Reps C G xs ds := by
  induction h generalizing ds with
  | nil => cases e; exact .nil
  | sh r t ih =>
    unfold sbsD at e
    split at e
    · rename_i e1 e2
      cases e1; cases e
      exact .cons (r.mono s) (ih k e2)
    · cases e
  | ow r t ih =>
    unfold sbsD at e
    split at e
    · rename_i e1 e2
      cases e
      exact .cons (r.toD e1 s (k _ List.mem_cons_self)) (ih (fun a m => k a (List.mem_cons_of_mem _ m)) e2)
    · cases e
/-- its data over any G in which F and its own new objects stand -/
theorem RB.in_ (h : RB C σ F H v b A) (s : Sub F G) (k : ∀ a ∈ A, ∀ o, H a = some o → G a = some o) (n : noPl b = true) (e : b.dat ρ = some d) : Rep C G v d := by
  cases h with
  | sh r => cases e; exact r.mono s
  | ow r => exact r.toD e s (k _ (by simp))
  | pl q => cases n
  | tp q r =>
    rename_i a xs bs
    have e : (match sbsD bs with | some ds => some (D.tup ds) | none => none) = some d := e
    split at e
    · rename_i ds hd
      cases e
      exact .tup (s.sqT q) (rtp_in r s k hd)
    · cases e
theorem RBs.in_ {vs : List V} {bs : List B} {ds : List D} (h : RBs C σ F H vs bs A) (s : Sub F G) (k : ∀ a ∈ A, ∀ o, H a = some o → G a = some o) (n : bs.all noPl = true) (e : datsL ρ bs = some ds) : Reps C G vs ds := by
  induction h generalizing ds with
  | nil => cases e; exact .nil
  | cons r t ih =>
    unfold datsL at e
    split at e
    · rename_i e1 e2
      cases e
      rw [List.all_cons, Bool.and_eq_true] at n
      exact .cons (r.in_ s (fun a m => k a (List.mem_append_left _ m)) n.1 e1) (ih (fun a m => k a (List.mem_append_right _ m)) n.2 e2)
    · cases e
variable {α β : Type} {R : Rl β α} {W : WX} {Q : β → Hp → Prop}
theorem tR_kept {bs : List B} {vs : List V} {k : List D → M α} (S : Stt C F H σ ρ) (r : RBs C σ F H vs bs A) (f : Fp σ F H ρ A) (h : tR C R W (A0 ++ A) F ρ (bind (kept bs) k) σ H Q) :
    ∃ ds F1, datsL ρ bs = some ds ∧ bs.all noPl = true ∧ Stt C F1 H σ ρ ∧ Reps C F1 vs ds ∧ Sub F F1 ∧ tR C R W A0 F1 ρ (k ds) σ H Q := by
  unfold kept at h
  split at h
  · rename_i n
    obtain ⟨ds, e, h⟩ := tR_step h fun _ _ => dats_pure
    have e : datsL ρ bs = some ds := by
      unfold dats at e
      split at e
      · cases e
      · cases e; assumption
    obtain ⟨S1, T1⟩ := share S f
    refine ⟨ds, addF F H A, e, n, S1, r.in_ (sub_addF f) (fun a m o q => by rw [addF_in m]; exact q) n e, sub_addF f, ?_⟩
    exact tR_from (T1.hand fun a m => List.mem_append_right _ m) (fun a m => .inr (.inl (List.mem_append_left _ m))) h
  · obtain ⟨r', ρ', e', h⟩ := h
    cases e'
end

/-! ### judgements -/
section
variable (cl : Nat → Addr) (X : Cx)
/-- the expression e does what m does -/
def SimE (e : Expr) (m : M B) : Prop := ∀ W, Takes X W → PE X e (tM (cs cl X) RlB W m)
/-- as a test -/
def SimT (e : Expr) (m : M Bool) : Prop := ∀ W, Takes X W → PT X e (tM (cs cl X) RlT W m)
/-- arguments, items -/
def SimA (es : List Expr) (m : M (List B)) : Prop := ∀ W, Takes X W → PA X es (tM (cs cl X) RlL W m)
end
theorem PE.imp {X : Cx} {e : Expr} {t t' : TE} (h : PE X e t) (i : ∀ σ H Q, t' σ H Q → t σ H Q) : PE X e t' := ⟨fun pins s σ H Q I q => h.run pins s σ H Q I (i σ H Q q)⟩
theorem PT.imp {X : Cx} {e : Expr} {t t' : TT} (h : PT X e t) (i : ∀ σ H Q, t' σ H Q → t σ H Q) : PT X e t' := ⟨fun pins s σ H Q I q => h.run pins s σ H Q I (i σ H Q q)⟩
theorem PA.imp {X : Cx} {e : List Expr} {t t' : TA} (h : PA X e t) (i : ∀ σ H Q, t' σ H Q → t σ H Q) : PA X e t' := ⟨fun pos pins s σ H Q I q => h.run pos pins s σ H Q I (i σ H Q q)⟩

section
variable {cl : Nat → Addr} {X : Cx} {C : Cs} {σ : St} {F H : Hp} {ρ : Env} {A A0 : List Addr} {W : WX} {α β : Type} {R : Rl β α} {Q : β → Hp → Prop}
/-- through the first part of a bind -/
theorem tM_bind {α1 β1 : Type} {R1 : Rl β1 α1} {m : M α1} {k : α1 → M α} {Q1 : β1 → Hp → Prop} (S : Stt C F H σ ρ) (h : tR C R W A0 F ρ (bind m k) σ H Q)
    (i : ∀ v a A F1 H1 ρ1, Tr [] σ F H ρ σ F1 H1 ρ1 → Stt C F1 H1 σ ρ1 → R1.rel C σ F1 H1 v a A → Fp σ F1 H1 ρ1 A → New [] σ H ρ A → tR C R W (A0 ++ A) F1 ρ1 (k a) σ H1 Q → Q1 v H1) : tM C R1 W m σ H Q1 :=
  ⟨F, ρ, S, tR_mono (tR_bind h) fun v H1 ⟨a, A, F1, ρ1, T, S1, rl, fp, nw, q⟩ => i v a A F1 H1 ρ1 T S1 rl fp nw q⟩
/-- data that stays as it is -/
theorem Fin.data {Q : VK} {v : V} {d : D} (q : Fin C RlB A0 F ρ σ H Q (.sh d)) (S : Stt C F H σ ρ) (r : Rep C F v d) : Q v H := q v [] F H Tr.refl S (.sh r) Fp.nil New.nil
theorem Fin.bool {Q : Bool → Hp → Prop} {b : Bool} (q : Fin C RlT A0 F ρ σ H Q b) (S : Stt C F H σ ρ) : Q b H := q b [] F H Tr.refl S ⟨rfl, rfl⟩ Fp.nil New.nil
/-- a new tuple of kept items -/
theorem Fin.tup {Q : VK} {p : Addr} {xs : List V} {ds : List D} (q : Fin C RlB A0 F ρ σ H Q (.sh (.tup ds))) (S : Stt C F H σ ρ) (r : Reps C F xs ds) (h : H p = none) : Q (.ref p) (upd H p (.tup xs)) := by
  obtain ⟨S1, T1⟩ := new_sh (o := .tup xs) S h
  exact q _ [] _ _ (T1.hand fun _ z => nomatch z) S1 (.sh (.tup (.inl (.inl upd_same)) (r.mono T1.sub))) Fp.nil New.nil
/-- a new list of kept items -/
theorem Fin.lst {Q : VK} {p : Addr} {xs : List V} {ds : List D} (q : Fin C RlB A0 F ρ σ H Q (.ow (.lst ds))) (S : Stt C F H σ ρ) (r : Reps C F xs ds) (h : H p = none) : Q (.ref p) (upd H p (.lst xs)) := by
  obtain ⟨S1, T1, f, n⟩ := new_own (o := .lst xs) S h
  exact q _ [p] _ _ (T1.hand fun _ z => nomatch z) S1 (.ow (.lst upd_same r)) f fun a m => (n a m).imp id fun z => .inr (z.elim (fun z => nomatch z) id)

/-! ### constants, names -/
theorem sim_int {i j pos} : SimE cl X (.Constant (.int i) j pos) (mK (.int i)) := fun W _ => PE.imp pe_int fun σ H Q ⟨F, ρ, S, h⟩ => (tR_ret h).data S (.int i)
theorem sim_bl {b j pos} : SimE cl X (.Constant (.bool b) j pos) (mK (.bl b)) := fun W _ => PE.imp pe_bl fun σ H Q ⟨F, ρ, S, h⟩ => (tR_ret h).data S (.bl b)
theorem sim_non {j pos} : SimE cl X (.Constant .none j pos) (mK .non) := fun W _ => PE.imp pe_non fun σ H Q ⟨F, ρ, S, h⟩ => (tR_ret h).data S .non
def okTb (t : Txt) : Bool := t.all (fun c => decide (c < 0x110000)) && decide (t.length ≤ LIM)
theorem okT_of {t : Txt} (h : okTb t = true) : okT t := by
  unfold okTb at h
  rw [Bool.and_eq_true, List.all_eq_true] at h
  exact ⟨fun c m => of_decide_eq_true (h.1 c m), of_decide_eq_true h.2⟩
theorem sim_str {x : Str} {t : Txt} {j pos} (e : x.cps.toList = t) (o : okTb t = true) : SimE cl X (.Constant (.str x) j pos) (mK (.str t)) := fun W _ => PE.imp pe_str fun σ H Q ⟨F, ρ, S, h⟩ => by
  have e' : x = mkS t := by subst e; simp [mkS]
  rw [e']
  exact (tR_ret h).data S (.str t (okT_of o))
theorem sim_P {i : Nat} {x : Str} {pos : Pos} (hN : X.N[i]? = some x) (hv : Vis X.env.scope x) (hd : (x == ("__debug__" : Str)) = false) (hcd : (x == ("__classdict__" : Str)) = false) : SimE cl X (.Name x pos) (mP i) :=
  fun W _ => PE.imp (pe_var hN hv hd hcd) fun σ H Q ⟨F, ρ, S, r, ρ', e, h⟩ => by
    unfold mP at e
    split at e
    · rename_i d hd
      cases e
      obtain ⟨v, e1, r1⟩ := S.sl i _ hd
      cases r1 with
      | sh r1 => exact ⟨v, e1, h v [] F H Tr.refl S (.sh r1) Fp.nil New.nil⟩
    · rename_i d hd
      cases e
      obtain ⟨v, e1, r1⟩ := S.sl i _ hd
      exact ⟨v, e1, h v [] F H Tr.refl S (.pl e1) Fp.nil New.nil⟩
    · rename_i d hd
      cases e
      obtain ⟨v, e1, r1⟩ := S.sl i _ hd
      exact ⟨v, e1, h v [] F H Tr.refl S (.pl e1) Fp.nil New.nil⟩
    · cases e
end
section
variable {C : Cs} {σ : St} {F H : Hp} {ρ : Env} {i j : Nat} {b c : SB} {o : Option SB}
theorem at_of_get {ρ : Env} {i : Nat} {o : Option SB} (h : ρ[i]? = some o) : ρ.at i = o := by
  show ρ.getD i none = o
  rw [List.getD_eq_getElem?_getD, h]; rfl
theorem get_of_at {ρ : Env} {i : Nat} {b : SB} (h : ρ.at i = some b) : i < ρ.length ∧ ρ[i]? = some (some b) := by
  have h : ρ.getD i none = some b := h
  rw [List.getD_eq_getElem?_getD] at h
  cases e : ρ[i]? with
  | none => rw [e] at h; cases h
  | some u =>
    rw [e] at h
    have h : u = some b := h
    subst h
    exact ⟨(List.getElem?_eq_some_iff.mp e).1, rfl⟩
theorem at_set_same {ρ : Env} {i : Nat} {o : Option SB} (h : i < ρ.length) : Env.at (ρ.set i o) i = o := at_of_get (by rw [List.getElem?_set_self h])
theorem at_set_ne {ρ : Env} {i j : Nat} {o : Option SB} (h : i ≠ j) : Env.at (ρ.set i o) j = ρ.at j := by
  show (ρ.set i o).getD j none = ρ.getD j none
  rw [List.getD_eq_getElem?_getD, List.getD_eq_getElem?_getD, List.getElem?_set_ne h]
theorem at_set {ρ : Env} {i j : Nat} {o : Option SB} {b : SB} (h : Env.at (ρ.set i o) j = some b) : (j = i ∧ o = some b ∧ i < ρ.length) ∨ (j ≠ i ∧ ρ.at j = some b) := by
  by_cases e : i = j
  · subst e
    obtain ⟨l, g⟩ := get_of_at h
    rw [List.length_set] at l
    rw [at_set_same l] at h
    exact .inl ⟨rfl, h, l⟩
  · rw [at_set_ne e] at h
    exact .inr ⟨fun z => e z.symm, h⟩
/-- a name's own object is shared, or its binding forgotten -/
theorem owns_unset {a : Addr} (n : ∀ b, o = some b → b.obj = none) (h : Owns σ (ρ.set i o) a) : Owns σ ρ a := by
  obtain ⟨j, b, h1, h2, h3⟩ := h
  rcases at_set h1 with ⟨rfl, e, _⟩ | ⟨_, e⟩
  · rw [n b e] at h2; cases h2
  · exact ⟨j, b, e, h2, h3⟩
end
theorem share_slot {C : Cs} {σ : St} {F H : Hp} {ρ : Env} {i : Nat} {a : Addr} {ob : O} {d : D} (S : Stt C F H σ ρ) (h : ρ.at i = some (.ow ob)) (hs : σ[i]? = some (some (.ref a))) (r : ROb C F H a ob) (f : F a = none) (e : ob.toD = some d) :
    Stt C (addF F H [a]) H σ (ρ.set i (some (.sh d))) ∧ Tr [] σ F H ρ σ (addF F H [a]) H (ρ.set i (some (.sh d))) ∧ Rep C (addF F H [a]) (.ref a) d := by
  have ow : Owns σ ρ a := ⟨i, _, h, rfl, hs⟩
  have kf : Sub F (addF F H [a]) := fun x u q => by
    by_cases z : x ∈ [a]
    · rw [List.mem_singleton.mp z, f] at q; cases q
    · rw [addF_out z]; exact q
  have rp : Rep C (addF F H [a]) (.ref a) d := r.toD e kf fun o q => by rw [addF_in List.mem_cons_self]; exact q
  have il := (get_of_at h).1
  have unset : ∀ {x : Addr}, Owns σ (ρ.set i (some (.sh d))) x → Owns σ ρ x := fun q => owns_unset (fun b z => by cases z; rfl) q
  refine ⟨⟨fun x u q => ?_, by rw [List.length_set]; exact S.len, fun j b q => ?_, fun j k b c x h1 h2 h3 h4 h5 h6 => ?_⟩, ⟨kf, fun x u q _ _ => q, fun x q n _ z => ?_, fun x q => q, fun x q => .inl (unset q), fun j o q => ⟨⟨o, ?_⟩, rfl⟩, fun j o q => ?_⟩, rp⟩
  · by_cases z : x ∈ [a]
    · rw [addF_in z] at q; exact q
    · rw [addF_out z] at q; exact S.sub _ _ q
  · rcases at_set q with ⟨rfl, e1, _⟩ | ⟨nj, e1⟩
    · cases e1
      exact ⟨_, hs, .sh rp⟩
    · obtain ⟨v, e2, r2⟩ := S.sl j b e1
      refine ⟨v, e2, ?_⟩
      have na : ∀ {x : Addr}, v = .ref x → b.obj.isSome = true → x ∉ [a] := fun {x} ev ho z => by
        rw [List.mem_singleton.mp z] at ev
        subst ev
        exact nj (S.dis j i b _ a e1 ho h rfl e2 hs)
      cases r2 with
      | sh r2 => exact .sh (r2.mono kf)
      | ow r2 g => exact .ow (r2.mono kf fun _ z => z) (by rw [addF_out (na rfl rfl)]; exact g)
      | io r2 g => exact .io (r2.mono kf fun _ z => z) (by rw [addF_out (na rfl rfl)]; exact g)
  · rcases at_set h1 with ⟨rfl, e1, _⟩ | ⟨_, e1⟩
    · cases e1; cases h2
    · rcases at_set h3 with ⟨rfl, e2, _⟩ | ⟨_, e2⟩
      · cases e2; cases h4
      · exact S.dis j k b c x e1 h2 e2 h4 h5 h6
  · refine (addF_out fun m => ?_).trans z
    rw [List.mem_singleton.mp m] at n
    exact n ow
  · by_cases z : i = j
    · subst z; rw [h] at q; cases q
    · rw [at_set_ne z]; exact q
  · rcases at_set q with ⟨_, e1, _⟩ | ⟨_, e1⟩
    · cases e1
    · exact ⟨o, e1⟩
theorem sim_V {cl : Nat → Addr} {X : Cx} {i : Nat} {x : Str} {pos : Pos} (hN : X.N[i]? = some x) (hv : Vis X.env.scope x) (hd : (x == ("__debug__" : Str)) = false) (hcd : (x == ("__classdict__" : Str)) = false) : SimE cl X (.Name x pos) (mV i) :=
  fun W _ => PE.imp (pe_var hN hv hd hcd) fun σ H Q ⟨F, ρ, S, r, ρ', e, h⟩ => by
    unfold mV at e
    split at e
    · rename_i d hd
      cases e
      obtain ⟨v, e1, r1⟩ := S.sl i _ hd
      cases r1 with
      | sh r1 => exact ⟨v, e1, h v [] F H Tr.refl S (.sh r1) Fp.nil New.nil⟩
    · rename_i o hd
      split at e
      · rename_i d ed
        cases e
        obtain ⟨v, e1, r1⟩ := S.sl i _ hd
        cases r1 with
        | ow r1 f =>
          obtain ⟨S1, T1, rp⟩ := share_slot S hd e1 r1 f ed
          exact ⟨_, e1, h _ [] _ H T1 S1 (.sh rp) Fp.nil New.nil⟩
      · cases e
    · cases e
/-- a constant of the text's top -/
theorem sim_G {cl : Nat → Addr} {X : Cx} {x : Str} {v : V} {u : Value} {d : D} {pos : Pos} (hg : Gl X x) (hm : X.mg x = some u) (r : RelV v u) (rp : Rep (cs cl X) (fun _ => none) v d) (hd : (x == ("__debug__" : Str)) = false) : SimE cl X (.Name x pos) (mK d) :=
  fun W _ => PE.imp (pe_glob hg hm r hd) fun σ H Q ⟨F, ρ, S, h⟩ => (tR_ret h).data S (rp.mono (fun _ _ z => by cases z))
end WF

set_option Elab.async false
set_option linter.all false
set_option maxRecDepth 100000
set_option maxHeartbeats 4000000
/-! WFD: operators, comparisons, tests. -/
namespace WF
open PySem PySem.Spec PyProof.Rows L2

/-- a value looked at: frozen, or a name's own object -/
inductive Vw (C : Cs) (F H : Hp) : V → D → Prop
  | sc {v : V} {d : D} : Rep C F v d → Vw C F H v d
  | ob {a : Addr} {o : O} {d : D} : ROb C F H a o → o.toD = some d → Vw C F H (.ref a) d
section
variable {C : Cs} {σ : St} {F H G : Hp} {ρ : Env} {A A0 : List Addr} {v : V} {b : B} {d : D} {ds : List D}
theorem Vw.rep (h : Vw C F H v d) (s : Sub F H) : Rep C H v d := by
  cases h with
  | sc r => exact r.mono s
  | ob r e => exact r.toD e s fun _ z => z
theorem Vw.lst (h : Vw C F H v (.lst ds)) (s : Sub F H) : ∃ a xs, v = .ref a ∧ SqL C.K H a xs ∧ Reps C F xs ds := by
  cases h with
  | sc r => cases r with | lst h r => exact ⟨_, _, rfl, s.sqL h, r⟩
  | ob r e =>
    cases r with
    | lst h r => cases e; exact ⟨_, _, rfl, .inl (.inl h), r⟩
    | dicS h r => cases e
    | dicT h r => cases e
    | ins h r => cases e
theorem Vw.tup (h : Vw C F H v (.tup ds)) : ∃ a xs, v = .ref a ∧ SqT C.K F a xs ∧ Reps C F xs ds := by
  cases h with
  | sc r => cases r with | tup h r => exact ⟨_, _, rfl, h, r⟩
  | ob r e => cases r <;> cases e
theorem Vw.int {i : Int} (h : Vw C F H v (.int i)) : v = .int i := by
  cases h with
  | sc r => cases r; rfl
  | ob r e => cases r <;> cases e
theorem Vw.bl {i : Bool} (h : Vw C F H v (.bl i)) : v = .bl i := by
  cases h with
  | sc r => cases r; rfl
  | ob r e => cases r <;> cases e
theorem Vw.str {i : Txt} (h : Vw C F H v (.str i)) : v = .str (mkS i) ∧ okT i := by
  cases h with
  | sc r => cases r; exact ⟨rfl, by assumption⟩
  | ob r e => cases r <;> cases e
theorem Vw.non (h : Vw C F H v .non) : v = .non := by
  cases h with
  | sc r => cases r; rfl
  | ob r e => cases r <;> cases e
theorem Vw.isNon (h : Vw C F H v d) : decide (v = V.non) = d.isNon := by
  cases h with
  | sc r => cases r <;> simp [D.isNon]
  | ob r e => cases r <;> cases e <;> simp [D.isNon]
theorem RB.view (h : RB C σ F H v b A) (S : Stt C F H σ ρ) (s : Sub F G) (k : ∀ a ∈ A, ∀ o, H a = some o → G a = some o) (e : b.dat ρ = some d) : Vw C G H v d := by
  cases h with
  | sh r => cases e; exact .sc (r.mono s)
  | ow r => exact .sc (r.toD e s (k _ (by simp)))
  | pl q =>
    rename_i i
    have e : (match ρ.at i with | some b => b.toD | none => none) = some d := e
    split at e
    · rename_i c hc
      obtain ⟨w, e1, r⟩ := S.sl i c hc
      rw [q] at e1
      cases e1
      cases r with
      | sh r => cases e; exact .sc (r.mono s)
      | ow r f => exact .ob (r.mono s fun _ z => z) e
      | io r f => exact .ob (r.mono s fun _ z => z) e
    · cases e
  | tp q r =>
    rename_i a xs bs
    have e : (match sbsD bs with | some ds => some (D.tup ds) | none => none) = some d := e
    split at e
    · rename_i ds hd
      cases e
      exact .sc (.tup (s.sqT q) (rtp_in r s k hd))
    · cases e
end

section
variable {cl : Nat → Addr} {X : Cx} {C : Cs} {σ : St} {F H : Hp} {ρ : Env} {A A0 : List Addr} {α β : Type} {R : Rl β α} {W : WX} {Q : β → Hp → Prop}
/-- a value at the end of its expression; what was new in it is shared -/
theorem one_bind {ma : M B} {k : D → M α} {P : V → Hp → Prop} (S : Stt C F H σ ρ) (h : tR C R W A0 F ρ (bind ma fun x => bind (dat x) fun d => k d) σ H Q)
    (i : ∀ x d F2 H2 ρ2, Stt C F2 H2 σ ρ2 → Vw C F2 H2 x d → tR C R W A0 F2 ρ2 (k d) σ H2 Q → P x H2) : tM C RlB W ma σ H P := by
  refine tM_bind (R1 := RlB) S h fun x a A F1 H1 ρ1 T1 S1 r1 f1 n1 h1 => ?_
  obtain ⟨d, ed, h3⟩ := tR_dat h1
  obtain ⟨S2, T2⟩ := share S1 f1
  exact i x d _ _ _ S2 (r1.view S1 (sub_addF f1) (fun z m o q => by rw [addF_in m]; exact q) ed) (tR_from (T2.hand fun a m => List.mem_append_right _ m) (fun a m => .inr (.inl (List.mem_append_left _ m))) h3)
/-- two of them -/
theorem two_bind {ma mb : M B} {k : D → D → M α} {P : V → V → Hp → Prop} (S : Stt C F H σ ρ)
    (h : tR C R W A0 F ρ (bind ma fun x => bind mb fun y => bind (dat x) fun d => bind (dat y) fun e => k d e) σ H Q)
    (i : ∀ x y d e F2 H2 ρ2, Stt C F2 H2 σ ρ2 → Vw C F2 H2 x d → Vw C F2 H2 y e → tR C R W A0 F2 ρ2 (k d e) σ H2 Q → P x y H2) :
    tM C RlB W ma σ H fun x H1 => tM C RlB W mb σ H1 fun y H2 => P x y H2 := by
  refine tM_bind (R1 := RlB) S h fun x a A F1 H1 ρ1 T1 S1 r1 f1 n1 h1 => ?_
  refine tM_bind (R1 := RlB) S1 h1 fun y b A' F2 H2 ρ2 T2 S2 r2 f2 n2 h2 => ?_
  obtain ⟨d, ed, h3⟩ := tR_dat h2
  obtain ⟨e, ee, h4⟩ := tR_dat h3
  rw [List.append_assoc] at h4
  have r1' := r1.mono (F' := F2) (H' := H2) T2.sub fun z m => f1.keep T2 m
  have f := f1.append T2 f2 n2
  obtain ⟨S3, T3⟩ := share S2 f
  exact i x y d e _ _ _ S3 (r1'.view S2 (sub_addF f) (fun z m o q => by rw [addF_in (List.mem_append_left _ m)]; exact q) ed) (r2.view S2 (sub_addF f) (fun z m o q => by rw [addF_in (List.mem_append_right _ m)]; exact q) ee)
    (tR_from (T3.hand fun a m => List.mem_append_right _ m) (fun a m => .inr (.inl (List.mem_append_left _ m))) h4)
theorem three_bind {ma mb mc : M B} {k : D → D → D → M α} {P : V → V → V → Hp → Prop} (S : Stt C F H σ ρ)
    (h : tR C R W A0 F ρ (bind ma fun x => bind mb fun y => bind mc fun z => bind (dat x) fun d => bind (dat y) fun e => bind (dat z) fun g => k d e g) σ H Q)
    (i : ∀ x y z d e g F2 H2 ρ2, Stt C F2 H2 σ ρ2 → Vw C F2 H2 x d → Vw C F2 H2 y e → Vw C F2 H2 z g → tR C R W A0 F2 ρ2 (k d e g) σ H2 Q → P x y z H2) :
    tM C RlB W ma σ H fun x H1 => tM C RlB W mb σ H1 fun y H2 => tM C RlB W mc σ H2 fun z H3 => P x y z H3 := by
  refine tM_bind (R1 := RlB) S h fun x a A F1 H1 ρ1 T1 S1 r1 f1 n1 h1 => ?_
  refine tM_bind (R1 := RlB) S1 h1 fun y b A' F2 H2 ρ2 T2 S2 r2 f2 n2 h2 => ?_
  refine tM_bind (R1 := RlB) S2 h2 fun z c A'' F3 H3 ρ3 T3 S3 r3 f3 n3 h3 => ?_
  obtain ⟨d, ed, h3⟩ := tR_dat h3
  obtain ⟨e, ee, h4⟩ := tR_dat h3
  obtain ⟨g, eg, h5⟩ := tR_dat h4
  rw [List.append_assoc, List.append_assoc] at h5
  have r1' := (r1.mono (F' := F2) (H' := H2) T2.sub fun z m => f1.keep T2 m)
  have f12 := f1.append T2 f2 n2
  have r1'' := r1'.mono (F' := F3) (H' := H3) T3.sub fun z m => f12.keep T3 (List.mem_append_left _ m)
  have r2' := r2.mono (F' := F3) (H' := H3) T3.sub fun z m => f2.keep T3 m
  have f := f12.append T3 f3 n3
  rw [List.append_assoc] at f
  obtain ⟨S4, T4⟩ := share S3 f
  exact i x y z d e g _ _ _ S4 (r1''.view S3 (sub_addF f) (fun z m o q => by rw [addF_in (List.mem_append_left _ m)]; exact q) ed)
    (r2'.view S3 (sub_addF f) (fun z m o q => by rw [addF_in (List.mem_append_right _ (List.mem_append_left _ m))]; exact q) ee)
    (r3.view S3 (sub_addF f) (fun z m o q => by rw [addF_in (List.mem_append_right _ (List.mem_append_right _ m))]; exact q) eg)
    (tR_from (T4.hand fun a m => List.mem_append_right _ m) (fun a m => .inr (.inl (List.mem_append_left _ m))) h5)

/-- the layer's rule r for two values serves the mirror's f -/
def OpD (C : Cs) (r : R2) (f : D → D → Option B) : Prop := ∀ {σ : St} {F H : Hp} {ρ : Env} {A0 : List Addr} {x y : V} {d e : D} {b : B} {Q : VK}, Stt C F H σ ρ → Vw C F H x d → Vw C F H y e → f d e = some b →
  Fin C RlB A0 F ρ σ H Q b → r x y H Q
theorem tM_op {r : R2} {f : D → D → Option B} {ma mb : M B} {W : WX} {Q : VK} (o : OpD C r f) (h : tM C RlB W (mOp f ma mb) σ H Q) : tOp r (tM C RlB W ma) (tM C RlB W mb) σ H Q := by
  obtain ⟨F, ρ, S, h⟩ := h
  exact two_bind S h fun x y d e F2 H2 ρ2 S2 v w q => let ⟨b, eb, q⟩ := tR_end q; o S2 v w eb q
theorem sim_op {op : Operator} {r : R2} {f : D → D → Option B} {a b : Expr} {ma mb : M B} {pos : Pos} (ho : OpR X (binaryOp op) r) (o : OpD (cs cl X) r f) (ha : SimE cl X a ma) (hb : SimE cl X b mb) : SimE cl X (.BinOp a op b pos) (mOp f ma mb) :=
  fun W tk => PE.imp (pe_op ho (ha W tk) (hb W tk)) fun σ H Q h => tM_op o h
/-- what m gives is a truth value -/
def OnlyB (m : M B) : Prop := ∀ ρ b ρ', m ρ = some (.ok b, ρ') → ∃ c, b = boo c
/-- a comparison -/
structure SimC (cl : Nat → Addr) (X : Cx) (op : CmpOp) (a b : Expr) (m : M B) : Prop where
  pc : ∀ W, Takes X W → PC X op a b (tM (cs cl X) RlB W m)
  hm : behindInMarks op b = false
  ob : OnlyB m
theorem bind_ok {α β : Type} {m : M α} {k : α → M β} {ρ ρ' : Env} {b : β} (h : bind m k ρ = some (.ok b, ρ')) : ∃ a ρ1, m ρ = some (.ok a, ρ1) ∧ k a ρ1 = some (.ok b, ρ') := by
  unfold bind at h
  split at h
  · cases h
  · cases h
  · exact ⟨_, _, by assumption, h⟩
theorem lift_ok {α : Type} {o : Option α} {ρ ρ' : Env} {b : α} (h : lift o ρ = some (.ok b, ρ')) : o = some b := by
  unfold lift at h
  split at h
  · cases h
  · cases h; rfl
theorem onlyB_op {f : D → D → Option B} {a b : M B} (hf : ∀ d e b, f d e = some b → ∃ c, b = boo c) : OnlyB (mOp f a b) := fun ρ c ρ' h => by
  obtain ⟨_, _, _, h⟩ := bind_ok h
  obtain ⟨_, _, _, h⟩ := bind_ok h
  obtain ⟨_, _, _, h⟩ := bind_ok h
  obtain ⟨_, _, _, h⟩ := bind_ok h
  exact hf _ _ _ (lift_ok h)
theorem SimC.e {op : CmpOp} {a b : Expr} {m : M B} {pos : Pos} (h : SimC cl X op a b m) : SimE cl X (.Compare a [op] [b] pos) m := fun W tk => pe_cmp (h.pc W tk) h.hm
theorem sim_cmp {op : CmpOp} {r : R2} {f : D → D → Option B} {a b : Expr} {ma mb : M B} (ho : OpR X (compareOp op) r) (o : OpD (cs cl X) r f) (hf : ∀ d e b, f d e = some b → ∃ c, b = boo c) (hm : behindInMarks op b = false) (ha : SimE cl X a ma) (hb : SimE cl X b mb) : SimC cl X op a b (mOp f ma mb) :=
  ⟨fun W tk => ⟨fun pins s σ H Q I h => binT (ha W tk) (hb W tk) I (tM_op o h) fun v u s2 x y H2 I2 rx ry q => ho pins s2 σ H2 x y v u Q I2 rx ry q⟩, hm, onlyB_op hf⟩
end

/-! ### arithmetic -/
section
variable {X : Cx}
theorem list_at {h : Heap} {l : Addr} {its : Array Value} (p : h.IsList l its) : ∃ (n : Nat) (dd : Option Addr) (sl : Array (Option Value)), h.get? l = some { cls := .type "list", dict := dd, data := .seq its n, slots := sl } := by
  obtain ⟨⟨c, dd, da, sl⟩, ho, hc, n, hd⟩ := id p
  simp only at hc hd
  subst hc hd
  exact ⟨n, dd, sl, ho⟩
def rCatR (K : PySem.W.Frag) : R2 := fun x y H Q => ∃ l b xs zs, x = .ref l ∧ y = .ref b ∧ SqL K H l xs ∧ SqL K H b zs ∧ xs.length + zs.length ≤ sizeLine ∧ ∀ p, H p = none → Q (.ref p) (upd H p (.lst (xs ++ zs)))
theorem op_catR : OpR X (binaryOp .Add) (rCatR X.K) := by
  intro pins s σ H x y v u Q I rx ry h
  obtain ⟨l, b, xs, zs, rfl, rfl, hH, hB, hz, q⟩ := h
  cases rx
  cases ry
  obtain ⟨its, r, e, hl⟩ := I.list hH
  obtain ⟨its2, r2, e2, hl2⟩ := I.list hB
  obtain ⟨n, dd, sl, e⟩ := list_at e.isList
  obtain ⟨n2, dd2, sl2, e2⟩ := list_at e2.isList
  have l1 := r.length
  have l2 := r2.length
  have hs2 : its.toArray.size + its2.toArray.size ≤ sizeLine := by rw [List.size_toArray, List.size_toArray]; omega
  refine PySem.concat_meets ⟨_, e, rfl⟩ ⟨_, e2, rfl⟩ PySem.noFill_list_add PySem.seq_list_add PySem.F.slot_list_add PySem.F.entry_list_add (PySem.F.args_list_add_2 _ _) (PyProof.Rows.list_addW l b its.toArray its2.toArray n n2 dd dd2 sl sl2 hs2) ⟨e, e2, ?_⟩
  have ea : its.toArray ++ its2.toArray = (its ++ its2).toArray := by simp
  rw [ea]
  exact ⟨.ref _, _, I.lnew (t' := s.toks) (r.append r2) (by rw [List.length_append]; omega), rfl, q _ I.fresh⟩
def rRepR (K : PySem.W.Frag) : R2 := fun x y H Q => ∃ l k xs, x = .ref l ∧ y = .int k ∧ SqL K H l xs ∧ -(2 ^ 63) ≤ k ∧ k < 2 ^ 63 ∧ xs.length * k.toNat ≤ sizeLine ∧
  ∀ p, H p = none → Q (.ref p) (upd H p (.lst (List.replicate k.toNat xs).flatten))
/-- list * int, whatever else the list's object holds -/
theorem list_mulW (l : Addr) (items : Array Value) (n : Nat) (dd : Option Addr) (sl : Array (Option Value)) (x : Int) (u : Tok) (c0 : ¬(!Builtin.List.listFitsIndex x) = true) (c1 : ¬items.size * x.toNat > (2 ^ 63 - 1) / 8) (c2 : ¬Builtin.List.listTooLong (items.size * x.toNat) = true) :
    Meets (Builtin.«list.__mul__» ⟨[.ref l, .int x u], []⟩) (fun _ R s => s.heap.get? l = some { cls := .type "list", dict := dd, data := .seq items n, slots := sl } ∧
      R (.ok (.ret (Value.ref s.heap.objs.size))) { s with heap := s.heap.push { cls := Value.type "list", data := Data.seq (List.foldl (fun x1 x2 => x1 ++ x2) #[] (List.replicate (if items.isEmpty = true then 0 else x.toNat) items)) }, toks := s.toks }) :=
  .of_wp fun prog w A R s h => by
    obtain ⟨hp, g, d, tk, os⟩ := s
    obtain ⟨hl, h⟩ := h
    have hsz := PySem.AutoListH.joined_fits c2
    wp_walk using wpAny_loadPart' hl
    refine wpAny_ite_false (decide_eq_false (Nat.not_lt.mpr hsz)) ?_
    wp_walk using wpAny_loadPart' hl
    exact ⟨_, rfl, h⟩
theorem int_rmulW (k : Int) (t : Tok) (l : Addr) (items : Array Value) (n : Nat) (dd : Option Addr) (sl : Array (Option Value)) :
    Meets (Builtin.«int.__rmul__» ⟨[.int k t, .ref l], []⟩) (fun _ R s => s.heap.get? l = some { cls := .type "list", dict := dd, data := .seq items n, slots := sl } ∧ R (.ok (.ret .notImplemented)) s) :=
  .of_wp fun prog w A R s h => by
    obtain ⟨hp, g, d, tk, os⟩ := s
    obtain ⟨hl, h⟩ := h
    wp_walk using wpAny_loadPart' hl
    exact ⟨_, rfl, h⟩
theorem op_repR : OpR X (binaryOp .Mult) (rRepR X.K) := by
  intro pins s σ H x y v u Q I rx ry h
  obtain ⟨l, k, xs, rfl, rfl, hH, h1, h2, hz, q⟩ := h
  cases rx
  obtain ⟨t, rfl⟩ := ry
  obtain ⟨its, r, e, hl0⟩ := I.list hH
  obtain ⟨n, dd, sl, e⟩ := list_at e.isList
  have hl := r.length
  have hlen : its.toArray.size * k.toNat ≤ sizeLine := by rw [List.size_toArray, ← hl]; exact hz
  have hcap : ¬ its.toArray.size * k.toNat > (2 ^ 63 - 1) / 8 := by
    have : (sizeLine : Nat) ≤ (2 ^ 63 - 1) / 8 := by decide
    omega
  have hfit : ¬ (!Builtin.List.listFitsIndex k) = true := by
    rw [fitsIndex_both h1 h2]; decide
  have hlong : ¬ Builtin.List.listTooLong (its.toArray.size * k.toNat) = true := by
    rw [notLongL hlen]; decide
  have f0 : ∀ m : Nat, List.foldl (fun x1 x2 => x1 ++ x2) #[] (List.replicate m its.toArray) = (List.replicate m its).flatten.toArray := fun m => by
    have q := foldl_rep its m []
    rw [List.nil_append] at q
    exact q
  have hnew : List.foldl (fun x1 x2 => x1 ++ x2) #[] (List.replicate (if its.toArray.isEmpty = true then 0 else k.toNat) its.toArray) = (List.replicate k.toNat its).flatten.toArray := by
    rw [f0]
    cases its with
    | nil => simp
    | cons a r' => rw [if_neg (by simp)]
  refine wpAny_binaryOp_repeat_ref (T := "list") (U := "int") (by decide) ⟨_, e, rfl⟩ (fun s' => typeIs_int s' k t) noFill_list_mul F.fills_int_mul F.slot_int_rmul repeat_list F.slot_int_index.lookup
    (call_meets F.slot_int_rmul (typeIs_int s k t) F.entry_int_rmul (F.args_int_rmul_2 _ _) (int_rmulW k t l its.toArray n dd sl)
      ⟨e, rfl, ⟨_, e, rfl⟩, call_meets F.slot_list_mul ⟨_, e, rfl⟩ F.entry_list_mul (F.args_list_mul_2 _ _) (list_mulW l its.toArray n dd sl k t hfit hcap hlong) ⟨e, ?_⟩⟩)
  rw [hnew]
  exact ⟨.ref _, _, I.lnew (t' := s.toks) (r.rep k.toNat) (by rw [PyProof.Rows.lm_len_rep_flat, Nat.mul_comm]; exact hz), rfl, q _ I.fresh⟩
end
end WF
namespace WF
open PySem PySem.Spec PyProof.Rows L2
section
variable {cl : Nat → Addr} {X : Cx} {C : Cs} {σ : St} {F H : Hp} {ρ : Env} {A A0 : List Addr}
theorem Reps.append {F : Hp} : ∀ {xs ys : List V} {ds es : List D}, Reps C F xs ds → Reps C F ys es → Reps C F (xs ++ ys) (ds ++ es)
  | _, _, _, _, .nil, s => s
  | _, _, _, _, .cons r t, s => .cons r (Reps.append t s)
theorem Reps.rep {F : Hp} {xs : List V} {ds : List D} (r : Reps C F xs ds) : ∀ n : Nat, Reps C F (List.replicate n xs).flatten (repL ds n)
  | 0 => .nil
  | n + 1 => by
    unfold repL
    rw [List.replicate_succ, List.replicate_succ, List.flatten_cons, List.flatten_cons]
    exact r.append (Reps.rep r n)
theorem Reps.nil_iff {F : Hp} {xs : List V} {ds : List D} (r : Reps C F xs ds) : xs = [] ↔ ds = [] := by
  cases r <;> simp
theorem okT_append {a b : Txt} (x : okT a) (y : okT b) (h : a.length + b.length ≤ LIM) : okT (a ++ b) := ⟨fun c m => (List.mem_append.mp m).elim (x.1 c) (y.1 c), by rw [List.length_append]; exact h⟩
theorem mkS_append (a b : Txt) : mkS a ++ mkS b = mkS (a ++ b) := by
  show Str.append (mkS a) (mkS b) = _
  simp [Str.append, mkS]
/-- + -/
def rAddA (K : PySem.W.Frag) : R2 := fun x y H Q => rI0 (fun i j => .int (i + j)) x y H Q ∨ (∃ i j, x = .str i ∧ y = .str j ∧ i.length + j.length ≤ sizeLine ∧ Q (.str (i ++ j)) H) ∨ rCatA K x y H Q ∨ rCatR K x y H Q
theorem op_addA : OpR X (binaryOp .Add) (rAddA X.K) := op_add.or (op_add_str.or (op_catA.or op_catR))
theorem od_add : OpD C (rAddA C.K) iAdd := by
  intro σ F H ρ A0 x y d e b Q S v w eb q
  unfold iAdd at eb
  split at eb
  · cases eb
    rw [v.int, w.int]
    exact .inl ⟨_, _, rfl, rfl, q.data S (.int _)⟩
  · rename_i a b
    split at eb
    · rename_i hl
      cases eb
      obtain ⟨rfl, o1⟩ := v.str
      obtain ⟨rfl, o2⟩ := w.str
      refine .inr (.inl ⟨_, _, rfl, rfl, by rw [mkS_len, mkS_len, ← lim_eq]; exact hl, ?_⟩)
      rw [mkS_append]
      exact q.data S (.str _ (okT_append o1 o2 hl))
    · cases eb
  · rename_i a b
    split at eb
    · rename_i hl
      cases eb
      obtain ⟨p1, xs, rfl, h1, r1⟩ := v.tup
      obtain ⟨p2, ys, rfl, h2, r2⟩ := w.tup
      refine .inr (.inr (.inl ⟨_, _, _, _, rfl, rfl, S.sub.sqT h1, S.sub.sqT h2, by rw [r1.length, r2.length, ← lim_eq]; exact hl, fun e => ?_, fun _ e => ?_, fun _ _ p hp => q.tup S (r1.append r2) hp⟩))
      · have := r1.nil_iff.mp e
        subst this
        exact q.data S (.tup h2 r2)
      · have := r2.nil_iff.mp e
        subst this
        rw [List.append_nil] at q
        exact q.data S (.tup h1 r1)
    · cases eb
  · rename_i a b
    split at eb
    · rename_i hl
      cases eb
      obtain ⟨p1, xs, rfl, h1, r1⟩ := v.lst S.sub
      obtain ⟨p2, ys, rfl, h2, r2⟩ := w.lst S.sub
      exact .inr (.inr (.inr ⟨_, _, _, _, rfl, rfl, h1, h2, by rw [r1.length, r2.length, ← lim_eq]; exact hl, fun p hp => q.lst S (r1.append r2) hp⟩))
    · cases eb
  · cases eb
theorem sim_add {a b : Expr} {ma mb : M B} {pos : Pos} (ha : SimE cl X a ma) (hb : SimE cl X b mb) : SimE cl X (.BinOp a .Add b pos) (mAdd ma mb) := sim_op op_addA od_add ha hb
theorem od_sub : OpD C (rI0 fun i j => .int (i - j)) iSub := by
  intro σ F H ρ A0 x y d e b Q S v w eb q
  unfold iSub at eb
  split at eb
  · cases eb
    rw [v.int, w.int]
    exact ⟨_, _, rfl, rfl, q.data S (.int _)⟩
  · cases eb
theorem sim_sub {a b : Expr} {ma mb : M B} {pos : Pos} (ha : SimE cl X a ma) (hb : SimE cl X b mb) : SimE cl X (.BinOp a .Sub b pos) (mSub ma mb) := sim_op op_sub od_sub ha hb
theorem smallI_of {a : Int} (h : smallI a = true) : -(2 ^ 64) < a ∧ a < 2 ^ 64 := by
  unfold smallI at h
  rw [Bool.and_eq_true] at h
  exact ⟨of_decide_eq_true h.1, of_decide_eq_true h.2⟩
def rMulA (K : PySem.W.Frag) : R2 := fun x y H Q => rI CMul (fun i j => .int (i * j)) x y H Q ∨ rRepR K x y H Q ∨ rRepT K x y H Q
theorem op_mulA : OpR X (binaryOp .Mult) (rMulA X.K) := op_mul.or (op_repR.or op_repT)
theorem od_mul : OpD C (rMulA C.K) iMul := by
  intro σ F H ρ A0 x y d e b Q S v w eb q
  unfold iMul at eb
  split at eb
  · split at eb
    · rename_i h
      cases eb
      rw [v.int, w.int]
      refine .inl ⟨_, _, rfl, rfl, ?_, q.data S (.int _)⟩
      rw [Bool.or_eq_true] at h
      rcases h with h | h
      · exact .inl (smallI_of h)
      · exact .inr (smallI_of h)
    · cases eb
  · split at eb
    · rename_i a n h
      cases eb
      rw [Bool.and_eq_true, Bool.and_eq_true] at h
      have h1 := of_decide_eq_true h.1.1
      have h2 := of_decide_eq_true h.1.2
      have h3 := of_decide_eq_true h.2
      obtain ⟨p1, xs, rfl, g1, r1⟩ := v.lst S.sub
      rw [w.int]
      refine .inr (.inl ⟨_, _, _, rfl, rfl, g1, by omega, by omega, ?_, fun p hp => q.lst S (r1.rep _) hp⟩)
      rw [r1.length, sizeLine_eq]
      have := Nat.mul_le_mul h3 (show n.toNat ≤ 1000 by omega)
      omega
    · cases eb
  · split at eb
    · rename_i a n h
      cases eb
      rw [Bool.and_eq_true, Bool.and_eq_true, Bool.and_eq_true] at h
      have h1 := of_decide_eq_true h.1.1.1
      have h2 := of_decide_eq_true h.1.1.2
      have h3 := of_decide_eq_true h.1.2
      obtain ⟨p1, xs, rfl, g1, r1⟩ := v.tup
      rw [w.int]
      refine .inr (.inr ⟨_, _, _, rfl, rfl, S.sub.sqT g1, fun e => ?_, h1, h2, by rw [r1.length]; exact h3, fun p hp => q.tup S (r1.rep _) hp⟩)
      have := r1.nil_iff.mp e
      subst this
      exact absurd h.2 (by decide)
    · cases eb
  · cases eb
theorem sim_mul {a b : Expr} {ma mb : M B} {pos : Pos} (ha : SimE cl X a ma) (hb : SimE cl X b mb) : SimE cl X (.BinOp a .Mult b pos) (mMul ma mb) := sim_op op_mulA od_mul ha hb
theorem od_fdiv : OpD C (rI CDiv fun i j => .int (i / j)) iFdiv := by
  intro σ F H ρ A0 x y d e b Q S v w eb q
  unfold iFdiv at eb
  split at eb
  · split at eb
    · rename_i h
      cases eb
      rw [Bool.and_eq_true] at h
      rw [v.int, w.int]
      exact ⟨_, _, rfl, rfl, ⟨of_decide_eq_true h.1, of_decide_eq_true h.2⟩, q.data S (.int _)⟩
    · cases eb
  · cases eb
theorem sim_fdiv {a b : Expr} {ma mb : M B} {pos : Pos} (ha : SimE cl X a ma) (hb : SimE cl X b mb) : SimE cl X (.BinOp a .FloorDiv b pos) (mFdiv ma mb) := sim_op op_fdiv od_fdiv ha hb
theorem od_mod : OpD C (rI (fun _ j => 0 < j) fun i j => .int (i % j)) iMod := by
  intro σ F H ρ A0 x y d e b Q S v w eb q
  unfold iMod at eb
  split at eb
  · split at eb
    · rename_i h
      cases eb
      rw [v.int, w.int]
      exact ⟨_, _, rfl, rfl, of_decide_eq_true h, q.data S (.int _)⟩
    · cases eb
  · cases eb
theorem sim_mod {a b : Expr} {ma mb : M B} {pos : Pos} (ha : SimE cl X a ma) (hb : SimE cl X b mb) : SimE cl X (.BinOp a .Mod b pos) (mMod ma mb) := sim_op op_mod od_mod ha hb
theorem od_pow : OpD C (rI CPow fun i j => .int (i ^ j.toNat)) iPow := by
  intro σ F H ρ A0 x y d e b Q S v w eb q
  unfold iPow at eb
  split at eb
  · split at eb
    · rename_i h
      cases eb
      rw [Bool.and_eq_true, Bool.and_eq_true] at h
      have h2 := of_decide_eq_true h.1.2
      have h3 := smallI_of h.2
      rw [v.int, w.int]
      exact ⟨_, _, rfl, rfl, ⟨of_decide_eq_true h.1.1, by omega, by omega⟩, q.data S (.int _)⟩
    · cases eb
  · cases eb
theorem sim_pow {a b : Expr} {ma mb : M B} {pos : Pos} (ha : SimE cl X a ma) (hb : SimE cl X b mb) : SimE cl X (.BinOp a .Pow b pos) (mPow ma mb) := sim_op op_pow od_pow ha hb
theorem sim_neg {a : Expr} {ma : M B} {pos : Pos} (ha : SimE cl X a ma) : SimE cl X (.UnaryOp .USub a pos) (mNeg ma) := fun W tk => PE.imp (pe_un un_neg (ha W tk)) fun σ H Q ⟨F, ρ, S, h⟩ => by
  refine one_bind S h fun x d F2 H2 ρ2 S2 v q => ?_
  obtain ⟨b, eb, q⟩ := tR_end q
  unfold iNeg at eb
  split at eb
  · cases eb
    rw [v.int]
    exact ⟨_, rfl, q.data S2 (.int _)⟩
  · cases eb
end
end WF

set_option Elab.async false
set_option linter.all false
set_option maxRecDepth 100000
set_option maxHeartbeats 4000000
/-! WFE: == and in, tests, displays, subscripts. -/
namespace WF
open PySem PySem.Spec PyProof.Rows L2

mutual
/-- as the library's data -/
def toPy : D → PyData
  | .non => .none
  | .bl b => .bool b
  | .int i => .int i
  | .str s => .str (mkS s)
  | .tup xs => .tuple (toPys xs)
  | .lst xs => .list (toPys xs)
  | .dic _ _ => .dict []
def toPys : List D → List PyData
  | [] => []
  | x :: xs => toPy x :: toPys xs
end
theorem mkS_beq (a b : Txt) : (mkS a == mkS b) = (a == b) := by
  rw [Bool.eq_iff_iff, beq_iff_eq, beq_iff_eq]
  exact ⟨mkS_inj, fun e => by rw [e]⟩
mutual
theorem eqv_py : ∀ (d e : D), PyData.eqv (toPy d) (toPy e) = D.eqv d e
  | .non, e => by cases e <;> simp [toPy, PyData.eqv, D.eqv]
  | .bl b, e => by cases e <;> simp [toPy, PyData.eqv, D.eqv]
  | .int i, e => by cases e <;> simp [toPy, PyData.eqv, D.eqv]
  | .str s, e => by cases e <;> simp [toPy, PyData.eqv, D.eqv, mkS_beq]
  | .tup xs, e => by
    cases e with
    | tup ys => simp only [toPy, PyData.eqv, D.eqv]; exact eqvs_py xs ys
    | _ => simp [toPy, PyData.eqv, D.eqv]
  | .lst xs, e => by
    cases e with
    | lst ys => simp only [toPy, PyData.eqv, D.eqv]; exact eqvs_py xs ys
    | _ => simp [toPy, PyData.eqv, D.eqv]
  | .dic _ _, e => by cases e <;> simp [toPy, PyData.eqv, D.eqv]
theorem eqvs_py : ∀ (ds es : List D), PyData.eqvAll (toPys ds) (toPys es) = D.eqvs ds es
  | [], [] => by simp [toPys, PyData.eqvAll, D.eqvs]
  | [], _ :: _ => by simp [toPys, PyData.eqvAll, D.eqvs]
  | _ :: _, [] => by simp [toPys, PyData.eqvAll, D.eqvs]
  | d :: ds, e :: es => by simp only [toPys, PyData.eqvAll, D.eqvs]; rw [eqv_py d e, eqvs_py ds es]
end
mutual
theorem dep_py : ∀ (d : D), D.dep d < 1000 → (toPy d).depth = D.dep d
  | .non, _ => by simp [toPy, PyData.depth, D.dep]
  | .bl b, _ => by simp [toPy, PyData.depth, D.dep]
  | .int i, _ => by simp [toPy, PyData.depth, D.dep]
  | .str s, _ => by simp [toPy, PyData.depth, D.dep]
  | .tup xs, h => by
    have h' : D.deps xs + 1 < 1000 := by simpa [D.dep] using h
    simp only [toPy, PyData.depth, D.dep]; rw [deps_py xs (by omega)]
  | .lst xs, h => by
    have h' : D.deps xs + 1 < 1000 := by simpa [D.dep] using h
    simp only [toPy, PyData.depth, D.dep]; rw [deps_py xs (by omega)]
  | .dic _ _, h => by simp [D.dep] at h
theorem deps_py : ∀ (ds : List D), D.deps ds < 1000 → PyData.depthAll (toPys ds) = D.deps ds
  | [], _ => by simp [toPys, PyData.depthAll, D.deps]
  | d :: ds, h => by
    have h' : max (D.dep d) (D.deps ds) < 1000 := by simpa [D.deps] using h
    simp only [toPys, PyData.depthAll, D.deps]; rw [dep_py d (by omega), deps_py ds (by omega)]
end
theorem strOk_of {s : Txt} (h : okT s) : PyData.strOk (mkS s) = true := by
  unfold PyData.strOk mkS
  rw [Array.all_eq_true']
  intro c m
  have := h.1 c (by simpa using m)
  exact decide_eq_true this
mutual
theorem lay_py {C : Cs} {F : Hp} : ∀ {v : V} {d : D}, Rep C F v d → D.dep d < 1000 → (toPy d).canLay0 = true
  | _, _, .non, _ => by simp [toPy, PyData.canLay0]
  | _, _, .bl _, _ => by simp [toPy, PyData.canLay0]
  | _, _, .int _, _ => by simp [toPy, PyData.canLay0]
  | _, _, .str _ o, _ => by simp only [toPy, PyData.canLay0]; exact strOk_of o
  | _, .tup ds, .tup _ r, h => by
    have h' : D.deps ds + 1 < 1000 := by simpa [D.dep] using h
    simp only [toPy, PyData.canLay0]; exact lays_py r (by omega)
  | _, .lst ds, .lst _ r, h => by
    have h' : D.deps ds + 1 < 1000 := by simpa [D.dep] using h
    simp only [toPy, PyData.canLay0]; exact lays_py r (by omega)
  | _, _, .dicS _ _, h => by simp [D.dep] at h
  | _, _, .dicT _ _, h => by simp [D.dep] at h
theorem lays_py {C : Cs} {F : Hp} : ∀ {v : List V} {d : List D}, Reps C F v d → D.deps d < 1000 → PyData.canLayAll0 (toPys d) = true
  | _, _, .nil, _ => by simp [toPys, PyData.canLayAll0]
  | _, d :: ds, .cons h r, k => by
    have h' : max (D.dep d) (D.deps ds) < 1000 := by simpa [D.deps] using k
    simp only [toPys, PyData.canLayAll0]; rw [lay_py h (by omega), lays_py r (by omega)]; rfl
end
mutual
theorem dp_py {C : Cs} {F : Hp} : ∀ {v : V} {d : D}, Rep C F v d → D.dep d < 1000 → Dp C.K F v (toPy d)
  | _, _, .non, _ => .non
  | _, _, .bl b, _ => .bl b
  | _, _, .int i, _ => .int i
  | _, _, .str s _, _ => .str (mkS s)
  | _, .tup ds, .tup q r, h => by
    have h' : D.deps ds + 1 < 1000 := by simpa [D.dep] using h
    simp only [toPy]; exact .tup q (dps_py r (by omega))
  | _, .lst ds, .lst q r, h => by
    have h' : D.deps ds + 1 < 1000 := by simpa [D.dep] using h
    simp only [toPy]; exact .lst q (dps_py r (by omega))
  | _, _, .dicS _ _, h => by simp [D.dep] at h
  | _, _, .dicT _ _, h => by simp [D.dep] at h
theorem dps_py {C : Cs} {F : Hp} : ∀ {v : List V} {d : List D}, Reps C F v d → D.deps d < 1000 → DpAll C.K F v (toPys d)
  | _, _, .nil, _ => .nil
  | _, d :: ds, .cons h r, k => by
    have h' : max (D.dep d) (D.deps ds) < 1000 := by simpa [D.deps] using k
    exact .cons (dp_py h (by omega)) (dps_py r (by omega))
end
theorem shaped_py {C : Cs} {F : Hp} {v : V} {d : D} (r : Rep C F v d) (h : D.dep d ≤ 60) : SeqAt.shaped (toPy d) = true := by
  unfold SeqAt.shaped
  rw [lay_py r (by omega), dep_py d (by omega)]
  exact decide_eq_true (by omega)

section
variable {cl : Nat → Addr} {X : Cx} {C : Cs} {σ : St} {F H : Hp} {ρ : Env} {A A0 : List Addr}
theorem od_eq : OpD C (rEqD C.K) iEq := by
  intro σ F H ρ A0 x y d e b Q S v w eb q
  unfold iEq at eb
  split at eb
  · rename_i h
    cases eb
    rw [Bool.and_eq_true] at h
    have h1 := of_decide_eq_true h.1
    have h2 := of_decide_eq_true h.2
    refine ⟨toPy d, toPy e, dp_py (v.rep S.sub) (by omega), dp_py (w.rep S.sub) (by omega), shaped_py (v.rep S.sub) h1, shaped_py (w.rep S.sub) h2, ?_⟩
    rw [eqv_py]
    exact q.data S (.bl _)
  · cases eb
theorem od_ne : OpD C (rNeD C.K) iNe := by
  intro σ F H ρ A0 x y d e b Q S v w eb q
  unfold iNe at eb
  split at eb
  · rename_i h
    cases eb
    rw [Bool.and_eq_true] at h
    have h1 := of_decide_eq_true h.1
    have h2 := of_decide_eq_true h.2
    refine ⟨toPy d, toPy e, dp_py (v.rep S.sub) (by omega), dp_py (w.rep S.sub) (by omega), shaped_py (v.rep S.sub) h1, shaped_py (w.rep S.sub) h2, ?_⟩
    rw [eqv_py]
    exact q.data S (.bl _)
  · cases eb
/-- room for what is asked of nested data -/
abbrev Hu (X : Cx) : Prop := X.A.units + 65 < cLine
theorem sim_eq {a b : Expr} {ma mb : M B} (hu : Hu X) (ha : SimE cl X a ma) (hb : SimE cl X b mb) : SimC cl X .Eq a b (mEq ma mb) := sim_cmp (op_eqD (by have : X.A.units + 65 < cLine := hu; omega)) od_eq (fun d e b h => by unfold iEq at h; split at h <;> cases h; exact ⟨_, rfl⟩) (nomark b) ha hb
theorem sim_ne {a b : Expr} {ma mb : M B} (hu : Hu X) (ha : SimE cl X a ma) (hb : SimE cl X b mb) : SimC cl X .NotEq a b (mNe ma mb) := sim_cmp (op_neD (by have : X.A.units + 65 < cLine := hu; omega)) od_ne (fun d e b h => by unfold iNe at h; split at h <;> cases h; exact ⟨_, rfl⟩) (nomark b) ha hb
theorem od_int {f : D → D → Option B} {g : Int → Int → Bool} (hf : ∀ d e b, f d e = some b → ∃ i j, d = .int i ∧ e = .int j ∧ b = boo (g i j)) : OpD C (rI0 fun i j => .bl (g i j)) f := by
  intro σ F H ρ A0 x y d e b Q S v w eb q
  obtain ⟨i, j, rfl, rfl, rfl⟩ := hf d e b eb
  rw [v.int, w.int]
  exact ⟨_, _, rfl, rfl, q.data S (.bl _)⟩
theorem sim_lt {a b : Expr} {ma mb : M B} (ha : SimE cl X a ma) (hb : SimE cl X b mb) : SimC cl X .Lt a b (mLt ma mb) := sim_cmp op_lt (od_int fun d e b h => by
  unfold iLt at h; split at h <;> cases h; exact ⟨_, _, rfl, rfl, rfl⟩) (fun d e b h => by unfold iLt at h; split at h <;> cases h; exact ⟨_, rfl⟩) (nomark b) ha hb
theorem sim_le {a b : Expr} {ma mb : M B} (ha : SimE cl X a ma) (hb : SimE cl X b mb) : SimC cl X .LtE a b (mLe ma mb) := sim_cmp op_le (od_int fun d e b h => by
  unfold iLe at h; split at h <;> cases h; exact ⟨_, _, rfl, rfl, rfl⟩) (fun d e b h => by unfold iLe at h; split at h <;> cases h; exact ⟨_, rfl⟩) (nomark b) ha hb
theorem sim_gt {a b : Expr} {ma mb : M B} (ha : SimE cl X a ma) (hb : SimE cl X b mb) : SimC cl X .Gt a b (mGt ma mb) := sim_cmp op_gt (od_int fun d e b h => by
  unfold iGt at h; split at h <;> cases h; exact ⟨_, _, rfl, rfl, rfl⟩) (fun d e b h => by unfold iGt at h; split at h <;> cases h; exact ⟨_, rfl⟩) (nomark b) ha hb
theorem sim_ge {a b : Expr} {ma mb : M B} (ha : SimE cl X a ma) (hb : SimE cl X b mb) : SimC cl X .GtE a b (mGe ma mb) := sim_cmp op_ge (od_int fun d e b h => by
  unfold iGe at h; split at h <;> cases h; exact ⟨_, _, rfl, rfl, rfl⟩) (fun d e b h => by unfold iGe at h; split at h <;> cases h; exact ⟨_, rfl⟩) (nomark b) ha hb
theorem onlyB_un {g : D → Bool} {a : M B} : OnlyB (bind a fun x => bind (dat x) fun d => ret (boo (g d))) := fun ρ c ρ' h => by
  obtain ⟨_, _, _, h⟩ := bind_ok h
  obtain ⟨_, _, _, h⟩ := bind_ok h
  unfold ret at h
  cases h
  exact ⟨_, rfl⟩
theorem sim_isN {a : Expr} {ma : M B} {j} {pos' : Pos} (ha : SimE cl X a ma) : SimC cl X .Is a (.Constant .none j pos') (mIsN ma) := ⟨fun W tk => ⟨fun pins s σ H Q I ⟨F, ρ, S, h⟩ => (pc_isN (ha W tk)).run pins s σ H Q I
  (one_bind S h fun x d F2 H2 ρ2 S2 v q => by
    rw [v.isNon]
    exact (tR_ret q).data S2 (.bl _))⟩, rfl, onlyB_un⟩
theorem sim_notN {a : Expr} {ma : M B} {j} {pos' : Pos} (ha : SimE cl X a ma) : SimC cl X .IsNot a (.Constant .none j pos') (mNotN ma) := ⟨fun W tk => ⟨fun pins s σ H Q I ⟨F, ρ, S, h⟩ => (pc_notN (ha W tk)).run pins s σ H Q I
  (one_bind S h fun x d F2 H2 ρ2 S2 v q => by
    rw [v.isNon]
    exact (tR_ret q).data S2 (.bl _))⟩, rfl, onlyB_un⟩

/-! ### in: of a list, of a tuple, at any depth -/
theorem any_py (x : D) : ∀ ys : List D, ((toPys ys).any fun z => PyData.eqv z (toPy x)) = memD x ys
  | [] => rfl
  | y :: ys => by
    have ih := any_py x ys
    unfold memD at ih ⊢
    rw [toPys, List.any_cons, List.any_cons, eqv_py, ih]
def rInT (K : PySem.W.Frag) (neg : Bool) : R2 := fun x y H Q => ∃ d ds, Dp K H x d ∧ Dp K H y (.tuple ds) ∧ SeqAt.shaped d = true ∧ SeqAt.shaped (.tuple ds) = true ∧ Q (.bl (if neg then !(ds.any fun z => PyData.eqv z d) else ds.any fun z => PyData.eqv z d)) H
theorem op_inT (hu : Hu X) : OpR X (compareOp .In) (rInT X.K false) := by
  intro pins s σ H x y v u Q I rx ry h
  obtain ⟨d, ds, hd, he, sd, se, q⟩ := h
  obtain ⟨as, r1⟩ := Dp.reads I d x v hd rx
  obtain ⟨bs, r2⟩ := Dp.reads I (.tuple ds) y u he ry
  exact SeqAt.in_tuple_reads r2 r1 (SeqAt.canLay_of_shaped se) (SeqAt.canLay_of_shaped sd) (room_in_shaped sd hu) ⟨.bl _, H, I, rfl, q⟩
theorem op_notInT (hu : Hu X) : OpR X (compareOp .NotIn) (rInT X.K true) := by
  intro pins s σ H x y v u Q I rx ry h
  obtain ⟨d, ds, hd, he, sd, se, q⟩ := h
  obtain ⟨as, r1⟩ := Dp.reads I d x v hd rx
  obtain ⟨bs, r2⟩ := Dp.reads I (.tuple ds) y u he ry
  exact SeqAt.notIn_tuple_reads r2 r1 (SeqAt.canLay_of_shaped se) (SeqAt.canLay_of_shaped sd) (room_in_shaped sd hu) ⟨.bl _, H, I, rfl, q⟩
end
end WF

set_option Elab.async false
set_option linter.all false
set_option maxRecDepth 100000
set_option maxHeartbeats 4000000
/-! WFF: dicts (text keys; nested tuples as keys): in, [], get, store. -/
namespace WF
open PySem PySem.Spec PyProof.Rows L2

/-! ### keys that are nested tuples -/
mutual
theorem nk_beq : ∀ d e : D, D.key d = true → D.key e = true → NestedKey.beq (nk d) (nk e) = D.eqv d e
  | .non, e, _, h => by cases e <;> simp [nk, NestedKey.beq, D.eqv, D.key] at h ⊢
  | .bl b, e, _, h => by cases e <;> simp [nk, NestedKey.beq, D.eqv, D.key] at h ⊢ <;> (cases b <;> first | (rename_i c; cases c <;> decide) | (simp [Bool.beq_eq_decide_eq]; done) | skip) <;> simp [Int.beq_eq_decide_eq, eq_comm] <;> rfl
  | .int i, e, _, h => by
    cases e with
    | bl b => cases b <;> simp [nk, NestedKey.beq, D.eqv] <;> rfl
    | int j => simp only [nk, NestedKey.beq, D.eqv]; rfl
    | lst xs => simp [D.key] at h
    | dic t xs => simp [D.key] at h
    | _ => simp [nk, NestedKey.beq, D.eqv]
  | .str s, e, _, h => by
    cases e with
    | str t =>
      simp only [nk, NestedKey.beq, D.eqv]
      rw [← mkS_beq]; rfl
    | lst xs => simp [D.key] at h
    | dic t xs => simp [D.key] at h
    | _ => simp [nk, NestedKey.beq, D.eqv]
  | .tup xs, e, g, h => by
    cases e with
    | tup ys =>
      simp only [nk, NestedKey.beq, D.eqv]
      exact nks_beq xs ys (by simpa [D.key] using g) (by simpa [D.key] using h)
    | lst xs => simp [D.key] at h
    | dic t xs => simp [D.key] at h
    | _ => simp [nk, NestedKey.beq, D.eqv]
  | .lst _, _, g, _ => by simp [D.key] at g
  | .dic _ _, _, g, _ => by simp [D.key] at g
theorem nks_beq : ∀ ds es : List D, D.keys ds = true → D.keys es = true → NestedKey.beqAll (nks ds) (nks es) = D.eqvs ds es
  | [], [], _, _ => by simp [nks, NestedKey.beqAll, D.eqvs]
  | [], _ :: _, _, _ => by simp [nks, NestedKey.beqAll, D.eqvs]
  | _ :: _, [], _, _ => by simp [nks, NestedKey.beqAll, D.eqvs]
  | d :: ds, e :: es, g, h => by
    have g' : D.key d = true ∧ D.keys ds = true := by simpa [D.keys] using g
    have h' : D.key e = true ∧ D.keys es = true := by simpa [D.keys] using h
    simp only [nks, NestedKey.beqAll, D.eqvs]
    rw [nk_beq d e g'.1 h'.1, nks_beq ds es g'.2 h'.2]
end
mutual
theorem nk_depth : ∀ d : D, D.key d = true → (nk d).depth = D.dep d
  | .non, _ => by simp [nk, NestedKey.depth, D.dep]
  | .bl _, _ => by simp [nk, NestedKey.depth, D.dep]
  | .int _, _ => by simp [nk, NestedKey.depth, D.dep]
  | .str _, _ => by simp [nk, NestedKey.depth, D.dep]
  | .tup xs, h => by simp only [nk, NestedKey.depth, D.dep]; rw [nks_depth xs (by simpa [D.key] using h)]
  | .lst _, g => by simp [D.key] at g
  | .dic _ _, g => by simp [D.key] at g
theorem nks_depth : ∀ ds : List D, D.keys ds = true → NestedKey.depthAll (nks ds) = D.deps ds
  | [], _ => by simp [nks, NestedKey.depthAll, D.deps]
  | d :: ds, g => by
    have g' : D.key d = true ∧ D.keys ds = true := by simpa [D.keys] using g
    simp only [nks, NestedKey.depthAll, D.deps]; rw [nk_depth d g'.1, nks_depth ds g'.2]
end
theorem keyT_key {d : D} (h : keyT d = true) : D.key d = true ∧ D.dep d ≤ 8 ∧ ∃ xs, d = .tup xs := by
  cases d with
  | tup xs =>
    have h : (D.keys xs && decide (D.dep (.tup xs) ≤ 8)) = true := h
    rw [Bool.and_eq_true] at h
    exact ⟨by simp only [D.key]; exact h.1, of_decide_eq_true h.2, _, rfl⟩
  | _ => exact absurd (show false = true from h) Bool.false_ne_true
theorem nk_dec {d e : D} (g : keyT d = true) (h : keyT e = true) : decide (nk d = nk e) = D.eqv d e := by
  rw [NestedKey.decide_eq, nk_beq d e (keyT_key g).1 (keyT_key h).1]

section
variable {X : Cx} {cl : Nat → Addr} {pins : List (Addr × Obj)} {σ : St} {F H : Hp} {s : Shared}
mutual
theorem nk_is (I : Inv X pins σ H s) : ∀ {v : V} {d : D} {u : Value}, Rep (cs cl X) H v d → D.key d = true → RelV v u → NestedIs s.heap (nk d) u
  | _, _, _, .non, _, r => by cases r; simp only [nk]; exact .none
  | _, _, _, .bl b, _, r => by cases r; simp only [nk]; exact .bool rfl
  | _, _, _, .int i, _, r => by obtain ⟨t, rfl⟩ := r; simp only [nk]; exact .int _ _
  | _, _, _, .str t _, _, r => by obtain ⟨t, rfl⟩ := r; simp only [nk]; exact .text _ _
  | _, .tup ds, _, .tup q a, h, r => by
    cases r
    obtain ⟨its, rv, ⟨o, ho, hc, n, hd⟩, _⟩ := I.tuple q
    simp only [nk]
    exact .tup ho hc hd (nks_is I a (by simpa [D.key] using h) (by simpa using rv))
  | _, _, _, .lst _ _, h, _ => by simp [D.key] at h
  | _, _, _, .dicS _ _, h, _ => by simp [D.key] at h
  | _, _, _, .dicT _ _, h, _ => by simp [D.key] at h
theorem nks_is (I : Inv X pins σ H s) : ∀ {vs : List V} {ds : List D} {us : List Value}, Reps (cs cl X) H vs ds → D.keys ds = true → Vals vs us → NestedAll s.heap (nks ds) us
  | _, _, _, .nil, _, r => by cases r; simp only [nks]; exact .nil
  | _, d :: ds, _, .cons a b, h, r => by
    have h' : D.key d = true ∧ D.keys ds = true := by simpa [D.keys] using h
    cases r with
    | cons r1 r2 => simp only [nks]; exact .cons (nk_is I a h'.1 r1) (nks_is I b h'.2 r2)
end
theorem key_is (I : Inv X pins σ H s) {a : Addr} {d : D} (r : Rep (cs cl X) H (.ref a) d) (h : keyT d = true) : (nestedKind X.prog X.w).is s.heap (nk d) a :=
  ⟨nk_is I r (keyT_key h).1 rfl, by rw [nk_depth d (keyT_key h).1]; exact (keyT_key h).2.1⟩
end
end WF

namespace WF
open PySem PySem.Spec PyProof.Rows L2
abbrev XT := NestedKey × Addr × V
abbrev YT := NestedKey × Addr × Value
abbrev RelT : List XT → List YT → Prop := Paired fun (p : XT) (q : YT) => p.1 = q.1 ∧ p.2.1 = q.2.1 ∧ RelV p.2.2 q.2.2
def hasX (xs : List XT) (k : NestedKey) : Bool := xs.any fun x => decide (x.1 = k)
def storedX (xs : List XT) (k : NestedKey) (a : Addr) (v : V) : List XT := if hasX xs k then xs.map (fun x => if x.1 = k then (x.1, x.2.1, v) else x) else xs ++ [(k, a, v)]
section
variable {C : Cs} {F : Hp}
theorem Paired.app {α β : Type} {R : α → β → Prop} : ∀ {a c : List α} {b d : List β}, Paired R a b → Paired R c d → Paired R (a ++ c) (b ++ d)
  | _, _, _, _, .nil, s => s
  | _, _, _, _, .cons r t, s => .cons r (Paired.app t s)
theorem relT_has : ∀ {xs : List XT} {ys : List YT}, RelT xs ys → ∀ k, (atKey ys k).isSome = hasX xs k
  | _, _, .nil, _ => rfl
  | _, _, .cons (a := x) (b := y) r t, k => by
    have ih := relT_has t k
    unfold atKey hasX at ih ⊢
    rw [List.any_cons, List.find?_cons, ← r.1]
    by_cases h : x.1 = k
    · simp [h]
    · simp only [h, decide_false, Bool.false_or]; exact ih
theorem relT_put (k : NestedKey) {v : V} {u : Value} (rv : RelV v u) : ∀ {xs : List XT} {ys : List YT}, RelT xs ys → RelT (xs.map fun x => if x.1 = k then (x.1, x.2.1, v) else x) (ys.map (putAt k u))
  | _, _, .nil => .nil
  | _, _, .cons (a := x) (b := y) r t => by
    refine .cons ?_ (relT_put k rv t)
    unfold putAt
    rw [← r.1]
    dsimp only
    by_cases h : x.1 = k
    · rw [if_pos h, if_pos h]; exact ⟨rfl, r.2.1, rv⟩
    · rw [if_neg h, if_neg h]; exact r
theorem relT_stored {xs : List XT} {ys : List YT} (r : RelT xs ys) (k : NestedKey) (a : Addr) {v : V} {u : Value} (rv : RelV v u) : RelT (storedX xs k a v) (storedH ys k a u) := by
  unfold storedX storedH
  rw [relT_has r k]
  split
  · exact relT_put k rv r
  · exact Paired.app r (.cons ⟨rfl, rfl, rv⟩ .nil)
theorem repT_has : ∀ {xs : List XT} {kvs : List (D × D)}, RepT C F xs kvs → ∀ k, keyT k = true → hasX xs (nk k) = (lookD kvs k).isSome
  | _, _, .nil, _, _ => rfl
  | _, _, .cons g rk rv t, k, h => by
    have ih := repT_has t k h
    unfold hasX lookD at ih ⊢
    rw [List.any_cons, List.find?_cons, nk_dec g h]
    cases e : D.eqv _ k with
    | true => simp
    | false => rw [Bool.false_or]; exact ih
theorem repT_put {k d : D} {v : V} (h : keyT k = true) (rv : Rep C F v d) : ∀ {xs : List XT} {kvs : List (D × D)}, RepT C F xs kvs → RepT C F (xs.map fun x => if x.1 = nk k then (x.1, x.2.1, v) else x) (kvs.map fun p => if D.eqv p.1 k then (p.1, d) else p)
  | _, _, .nil => .nil
  | _, _, .cons (k := k') g rk' rv' t => by
    rw [List.map_cons, List.map_cons]
    have q := nk_dec g h
    cases e : D.eqv k' k with
    | true =>
      rw [e] at q
      rw [if_pos (of_decide_eq_true q), if_pos rfl]
      exact .cons g rk' rv (repT_put h rv t)
    | false =>
      rw [e] at q
      rw [if_neg (of_decide_eq_false q), if_neg Bool.false_ne_true]
      exact .cons g rk' rv' (repT_put h rv t)
theorem repT_app {xs' : List XT} {kvs' : List (D × D)} (r' : RepT C F xs' kvs') : ∀ {xs : List XT} {kvs : List (D × D)}, RepT C F xs kvs → RepT C F (xs ++ xs') (kvs ++ kvs')
  | _, _, .nil => r'
  | _, _, .cons g rk rv t => .cons g rk rv (repT_app r' t)
theorem repT_stored {xs : List XT} {kvs : List (D × D)} (r : RepT C F xs kvs) {k d : D} {a : Addr} {v : V} (h : keyT k = true) (rk : Rep C F (.ref a) k) (rv : Rep C F v d) : RepT C F (storedX xs (nk k) a v) (putD kvs k d) := by
  unfold storedX putD
  rw [repT_has r k h]
  split
  · exact repT_put h rv r
  · exact repT_app (.cons h rk rv .nil) r
theorem hasX_mem {xs : List XT} {k : NestedKey} : hasX xs k = true ↔ k ∈ xs.map (·.1) := by
  unfold hasX
  rw [List.any_eq_true, List.mem_map]
  constructor
  · rintro ⟨x, m, e⟩; exact ⟨x, m, of_decide_eq_true e⟩
  · rintro ⟨x, m, e⟩; exact ⟨x, m, decide_eq_true e⟩
theorem stored_keys (xs : List XT) (k : NestedKey) (a : Addr) (v : V) : (storedX xs k a v).map (·.1) = if hasX xs k then xs.map (·.1) else xs.map (·.1) ++ [k] := by
  unfold storedX
  split
  · rw [List.map_map]
    refine List.map_congr_left fun x _ => ?_
    by_cases h : x.1 = k <;> simp [h]
  · simp
theorem stored_nodup {xs : List XT} {k : NestedKey} {a : Addr} {v : V} (n : (xs.map (·.1)).Nodup) : ((storedX xs k a v).map (·.1)).Nodup := by
  rw [stored_keys]
  split
  · exact n
  · rename_i h
    rw [List.nodup_append]
    refine ⟨n, by simp, fun x m y m' e => ?_⟩
    rw [List.mem_singleton.mp m'] at e
    subst e
    exact h (hasX_mem.mpr m)
theorem stored_length (xs : List XT) (k : NestedKey) (a : Addr) (v : V) : (storedX xs k a v).length ≤ xs.length + 1 := by
  unfold storedX
  split
  · simp
  · simp
/-- the value at a key -/
theorem repT_at : ∀ {xs : List XT} {ys : List YT} {kvs : List (D × D)}, RepT C F xs kvs → RelT xs ys → ∀ {k d : D}, keyT k = true → lookD kvs k = some d → ∃ p v, atKey ys (nk k) = some p ∧ RelV v p.2 ∧ Rep C F v d
  | _, _, _, .nil, .nil, _, _, _, e => by cases e
  | _, _, _, .cons g rk rv t, .cons r t', k, d, h, e => by
    unfold lookD at e
    unfold atKey
    rw [List.find?_cons] at e ⊢
    rw [← r.1, nk_dec g h]
    cases q : D.eqv _ k with
    | true =>
      rw [q] at e
      cases e
      exact ⟨_, _, rfl, r.2.2, rv⟩
    | false =>
      rw [q] at e
      exact repT_at t t' h e
theorem repT_keys : ∀ {xs : List XT} {kvs : List (D × D)}, RepT C F xs kvs → ∀ x ∈ xs, ∃ k, keyT k = true ∧ nk k = x.1 ∧ Rep C F (.ref x.2.1) k
  | _, _, .cons g rk rv t, x, m => by
    rcases List.mem_cons.mp m with e | m
    · subst e; exact ⟨_, g, rfl, rk⟩
    · exact repT_keys t x m
end
section
variable {X : Cx} {cl : Nat → Addr} {pins : List (Addr × Obj)} {σ : St} {F H : Hp} {s : Shared}
theorem relT_fst : ∀ {xs : List XT} {ys : List YT}, RelT xs ys → ys.map (·.1) = xs.map (·.1)
  | _, _, .nil => rfl
  | _, _, .cons r t => by rw [List.map_cons, List.map_cons, relT_fst t, r.1]
theorem relT_mem : ∀ {xs : List XT} {ys : List YT}, RelT xs ys → ∀ {y : YT}, y ∈ ys → ∃ x ∈ xs, x.1 = y.1 ∧ x.2.1 = y.2.1
  | _, _, .nil, _, m => nomatch m
  | _, _, .cons r t, y, m => by
    rcases List.mem_cons.mp m with e | m
    · subst e; exact ⟨_, List.mem_cons_self, r.1, r.2.1⟩
    · obtain ⟨x, m', q⟩ := relT_mem t m
      exact ⟨x, List.mem_cons_of_mem _ m', q⟩
theorem dk_at (I : Inv X pins σ H s) {a : Addr} {xs : List XT} {kvs : List (D × D)} (e : H a = some (dkT (cs cl X) a xs)) (r : RepT (cs cl X) F xs kvs) (sub : Sub F H) :
    ∃ ys : List YT, RelT xs ys ∧ s.heap.DictOfH (nestedKind X.prog X.w) a ys ∧ xs.length ≤ sizeLine ∧ (a == sysModules) = false ∧ (xs.map (·.1)).Nodup := by
  obtain ⟨⟨ys, rel, o, es, ep, h1, h2, h3, h4, h5, h6, h7⟩, _⟩ := I.hok a _ e
  have ek := relT_fst rel
  refine ⟨ys, rel, ⟨o, es, ep, h1, h2, h3, h4, fun y m => ?_, by rw [ek]; exact h7⟩, h5, h6, h7⟩
  obtain ⟨x, m', q⟩ := relT_mem rel m
  obtain ⟨k, g, ek, rk⟩ := repT_keys r x m'
  rw [← q.1, ← q.2, ← ek]
  exact key_is I (rk.mono sub) g
end
end WF

set_option Elab.async false
set_option linter.all false
set_option maxRecDepth 100000
set_option maxHeartbeats 4000000
/-! WFG: in, tests, displays, subscripts, slices. -/
namespace WF
open PySem PySem.Spec PyProof.Rows L2

/-! ### dicts by the layer's and the library's rules -/
section
variable {cl : Nat → Addr} {X : Cx} {C : Cs} {σ : St} {F H : Hp} {ρ : Env} {A A0 : List Addr}
theorem repS_has {F : Hp} : ∀ {xs : List (Key × V)} {kvs : List (D × D)}, RepS C F xs kvs → ∀ t : Txt, (valV xs (Sum.inr (mkS t))).isSome = (lookD kvs (.str t)).isSome ∧ ∀ d, lookD kvs (.str t) = some d → ∃ v, valV xs (Sum.inr (mkS t)) = some v ∧ Rep C F v d
  | _, _, .nil, t => ⟨rfl, fun d h => by cases h⟩
  | _, _, .cons (s := s) o r z, t => by
    obtain ⟨h1, h2⟩ := repS_has z t
    unfold lookD at h1 h2 ⊢
    rw [List.find?_cons]
    have e : D.eqv (.str s) (.str t) = (s == t) := by simp [D.eqv]
    rw [show D.eqv ((D.str s, _) : D × D).1 (.str t) = (s == t) from e]
    by_cases q : s = t
    · subst q
      rw [valV_pos rfl, beq_self_eq_true]
      exact ⟨rfl, fun d h => by cases h; exact ⟨_, rfl, r⟩⟩
    · have q' : ¬ (Sum.inr (mkS s) : Key) = Sum.inr (mkS t) := fun z => q (mkS_inj (Sum.inr.inj z))
      rw [valV_neg q', beq_false_of_ne q]
      exact ⟨h1, h2⟩
theorem repS_map {F : Hp} {t : Txt} {v : V} {d : D} (rv : Rep C F v d) : ∀ {xs : List (Key × V)} {kvs : List (D × D)}, RepS C F xs kvs →
    RepS C F (xs.map fun kv => if kv.1 = Sum.inr (mkS t) then (kv.1, v) else kv) (kvs.map fun p => if D.eqv p.1 (.str t) then (p.1, d) else p)
  | _, _, .nil => .nil
  | _, _, .cons (s := s) o r z => by
    rw [List.map_cons, List.map_cons]
    have e : D.eqv (.str s) (.str t) = (s == t) := by simp [D.eqv]
    by_cases q : s = t
    · subst q
      rw [if_pos rfl, if_pos (by rw [e, beq_self_eq_true])]
      exact .cons o rv (repS_map rv z)
    · rw [if_neg (fun z => q (mkS_inj (Sum.inr.inj z))), if_neg (by rw [e, beq_false_of_ne q]; exact Bool.false_ne_true)]
      exact .cons o r (repS_map rv z)
theorem repS_app {F : Hp} {xs' : List (Key × V)} {kvs' : List (D × D)} (r' : RepS C F xs' kvs') : ∀ {xs : List (Key × V)} {kvs : List (D × D)}, RepS C F xs kvs → RepS C F (xs ++ xs') (kvs ++ kvs')
  | _, _, .nil => r'
  | _, _, .cons o r z => .cons o r (repS_app r' z)
theorem repS_put {F : Hp} {t : Txt} {v : V} {d : D} {xs : List (Key × V)} {kvs : List (D × D)} (r : RepS C F xs kvs) (o : okT t) (rv : Rep C F v d) : RepS C F (putK xs (Sum.inr (mkS t)) v) (putD kvs (.str t) d) := by
  unfold putK putD
  rw [valV_any, (repS_has r t).1]
  by_cases h : (lookD kvs (.str t)).isSome = true
  · rw [if_pos h, if_pos h]; exact repS_map rv r
  · rw [if_neg h, if_neg h]; exact repS_app (.cons o rv .nil) r
theorem RepS.length {F : Hp} : ∀ {xs : List (Key × V)} {kvs : List (D × D)}, RepS C F xs kvs → xs.length = kvs.length
  | _, _, .nil => rfl
  | _, _, .cons _ _ z => by simp [RepS.length z]
theorem RepT.length {F : Hp} : ∀ {xs : List XT} {kvs : List (D × D)}, RepT C F xs kvs → xs.length = kvs.length
  | _, _, .nil => rfl
  | _, _, .cons _ _ _ z => by simp [RepT.length z]

/-- a dict looked at: it stands in H, its parts in F -/
theorem Vw.dicS {v : V} {kvs : List (D × D)} (h : Vw C F H v (.dic false kvs)) (s : Sub F H) : ∃ a xs, v = .ref a ∧ H a = some (.dK xs) ∧ RepS C F xs kvs := by
  cases h with
  | sc r => cases r with | dicS h r => exact ⟨_, _, rfl, s _ _ h, r⟩
  | ob r e =>
    cases r with
    | lst h r => cases e
    | dicS h r => cases e; exact ⟨_, _, rfl, h, r⟩
    | dicT h r => cases e
    | ins h r => cases e
theorem Vw.dicT {v : V} {kvs : List (D × D)} (h : Vw C F H v (.dic true kvs)) (s : Sub F H) : ∃ a xs, v = .ref a ∧ H a = some (dkT C a xs) ∧ RepT C F xs kvs := by
  cases h with
  | sc r => cases r with | dicT h r => exact ⟨_, _, rfl, s _ _ h, r⟩
  | ob r e =>
    cases r with
    | lst h r => cases e
    | dicS h r => cases e
    | dicT h r => cases e; exact ⟨_, _, rfl, h, r⟩
    | ins h r => cases e
theorem keyT_ref {v : V} {k : D} (h : keyT k = true) (r : Rep C F v k) : ∃ a, v = .ref a := by
  obtain ⟨_, _, xs, rfl⟩ := keyT_key h
  cases r; exact ⟨_, rfl⟩
theorem keyS_str {k : D} (h : keyS k = true) : ∃ t, k = .str t := by
  cases k with
  | str t => exact ⟨t, rfl⟩
  | _ => exact absurd (show false = true from h) Bool.false_ne_true
variable {pins : List (Addr × Obj)} {s : Shared} {E : Value → Shared → Prop}
theorem hu1 (hu : Hu X) : X.A.units + 1 < cLine := by have : X.A.units + 65 < cLine := hu; omega
theorem hu8 (hu : Hu X) : (nestedKind X.prog X.w).room X.A.in1 := by
  have : X.A.units + 65 < cLine := hu
  show X.A.units + 1 + 8 < cLine
  omega
/-- k in d, whatever the keys are -/
theorem dic_in (hu : Hu X) (I : Inv X pins σ H s) (S : Sub F H) {t : Bool} {x y : V} {u w : Value} {k : D} {kvs : List (D × D)} {Q : Value → Shared → Prop} (rx : RelV x u) (ry : RelV y w) (vx : Vw (cs cl X) F H x k) (vy : Vw (cs cl X) F H y (.dic t kvs)) (hk : keyOf t k = true)
    (h : ∀ s', Inv X pins σ H s' → Q (.bool (lookD kvs k).isSome) s') : wpAny (model X.prog X.w) X.A (compareOp .In u w) Q E s := by
  cases t with
  | false =>
    obtain ⟨a, xs, rfl, e, r⟩ := vy.dicS S
    cases ry
    obtain ⟨t, rfl⟩ := keyS_str hk
    obtain ⟨rfl, o⟩ := vx.str
    refine d_in (hu1 hu) I (.inl ⟨_, Sum.inr (mkS t), .inl e, rfl, rfl⟩) rx fun s' I' => ?_
    rw [(repS_has r t).1]; exact h s' I'
  | true =>
    obtain ⟨a, xs, rfl, e, r⟩ := vy.dicT S
    cases ry
    have rk := vx.rep S
    obtain ⟨b, rfl⟩ := keyT_ref hk rk
    cases rx
    obtain ⟨ys, rel, dd, _, hd, _⟩ := dk_at I e r S
    refine wpAny_in_heap (hu8 hu) (key_is I rk hk) hd dd ?_
    rw [relT_has rel, repT_has r k hk]
    exact h _ (I.tok _)
theorem dic_notIn (hu : Hu X) (I : Inv X pins σ H s) (S : Sub F H) {t : Bool} {x y : V} {u w : Value} {k : D} {kvs : List (D × D)} {Q : Value → Shared → Prop} (rx : RelV x u) (ry : RelV y w) (vx : Vw (cs cl X) F H x k) (vy : Vw (cs cl X) F H y (.dic t kvs)) (hk : keyOf t k = true)
    (h : ∀ s', Inv X pins σ H s' → Q (.bool (!(lookD kvs k).isSome)) s') : wpAny (model X.prog X.w) X.A (compareOp .NotIn u w) Q E s := by
  cases t with
  | false =>
    obtain ⟨a, xs, rfl, e, r⟩ := vy.dicS S
    cases ry
    obtain ⟨t, rfl⟩ := keyS_str hk
    obtain ⟨rfl, o⟩ := vx.str
    refine d_notIn (hu1 hu) I (.inl ⟨_, Sum.inr (mkS t), .inl e, rfl, rfl⟩) rx fun s' I' => ?_
    rw [(repS_has r t).1]; exact h s' I'
  | true =>
    obtain ⟨a, xs, rfl, e, r⟩ := vy.dicT S
    cases ry
    have rk := vx.rep S
    obtain ⟨b, rfl⟩ := keyT_ref hk rk
    cases rx
    obtain ⟨ys, rel, dd, _, hd, _⟩ := dk_at I e r S
    show wpAny _ _ (do return .bool (!(← contains (.ref a) (.ref b)))) Q E s
    refine wpAny_bind (wpAny_contains_heap (hu8 hu) (key_is I rk hk) hd dd (wpAny_pure ?_))
    rw [relT_has rel, repT_has r k hk]
    exact h _ (I.tok _)
/-- d[k], there -/
theorem dic_get (hu : Hu X) (I : Inv X pins σ H s) (S : Sub F H) {t : Bool} {x y : V} {u w : Value} {k d : D} {kvs : List (D × D)} {Q : Value → Shared → Prop} (rx : RelV x u) (ry : RelV y w) (vx : Vw (cs cl X) F H x (.dic t kvs)) (vy : Vw (cs cl X) F H y k) (hk : keyOf t k = true) (hl : lookD kvs k = some d)
    (h : ∀ v z s', Inv X pins σ H s' → RelV v z → Rep (cs cl X) F v d → Q z s') : s.TypeIs u "dict" ∧ wpAny (model X.prog X.w) X.A (getItem u w) Q E s := by
  cases t with
  | false =>
    obtain ⟨a, xs, rfl, e, r⟩ := vx.dicS S
    cases rx
    obtain ⟨t, rfl⟩ := keyS_str hk
    obtain ⟨rfl, o⟩ := vy.str
    obtain ⟨v, ev, rv⟩ := (repS_has r t).2 d hl
    have g : DGet H a (.str (mkS t)) (some v) := .inl ⟨_, Sum.inr (mkS t), .inl e, rfl, ev.symm⟩
    exact ⟨dict_typeIs I g, d_getItem (hu1 hu) I g ry fun w' s' I' rw' => h v w' s' I' rw' rv⟩
  | true =>
    obtain ⟨a, xs, rfl, e, r⟩ := vx.dicT S
    cases rx
    have rk := vy.rep S
    obtain ⟨b, rfl⟩ := keyT_ref hk rk
    cases ry
    obtain ⟨ys, rel, dd, _, hd, _⟩ := dk_at I e r S
    obtain ⟨p, v, ep, rv, rp⟩ := repT_at r rel hk hl
    exact ⟨dd.typeIs, wpAny_getItem_heap (hu8 hu) (key_is I rk hk) dd ep (h v _ _ (I.tok _) rv rp)⟩

/-! ### in -/
theorem only_in {neg : Bool} {d e : D} {b : B} (h : (if neg then iNin else iIn) d e = some b) : ∃ c, b = boo c := by
  cases neg with
  | false =>
    have h : (isIn d e).map (fun b => boo b) = some b := h
    obtain ⟨r, e1, e2⟩ := Option.map_eq_some_iff.mp h
    exact ⟨_, e2.symm⟩
  | true =>
    have h : (isIn d e).map (fun b => boo (!b)) = some b := h
    obtain ⟨r, e1, e2⟩ := Option.map_eq_some_iff.mp h
    exact ⟨_, e2.symm⟩
theorem sim_in2 {neg : Bool} {op : CmpOp} {a b : Expr} {ma mb : M B} (hu : Hu X) (hop : op = if neg then .NotIn else .In) (hm : behindInMarks op b = false) (ha : SimE cl X a ma) (hb : SimE cl X b mb) :
    SimC cl X op a b (mOp (if neg then iNin else iIn) ma mb) := ⟨fun W tk => ⟨fun pins s σ H Q I ⟨F, ρ, S, h⟩ => by
  refine (binT (R := fun x y H2 => ∃ (F2 : Hp) (ρ2 : Env) (A2 : List Addr) (d e : D) (c : B), Stt (cs cl X) F2 H2 σ ρ2 ∧ Vw (cs cl X) F2 H2 x d ∧ Vw (cs cl X) F2 H2 y e ∧ (if neg then iNin else iIn) d e = some c ∧ Fin (cs cl X) RlB A2 F2 ρ2 σ H2 Q c)
    (ha W tk) (hb W tk) I (two_bind S h fun x y d e F2 H2 ρ2 S2 v w q => let ⟨b, eb, q⟩ := tR_end q; ⟨F2, ρ2, _, d, e, b, S2, v, w, eb, q⟩) fun u w s2 x y H2 I2 rx ry ⟨F2, ρ2, A2, d, e, c, S2, v, v', ec, q⟩ => ?_)
  have key : ∃ r, isIn d e = some r ∧ c = boo (if neg then !r else r) := by
    cases neg with
    | false =>
      have ec : (isIn d e).map (fun b => boo b) = some c := ec
      obtain ⟨r, e1, e2⟩ := Option.map_eq_some_iff.mp ec
      exact ⟨r, e1, e2.symm⟩
    | true =>
      have ec : (isIn d e).map (fun b => boo (!b)) = some c := ec
      obtain ⟨r, e1, e2⟩ := Option.map_eq_some_iff.mp ec
      exact ⟨r, e1, e2.symm⟩
  obtain ⟨r, er, rfl⟩ := key
  have fin : ∀ s', Inv X pins σ H2 s' → EP X pins σ Q (.bool (if neg then !r else r)) s' := fun s' I' => ⟨.bl _, H2, I', rfl, q.data S2 (.bl _)⟩
  unfold isIn at er
  split at er
  · rename_i ys
    split at er
    · rename_i hh
      cases er
      rw [Bool.and_eq_true] at hh
      have h1 := of_decide_eq_true hh.1
      have h2 := of_decide_eq_true hh.2
      have ry := v'.rep S2.sub
      have dy : D.dep (.tup ys) ≤ 61 := by simp only [D.dep]; omega
      have sy : SeqAt.shaped (toPy (.tup ys)) = true := by
        unfold SeqAt.shaped
        rw [lay_py ry (by omega), dep_py _ (by omega)]
        exact decide_eq_true (by omega)
      have dpy := dp_py ry (by omega)
      have dpx := dp_py (v.rep S2.sub) (by omega)
      have sx := shaped_py (v.rep S2.sub) h1
      simp only [toPy] at sy dpy
      cases neg with
      | false =>
        subst hop
        refine op_inT hu pins s2 σ H2 x y u w Q I2 rx (by assumption) ⟨_, _, dpx, dpy, sx, sy, ?_⟩
        rw [any_py]
        exact q.data S2 (.bl _)
      | true =>
        subst hop
        refine op_notInT hu pins s2 σ H2 x y u w Q I2 rx (by assumption) ⟨_, _, dpx, dpy, sx, sy, ?_⟩
        rw [any_py]
        exact q.data S2 (.bl _)
    · cases er
  · rename_i ys
    split at er
    · rename_i hh
      cases er
      rw [Bool.and_eq_true] at hh
      have h1 := of_decide_eq_true hh.1
      have h2 := of_decide_eq_true hh.2
      have ry := v'.rep S2.sub
      have dy : D.dep (.lst ys) ≤ 61 := by simp only [D.dep]; omega
      have sy : SeqAt.shaped (toPy (.lst ys)) = true := by
        unfold SeqAt.shaped
        rw [lay_py ry (by omega), dep_py _ (by omega)]
        exact decide_eq_true (by omega)
      have dpy := dp_py ry (by omega)
      have dpx := dp_py (v.rep S2.sub) (by omega)
      have sx := shaped_py (v.rep S2.sub) h1
      simp only [toPy] at sy dpy
      cases neg with
      | false =>
        subst hop
        refine op_inD hu pins s2 σ H2 x y u w Q I2 rx (by assumption) ⟨_, _, dpx, dpy, sx, sy, ?_⟩
        rw [any_py]
        exact q.data S2 (.bl _)
      | true =>
        subst hop
        refine op_notInD hu pins s2 σ H2 x y u w Q I2 rx (by assumption) ⟨_, _, dpx, dpy, sx, sy, ?_⟩
        rw [any_py]
        exact q.data S2 (.bl _)
    · cases er
  · rename_i t kvs
    split at er
    · rename_i hk
      cases er
      cases neg with
      | false => subst hop; exact dic_in hu I2 S2.sub rx (by assumption) v v' hk fin
      | true => subst hop; exact dic_notIn hu I2 S2.sub rx (by assumption) v v' hk fin
    · cases er
  · cases er⟩, hm, onlyB_op fun _ _ _ => only_in⟩
theorem sim_in {a b : Expr} {ma mb : M B} (hu : Hu X) (hm : behindInMarks .In b = false) (ha : SimE cl X a ma) (hb : SimE cl X b mb) : SimC cl X .In a b (mIn ma mb) := sim_in2 (neg := false) hu rfl hm ha hb
theorem sim_nin {a b : Expr} {ma mb : M B} (hu : Hu X) (hm : behindInMarks .NotIn b = false) (ha : SimE cl X a ma) (hb : SimE cl X b mb) : SimC cl X .NotIn a b (mNin ma mb) := sim_in2 (neg := true) hu rfl hm ha hb
end
end WF

set_option Elab.async false
set_option linter.all false
set_option maxRecDepth 100000
set_option maxHeartbeats 4000000
/-! WFH: tests, displays, subscripts, slices, built-ins by values. -/
namespace WF
open PySem PySem.Spec PyProof.Rows L2

section
variable {cl : Nat → Addr} {X : Cx} {C : Cs} {σ : St} {F H : Hp} {ρ : Env} {A A0 : List Addr}
/-! ### tests -/
theorem isEmpty_reps {F : Hp} {xs : List V} {ds : List D} (r : Reps C F xs ds) : (!xs.isEmpty) = !ds.isEmpty := by cases r <;> rfl
theorem tru_of {v : V} {d : D} {k : Bool} (S : Sub F H) (h : Vw C F H v d) (e : d.tru = some k) : TruV C.K v H k := by
  cases d with
  | non => cases e; rw [h.non]; rfl
  | bl b => cases e; rw [h.bl]; rfl
  | int i => cases e; rw [h.int]; rfl
  | str s =>
    cases e
    obtain ⟨rfl, o⟩ := h.str
    refine ⟨by rw [mkS_len, ← lim_eq]; exact o.2, ?_⟩
    rw [mkS_len]
    cases s <;> rfl
  | tup xs =>
    cases e
    obtain ⟨a, vs, rfl, q, r⟩ := h.tup
    exact .inr (.inl ⟨vs, S.sqT q, (isEmpty_reps r).symm⟩)
  | lst xs =>
    cases e
    obtain ⟨a, vs, rfl, q, r⟩ := h.lst S
    exact .inl ⟨vs, q, (isEmpty_reps r).symm⟩
  | dic t kvs => cases e
theorem sim_tV {e : Expr} {m : M B} (ha : SimE cl X e m) (he : ∀ whole, isTrue e X.env whole = (do let v ← whole; standAt e.pos; holding [v] (truthy v))) : SimT cl X e (tV m) := fun W tk => ⟨fun pins s σ H Q I ⟨F, ρ, S, h⟩ => by
  refine isTrue_plain (thn ((ha W tk).run pins s σ H _ I (one_bind (P := fun x H2 => ∃ k, TruV X.K x H2 k ∧ Q k H2) S h fun x d F2 H2 ρ2 S2 v q => ?_)) fun v s1 ⟨x, H1, I1, r1, k, tk, q1⟩ => ?_) (he _)
  · obtain ⟨k, ek, q⟩ := tR_end q
    exact ⟨k, tru_of S2.sub v ek, q.bool S2⟩
  · exact tru_ok pins s1 σ H1 x v Q I1 r1 ⟨k, tk, q1⟩⟩
/-- a comparison as a test -/
theorem SimC.t {a b : Expr} {op : CmpOp} {pos : Pos} {m : M B} (h : SimC cl X op a b m) : SimT cl X (.Compare a [op] [b] pos) (tV m) := fun W tk => PT.imp (pt_cmp (h.pc W tk) h.hm) fun σ H Q ⟨F, ρ, S, q⟩ => by
  obtain ⟨r, ρ', e, q⟩ := q
  unfold tV bind at e
  split at e
  · cases e
  · rename_i c p ρ1 em
    cases e
    exact ⟨F, ρ, S, _, _, em, q⟩
  · rename_i b ρ1 em
    obtain ⟨c, rfl⟩ := h.ob _ _ _ em
    cases e
    refine ⟨F, ρ, S, _, _, em, fun v A F' H' T' S' rl fp nw => ?_⟩
    cases rl with
    | sh rl => cases rl; exact ⟨c, rfl, q c [] F' H' T' S' ⟨rfl, rfl⟩ Fp.nil New.nil⟩
theorem tM_tif {α β : Type} {R : Rl β α} {W : WX} {Q : β → Hp → Prop} {t : M Bool} {k : Bool → M α} {P : Bool → Hp → Prop} (S : Stt C F H σ ρ) (h : tR C R W A0 F ρ (bind t k) σ H Q)
    (i : ∀ c F1 H1 ρ1, Stt C F1 H1 σ ρ1 → tR C R W A0 F1 ρ1 (k c) σ H1 Q → P c H1) : tM C RlT W t σ H P :=
  tM_bind (R1 := RlT) S h fun v a A F1 H1 ρ1 T S1 rl fp nw q => by
    obtain ⟨rfl, rfl⟩ := rl
    rw [List.append_nil] at q
    exact i v F1 H1 ρ1 S1 q
theorem tR_up {α β : Type} {R : Rl β α} {W : WX} {Q : β → Hp → Prop} {m : M α} (h : tR C R W A0 F ρ m σ H Q) : tR C R W [] F ρ m σ H Q := tR_from Tr.refl (fun _ z => nomatch z) h
theorem sim_tAnd1 {a : Expr} {pos : Pos} {t : M Bool} (ha : SimT cl X a t) : ∀ W, Takes X W → PW X (.BoolOp .And [a] pos) (tM (cs cl X) RlT W t) := fun W tk => pw_and1 (ha W tk)
theorem sim_tOr1 {a : Expr} {pos : Pos} {t : M Bool} (ha : SimT cl X a t) : ∀ W, Takes X W → PW X (.BoolOp .Or [a] pos) (tM (cs cl X) RlT W t) := fun W tk => pw_or1 (ha W tk)
theorem PW.imp {X : Cx} {e : Expr} {t t' : TT} (h : PW X e t) (i : ∀ σ H Q, t' σ H Q → t σ H Q) : PW X e t' := ⟨fun wh pins s σ H Q I q => h.run wh pins s σ H Q I (i σ H Q q)⟩
theorem sim_tAndC {a b : Expr} {r : List Expr} {pos : Pos} {t u : M Bool} (ha : SimT cl X a t) (hb : ∀ W, Takes X W → PW X (.BoolOp .And (b :: r) pos) (tM (cs cl X) RlT W u)) :
    ∀ W, Takes X W → PW X (.BoolOp .And (a :: b :: r) pos) (tM (cs cl X) RlT W (tAnd t u)) := fun W tk => PW.imp (pw_and (ha W tk) (hb W tk)) fun σ H Q ⟨F, ρ, S, h⟩ => tM_tif S h fun c F1 H1 ρ1 S1 q => by
  cases c with
  | true => exact iteT ⟨F1, ρ1, S1, q⟩
  | false => exact iteF ((tR_ret q).bool S1)
theorem sim_tOrC {a b : Expr} {r : List Expr} {pos : Pos} {t u : M Bool} (ha : SimT cl X a t) (hb : ∀ W, Takes X W → PW X (.BoolOp .Or (b :: r) pos) (tM (cs cl X) RlT W u)) :
    ∀ W, Takes X W → PW X (.BoolOp .Or (a :: b :: r) pos) (tM (cs cl X) RlT W (tOr t u)) := fun W tk => PW.imp (pw_or (ha W tk) (hb W tk)) fun σ H Q ⟨F, ρ, S, h⟩ => tM_tif S h fun c F1 H1 ρ1 S1 q => by
  cases c with
  | false => exact iteF ⟨F1, ρ1, S1, q⟩
  | true => exact iteT ((tR_ret q).bool S1)
theorem sim_tW {e : Expr} {t : M Bool} (h : ∀ W, Takes X W → PW X e (tM (cs cl X) RlT W t)) : SimT cl X e t := fun W tk => (h W tk).pt
theorem sim_tNot {a : Expr} {pos : Pos} {t : M Bool} (ha : SimT cl X a t) : SimT cl X (.UnaryOp .Not a pos) (tNot t) := fun W tk => PT.imp (pt_not (ha W tk)) fun σ H Q ⟨F, ρ, S, h⟩ => tM_tif S h fun c F1 H1 ρ1 S1 q => (tR_ret q).bool S1
/-! ### and, or, not, if as values -/
theorem sim_and1 {op : BoolOp} {a : Expr} {pos : Pos} {m : M B} (ha : SimE cl X a m) : SimE cl X (.BoolOp op [a] pos) m := fun W tk => pe_one (ha W tk)
theorem boolV_of {v : V} {d : D} {c : Bool} (h : Vw C F H v d) (e : d.boolV = some c) : v = .bl c := by
  cases d with
  | bl b => cases e; exact h.bl
  | _ => cases e
theorem sim_and {a b : Expr} {r : List Expr} {pos : Pos} {ma mb : M B} (ha : SimE cl X a ma) (hb : SimE cl X (.BoolOp .And (b :: r) pos) mb) : SimE cl X (.BoolOp .And (a :: b :: r) pos) (mAnd ma mb) := fun W tk => PE.imp (pe_and (ha W tk) (hb W tk)) fun σ H Q ⟨F, ρ, S, h⟩ =>
  one_bind S h fun x d F2 H2 ρ2 S2 v q => by
    obtain ⟨c, ec, q⟩ := tR_lift q
    refine ⟨c, boolV_of v ec, ?_⟩
    cases c with
    | true => exact iteT ⟨F2, ρ2, S2, tR_up q⟩
    | false => exact iteF ((tR_ret q).data S2 (.bl _))
theorem sim_or {a b : Expr} {r : List Expr} {pos : Pos} {ma mb : M B} (ha : SimE cl X a ma) (hb : SimE cl X (.BoolOp .Or (b :: r) pos) mb) : SimE cl X (.BoolOp .Or (a :: b :: r) pos) (mOr ma mb) := fun W tk => PE.imp (pe_or (ha W tk) (hb W tk)) fun σ H Q ⟨F, ρ, S, h⟩ =>
  one_bind S h fun x d F2 H2 ρ2 S2 v q => by
    obtain ⟨c, ec, q⟩ := tR_lift q
    refine ⟨c, boolV_of v ec, ?_⟩
    cases c with
    | false => exact iteF ⟨F2, ρ2, S2, tR_up q⟩
    | true => exact iteT ((tR_ret q).data S2 (.bl _))
theorem sim_not {a : Expr} {pos : Pos} {ma : M B} (ha : SimE cl X a ma) : SimE cl X (.UnaryOp .Not a pos) (mNot ma) := fun W tk => PE.imp (pe_not (ha W tk)) fun σ H Q ⟨F, ρ, S, h⟩ =>
  one_bind S h fun x d F2 H2 ρ2 S2 v q => by
    obtain ⟨c, ec, q⟩ := tR_lift q
    exact ⟨c, boolV_of v ec, (tR_ret q).data S2 (.bl _)⟩
theorem sim_if {c a b : Expr} {pos : Pos} {t : M Bool} {ma mb : M B} (hc : SimT cl X c t) (ha : SimE cl X a ma) (hb : SimE cl X b mb) : SimE cl X (.IfExp c a b pos) (mIf t ma mb) := fun W tk => PE.imp (pe_ifExp (hc W tk) (ha W tk) (hb W tk)) fun σ H Q ⟨F, ρ, S, h⟩ =>
  tM_tif S h fun c F1 H1 ρ1 S1 q => by
    cases c with
    | true => exact iteT ⟨F1, ρ1, S1, q⟩
    | false => exact iteF ⟨F1, ρ1, S1, q⟩
/-! ### displays -/
theorem sim_nil : SimA cl X [] mNil := fun W _ => PA.imp pa_nil fun σ H Q ⟨F, ρ, S, h⟩ => tR_ret h [] [] F H Tr.refl S .nil Fp.nil New.nil
theorem sim_cons {e : Expr} {es : List Expr} {m : M B} {ms : M (List B)} (ha : SimE cl X e m) (hr : SimA cl X es ms) (hs : starEach (e :: es) X.env = (false, eval e X.env) :: starEach es X.env) : SimA cl X (e :: es) (mCons m ms) := fun W tk =>
  PA.imp (pa_cons (ha W tk) (hr W tk) hs) fun σ H Q ⟨F, ρ, S, h⟩ => by
    refine tM_bind (R1 := RlB) S h fun x a A F1 H1 ρ1 T1 S1 r1 f1 n1 h1 => ?_
    refine tM_bind (R1 := RlL) S1 h1 fun y b A' F2 H2 ρ2 T2 S2 r2 f2 n2 h2 => ?_
    exact tR_ret h2 _ (A ++ A') F2 H2 Tr.refl S2 (.cons (r1.mono T2.sub fun z m => f1.keep T2 m) r2) (f1.append T2 f2 n2) fun z m => .inr (.inl (by rw [List.nil_append]; exact m))
theorem tR_if {α β : Type} {R : Rl β α} {W : WX} {Q : β → Hp → Prop} {c : Bool} {m : M α} (h : tR C R W A0 F ρ (if c then m else stuck) σ H Q) : c = true ∧ tR C R W A0 F ρ m σ H Q := by
  cases c with
  | true => exact ⟨rfl, h⟩
  | false => exact (tR_stuck (α := α) h)
theorem few_le {bs : List B} (h : few bs = true) : bs.length ≤ sizeLine := by
  have := of_decide_eq_true h
  rw [sizeLine_eq]; omega
theorem sim_tup {es : List Expr} {ms : M (List B)} {x1} {pos : Pos} (h : SimA cl X es ms) : SimE cl X (.Tuple es x1 pos) (mTup ms) := fun W tk => PE.imp (pe_tup (h W tk)) fun σ H Q ⟨F, ρ, S, q⟩ => by
  refine tM_bind (R1 := RlL) S q fun vs bs A F1 H1 ρ1 T1 S1 r1 f1 n1 h1 => ?_
  obtain ⟨hf, h1⟩ := tR_if h1
  refine ⟨by rw [r1.length]; exact few_le hf, fun p hp => ?_⟩
  obtain ⟨ds, F2, ed, nd, S2, rd, sb, h2⟩ := tR_kept S1 r1 f1 h1
  exact (tR_ret h2).tup S2 rd hp
theorem sim_lst {es : List Expr} {ms : M (List B)} {pos : Pos} (h : SimA cl X es ms) : SimE cl X (.List es pos) (mLst ms) := fun W tk => PE.imp (pe_lst (h W tk)) fun σ H Q ⟨F, ρ, S, q⟩ => by
  refine tM_bind (R1 := RlL) S q fun vs bs A F1 H1 ρ1 T1 S1 r1 f1 n1 h1 => ?_
  obtain ⟨hf, h1⟩ := tR_if h1
  refine ⟨by rw [r1.length]; exact few_le hf, fun p hp => ?_⟩
  obtain ⟨ds, F2, ed, nd, S2, rd, sb, h2⟩ := tR_kept S1 r1 f1 h1
  exact (tR_ret h2).lst S2 rd hp
theorem sbBs_rel {vs : List V} {bs : List B} {A : List Addr} {sbs : List SB} (r : RBs C σ F H vs bs A) (e : sbBs bs = some sbs) : RTp C F H vs sbs A := by
  induction r generalizing sbs with
  | nil => cases e; exact .nil
  | cons r t ih =>
    unfold sbBs at e
    split at e
    · rename_i e1 e2
      cases e
      cases r with
      | sh r => cases e1; exact .sh r (ih e2)
      | ow r => cases e1; exact .ow r (ih e2)
      | pl q => cases e1
      | tp q r => cases e1
    · cases e
theorem sim_tp {es : List Expr} {ms : M (List B)} {x1} {pos : Pos} (h : SimA cl X es ms) : SimE cl X (.Tuple es x1 pos) (mTp ms) := fun W tk => PE.imp (pe_tup (h W tk)) fun σ H Q ⟨F, ρ, S, q⟩ => by
  refine tM_bind (R1 := RlL) S q fun vs bs A F1 H1 ρ1 T1 S1 r1 f1 n1 h1 => ?_
  obtain ⟨hf, h1⟩ := tR_if h1
  refine ⟨by rw [r1.length]; exact few_le hf, fun p hp => ?_⟩
  obtain ⟨sbs, es, h2⟩ := tR_lift h1
  have rt := sbBs_rel r1 es
  obtain ⟨S2, T2⟩ := new_sh (o := .tup vs) S1 hp
  exact tR_ret h2 _ A _ _ (T2.hand fun _ z => nomatch z) S2 (.tp (.inl (.inl upd_same)) (rt.mono T2.sub fun a m => f1.keep T2 m)) (f1.tr T2) fun a m => .inr (.inl (by rw [List.nil_append]; exact m))
theorem sim_dic0 {pos : Pos} : SimE cl X (.Dict [] [] pos) mDic0 := fun W _ => PE.imp pe_dnewK fun σ H Q ⟨F, ρ, S, h⟩ p hp => by
  obtain ⟨S1, T1, f, n⟩ := new_own (o := .dK []) S hp
  exact tR_ret h _ [p] _ _ (T1.hand fun _ z => nomatch z) S1 (.ow (.dicS upd_same .nil)) f n
/-! ### subscripts -/
theorem atI_eq {α : Type} (xs : List α) (i : Int) : L2.atI xs i = WF.atI xs i := by
  unfold L2.atI WF.atI ixN
  by_cases h0 : 0 ≤ i
  · rw [if_pos h0, if_pos h0]
    by_cases h1 : i < (xs.length : Int)
    · rw [if_pos h1]; rfl
    · rw [if_neg h1]
      exact (List.getElem?_eq_none (by omega)).symm
  · rw [if_neg h0, if_neg h0]
    by_cases h1 : -(xs.length : Int) ≤ i
    · rw [if_pos h1, if_pos (by omega), Int.add_comm]; rfl
    · rw [if_neg h1, if_neg (by omega)]; rfl
theorem reps_get {F : Hp} : ∀ {xs : List V} {ds : List D}, Reps C F xs ds → ∀ {j : Nat} {d : D}, ds[j]? = some d → ∃ v, xs[j]? = some v ∧ Rep C F v d
  | _, _, .nil, _, _, e => by simp at e
  | _, _, .cons r t, 0, _, e => by simp at e; subst e; exact ⟨_, rfl, r⟩
  | _, _, .cons r t, j + 1, _, e => by
    obtain ⟨v, h1, h2⟩ := reps_get t (j := j) (by simpa using e)
    exact ⟨v, by simpa using h1, h2⟩
theorem reps_at {F : Hp} {xs : List V} {ds : List D} (r : Reps C F xs ds) {i : Int} {d : D} (e : WF.atI ds i = some d) : ∃ v, L2.atI xs i = some v ∧ Rep C F v d := by
  rw [atI_eq]
  have hl := r.length
  unfold WF.atI at e ⊢
  rw [hl]
  split at e
  · rename_i h
    rw [if_pos h]; exact reps_get r e
  · rename_i h
    rw [if_neg h]
    split at e
    · rename_i h1
      rw [if_pos h1]; exact reps_get r e
    · cases e
theorem mkS_get (t : Txt) : (mkS t).cps.toList = t := by simp [mkS]
theorem mkS_one (c : Nat) : (⟨#[c]⟩ : Str) = mkS [c] := rfl
theorem rtp_at {xs : List V} {bs : List SB} {A : List Addr} (r : RTp C F H xs bs A) : ∀ {j : Nat} {b : SB}, bs[j]? = some b → ∃ v, xs[j]? = some v ∧ ((∃ d, b = .sh d ∧ Rep C F v d) ∨ ∃ a o, b = .ow o ∧ v = .ref a ∧ a ∈ A ∧ ROb C F H a o) := by
  induction r with
  | nil => intro j b e; simp at e
  | sh r t ih =>
    intro j b e
    cases j with
    | zero => simp at e; subst e; exact ⟨_, rfl, .inl ⟨_, rfl, r⟩⟩
    | succ j => obtain ⟨v, h1, h2⟩ := ih (j := j) (by simpa using e); exact ⟨v, by simpa using h1, h2⟩
  | ow r t ih =>
    intro j b e
    cases j with
    | zero => simp at e; subst e; exact ⟨_, rfl, .inr ⟨_, _, rfl, rfl, List.mem_cons_self, r⟩⟩
    | succ j =>
      obtain ⟨v, h1, h2⟩ := ih (j := j) (by simpa using e)
      refine ⟨v, by simpa using h1, h2.imp id fun ⟨a, o, e1, e2, m, q⟩ => ⟨a, o, e1, e2, List.mem_cons_of_mem _ m, q⟩⟩
theorem RTp.length {xs : List V} {bs : List SB} {A : List Addr} (r : RTp C F H xs bs A) : xs.length = bs.length := by
  induction r with
  | nil => rfl
  | sh r t ih => simp [ih]
  | ow r t ih => simp [ih]
theorem sim_ix {a b : Expr} {ma mb : M B} {pos : Pos} (hu : Hu X) (ha : SimE cl X a ma) (hb : SimE cl X b mb) (hs : PlainIx b) : SimE cl X (.Subscript a b pos) (mIx ma mb) := fun W tk => ⟨fun pins s σ H Q I ⟨F, ρ, S, h⟩ => by
  refine Subscript_ (thn ((ha W tk).run pins s σ H _ I ⟨F, ρ, S, tR_bind (R1 := RlB) h⟩) fun u s1 ⟨x, H1, I1, rx, ba, A, F1, ρ1, T1, S1, r1, f1, n1, h1⟩ => ?_)
  refine thn ((hb W tk).run pins s1 σ H1 _ I1 ⟨F1, ρ1, S1, tR_bind (R1 := RlB) h1⟩) fun w s2 ⟨y, H2, I2, ry, bb, A', F2, ρ2, T2, S2, r2, f2, n2, h2⟩ => ?_
  have r1' := r1.mono (F' := F2) (H' := H2) T2.sub fun z m => f1.keep T2 m
  have f := f1.append T2 f2 n2
  -- plain data
  have plain : ∀ d e, ba.dat ρ2 = some d → bb.dat ρ2 = some e → tR (cs cl X) RlB W ([] ++ A ++ A') F2 ρ2 (lift (iIx d e)) σ H2 Q → wpAny (model X.prog X.w) X.A (subscriptTail a b u w) (EP X pins σ Q) X.xe s2 := fun d e ed ee h4 => by
    obtain ⟨S3, T3⟩ := share S2 f
    have v := r1'.view S2 (sub_addF f) (fun z m o q => by rw [addF_in (List.mem_append_left _ m)]; exact q) ed
    have v' := r2.view S2 (sub_addF f) (fun z m o q => by rw [addF_in (List.mem_append_right _ m)]; exact q) ee
    obtain ⟨c, ec, q⟩ := tR_end h4
    have q := q.from_ (T3.hand fun a m => by rw [List.nil_append]; exact m) (A1 := []) (fun _ z => nomatch z)
    unfold iIx at ec
    split at ec
    · rename_i xs i
      obtain ⟨d', e1, rfl⟩ := Option.map_eq_some_iff.mp ec
      obtain ⟨p, vs, rfl, g, r⟩ := v.tup
      obtain rfl := v'.int
      obtain ⟨z, e2, rz⟩ := reps_at r e1
      exact ix_seq a b pins s2 σ H2 _ _ u w Q I2 rx ry (.inr (.inl ⟨p, vs, i, z, rfl, rfl, S3.sub.sqT g, e2, q.data S3 rz⟩)) (hs _ _)
    · rename_i xs i
      obtain ⟨d', e1, rfl⟩ := Option.map_eq_some_iff.mp ec
      obtain ⟨p, vs, rfl, g, r⟩ := v.lst S3.sub
      obtain rfl := v'.int
      obtain ⟨z, e2, rz⟩ := reps_at r e1
      exact ix_seq a b pins s2 σ H2 _ _ u w Q I2 rx ry (.inl ⟨p, vs, i, z, rfl, rfl, g, e2, q.data S3 rz⟩) (hs _ _)
    · rename_i t i
      obtain ⟨c', e1, rfl⟩ := Option.map_eq_some_iff.mp ec
      obtain ⟨rfl, o⟩ := v.str
      obtain rfl := v'.int
      have mc : c' ∈ t := by
        unfold WF.atI at e1
        split at e1
        · exact List.mem_of_getElem? e1
        · split at e1
          · exact List.mem_of_getElem? e1
          · cases e1
      refine ix_seq a b pins s2 σ H2 _ _ u w Q I2 rx ry (.inr (.inr ⟨mkS t, i, c', rfl, rfl, by rw [mkS_len, ← lim_eq]; exact o.2, by rw [mkS_get, atI_eq]; exact e1, ?_⟩)) (hs _ _)
      rw [mkS_one]
      exact q.data S3 (.str _ ⟨fun z m => by rw [List.mem_singleton.mp m]; exact o.1 _ mc, by simp [LIM]⟩)
    · rename_i t kvs k
      split at ec
      · rename_i hk
        obtain ⟨d', e1, rfl⟩ := Option.map_eq_some_iff.mp ec
        have g := dic_get hu I2 S3.sub (Q := EP X pins σ Q) (E := X.xe) rx ry v v' hk e1 fun z u' s' I' rz rp => ⟨z, H2, I', rz, q.data S3 rp⟩
        exact tail_any g.1 PySem.F.slot_dict_getitem.lookup g.2 (hs _ _)
      · cases ec
    · cases ec
  have other : tR (cs cl X) RlB W ([] ++ A ++ A') F2 ρ2 (bind (dat ba) fun d => bind (dat bb) fun e => lift (iIx d e)) σ H2 Q → wpAny (model X.prog X.w) X.A (subscriptTail a b u w) (EP X pins σ Q) X.xe s2 := fun h2 => by
    obtain ⟨d, ed, h3⟩ := tR_dat h2
    obtain ⟨e, ee, h4⟩ := tR_dat h3
    exact plain d e ed ee h4
  cases ba with
  | sh d => exact other h2
  | ow o => exact other h2
  | pl i => exact other h2
  | tp bs =>
    obtain ⟨e, ee, h3⟩ := tR_dat h2
    cases e <;> first | exact tR_stuck h3 | skip
    rename_i j
    cases r1' with
    | @tp p xs _ _ g r =>
        have ry' : Rep (cs cl X) H2 y (.int j) := r2.dat S2 ee
        cases ry'
        have go : ∀ (z : V) (q : Q z H2), L2.atI xs j = some z → wpAny (model X.prog X.w) X.A (subscriptTail a b u w) (EP X pins σ Q) X.xe s2 := fun z q e => ix_seq a b pins s2 σ H2 _ _ u w Q I2 rx ry (.inr (.inl ⟨p, xs, j, z, rfl, rfl, S2.sub.sqT g, e, q⟩)) (hs _ _)
        have at_ : ∀ (c : SB), WF.atI bs j = some c → ∃ v, L2.atI xs j = some v ∧ ((∃ d, c = .sh d ∧ Rep (cs cl X) F2 v d) ∨ ∃ a o, c = .ow o ∧ v = .ref a ∧ a ∈ A ∧ ROb (cs cl X) F2 H2 a o) := fun c ec => by
          rw [atI_eq]
          have hl := r.length
          unfold WF.atI at ec ⊢
          rw [hl]
          split at ec
          · rename_i h0
            rw [if_pos h0]; exact rtp_at r ec
          · rename_i h0
            rw [if_neg h0]
            split at ec
            · rename_i h1'
              rw [if_pos h1']; exact rtp_at r ec
            · cases ec
        cases ec : WF.atI bs j with
        | none =>
          have h3 : tR (cs cl X) RlB W ([] ++ A ++ A') F2 ρ2 (match WF.atI bs j with | some (.sh d) => ret (.sh d) | some (.ow o) => ret (.ow o) | _ => stuck) σ H2 Q := h3
          rw [ec] at h3
          exact tR_stuck h3
        | some c =>
          have h3 : tR (cs cl X) RlB W ([] ++ A ++ A') F2 ρ2 (match WF.atI bs j with | some (.sh d) => ret (.sh d) | some (.ow o) => ret (.ow o) | _ => stuck) σ H2 Q := h3
          rw [ec] at h3
          obtain ⟨v, e1, q⟩ := at_ _ ec
          rcases q with ⟨d', rfl, rd⟩ | ⟨a', o', rfl, rfl, m, ro⟩
          · exact go v ((tR_ret h3).data S2 rd) e1
          · refine go _ (tR_ret h3 _ [a'] F2 H2 Tr.refl S2 (.ow ro) ⟨by simp, fun z mz => ?_, fun z mz => ?_, fun z mz => ?_⟩ fun z mz => ?_) e1
            · rw [List.mem_singleton.mp mz]; exact f.left.nf _ m
            · rw [List.mem_singleton.mp mz]; exact f.left.no _ m
            · rw [List.mem_singleton.mp mz]; exact f.left.th _ m
            · rw [List.mem_singleton.mp mz]; exact .inr (.inl (List.mem_append_left _ (List.mem_append_right _ m)))⟩
end
end WF

set_option Elab.async false
set_option linter.all false
set_option maxRecDepth 100000
set_option maxHeartbeats 4000000
/-! WFI: slices, chains, built-in functions and methods, a display of one pair. -/
namespace WF
open PySem PySem.Spec PyProof.Rows L2

section
variable {cl : Nat → Addr} {X : Cx} {C : Cs} {σ : St} {F H : Hp} {ρ : Env} {A A0 : List Addr}
/-! ### slices -/
theorem reps_take {F : Hp} : ∀ {xs : List V} {ds : List D} (n : Nat), Reps C F xs ds → Reps C F (xs.take n) (ds.take n)
  | _, _, 0, _ => .nil
  | _, _, _ + 1, .nil => .nil
  | _, _, n + 1, .cons r t => .cons r (reps_take n t)
theorem reps_drop {F : Hp} : ∀ {xs : List V} {ds : List D} (n : Nat), Reps C F xs ds → Reps C F (xs.drop n) (ds.drop n)
  | _, _, 0, r => r
  | _, _, _ + 1, .nil => .nil
  | _, _, n + 1, .cons _ t => reps_drop n t
theorem reps_rev {F : Hp} : ∀ {xs : List V} {ds : List D}, Reps C F xs ds → Reps C F xs.reverse ds.reverse
  | _, _, .nil => .nil
  | _, _, .cons r t => by
    rw [List.reverse_cons, List.reverse_cons]
    exact (reps_rev t).append (.cons r .nil)
abbrev RlO : Rl (Option Int) (Option Int) := ⟨fun _ _ _ _ v b A => v = b ∧ A = []⟩
/-- the part of a slice: not written, or an int -/
inductive SimO (cl : Nat → Addr) (X : Cx) : Option Expr → Option (M B) → Prop
  | none : SimO cl X none none
  | some {e : Expr} {m : M B} : SimE cl X e m → SimO cl X (some e) (some m)
theorem SimO.po {e : Option Expr} {m : Option (M B)} (h : SimO cl X e m) {W : WX} (tk : Takes X W) : PO X e (tM (cs cl X) RlO W (mEnd m)) := by
  cases h with
  | none => exact ⟨fun pins s σ H Q I ⟨F, ρ, S, h⟩ => po_none.run pins s σ H Q I (tR_ret h Option.none [] F H Tr.refl S ⟨rfl, rfl⟩ Fp.nil New.nil)⟩
  | some ha => exact ⟨fun pins s σ H Q I ⟨F, ρ, S, h⟩ => (po_some (ha W tk)).run pins s σ H Q I (one_bind S h fun x d F2 H2 ρ2 S2 v q => by
      cases d with
      | int i => exact ⟨i, v.int, tR_ret q (Option.some i) [] F2 H2 Tr.refl S2 ⟨rfl, rfl⟩ Fp.nil New.nil⟩
      | _ => exact tR_stuck q)⟩
def rSlD (K : PySem.W.Frag) : V → Option Int → Option Int → Hp → VK → Prop := fun x lo hi H Q => rSlL K x lo hi H Q ∨ rSlA K x lo hi H Q ∨ rSlS x lo hi H Q
theorem sl_D : SlR X (rSlD X.K) := sl_list.or (sl_tupA.or sl_str)
theorem six_eq (n d : Nat) (o : Option Int) : HT.sIx n d o = endI n d o := by cases o <;> rfl
theorem okT_cut {t : Txt} (o : okT t) (a b : Nat) : okT (cutL t a b) := by
  unfold cutL
  refine ⟨fun c m => o.1 c (List.mem_of_mem_drop (List.mem_of_mem_take m)), ?_⟩
  rw [List.length_take, List.length_drop]
  have := o.2
  omega
theorem cutL_all {α : Type} (xs : List α) : cutL xs 0 xs.length = xs := by
  unfold cutL
  simp
/-- what the rules of slices want, from the mirror -/
theorem sl_fin {x : V} {d : D} {lo hi : Option Int} {b : B} {Q : VK} (S : Stt C F H σ ρ) (v : Vw C F H x d) (e : iSl d lo hi = some b) (q : Fin C RlB A0 F ρ σ H Q b) : rSlD C.K x lo hi H Q := by
  unfold iSl at e
  split at e
  · rename_i xs
    cases e
    obtain ⟨p, vs, rfl, g, r⟩ := v.tup
    have hl := r.length
    refine .inr (.inl ⟨p, vs, rfl, S.sub.sqT g, fun w => ?_, fun w p' hp => ?_⟩)
    · rw [six_eq, six_eq, hl] at w
      rw [w.1, w.2, cutL_all] at q
      exact q.data S (.tup g r)
    · have := q.tup S (reps_take (endI xs.length xs.length hi - endI xs.length 0 lo) (reps_drop (endI xs.length 0 lo) r)) hp
      unfold cutV
      rw [six_eq, six_eq, hl]
      exact this
  · rename_i xs
    cases e
    obtain ⟨p, vs, rfl, g, r⟩ := v.lst S.sub
    have hl := r.length
    refine .inl ⟨p, vs, rfl, g, fun p' hp => ?_⟩
    have := q.lst S (reps_take (endI xs.length xs.length hi - endI xs.length 0 lo) (reps_drop (endI xs.length 0 lo) r)) hp
    unfold cutV
    rw [six_eq, six_eq, hl]
    exact this
  · rename_i xs
    cases e
    obtain ⟨rfl, o⟩ := v.str
    refine .inr (.inr ⟨mkS xs, rfl, by rw [mkS_len, ← lim_eq]; exact o.2, ?_⟩)
    have e1 : cutS (mkS xs) lo hi = mkS (cutL xs (endI xs.length 0 lo) (endI xs.length xs.length hi)) := by
      unfold cutS
      rw [six_eq, six_eq, mkS_get, mkS_len]; rfl
    rw [e1]
    exact q.data S (.str _ (okT_cut o _ _))
  · cases e
theorem sim_sl {a : Expr} {lo hi : Option Expr} {ma : M B} {ml mh : Option (M B)} {p2 pos : Pos} (ha : SimE cl X a ma) (hl : SimO cl X lo ml) (hh : SimO cl X hi mh) : SimE cl X (.Subscript a (.Slice lo hi none p2) pos) (mSl ma ml mh) := fun W tk =>
  PE.imp (pe_slice sl_D (ha W tk) (hl.po tk) (hh.po tk)) fun σ H Q ⟨F, ρ, S, h⟩ => by
    refine tM_bind (R1 := RlB) S h fun x a A F1 H1 ρ1 T1 S1 r1 f1 n1 h1 => ?_
    refine tM_bind (R1 := RlO) S1 h1 fun y l A2 F2 H2 ρ2 T2 S2 r2 f2 n2 h2 => ?_
    refine tM_bind (R1 := RlO) S2 h2 fun z u A3 F3 H3 ρ3 T3 S3 r3 f3 n3 h3 => ?_
    obtain ⟨rfl, rfl⟩ := r2
    obtain ⟨rfl, rfl⟩ := r3
    obtain ⟨d, ed, h4⟩ := tR_dat h3
    obtain ⟨b, eb, q⟩ := tR_end h4
    have r1' := (r1.mono (F' := F2) (H' := H2) T2.sub fun z m => f1.keep T2 m).mono (F' := F3) (H' := H3) T3.sub fun z m => (f1.tr T2).keep T3 m
    have f := (f1.tr T2).tr T3
    obtain ⟨S4, T4⟩ := share S3 f
    have v := r1'.view S3 (sub_addF f) (fun z m o q => by rw [addF_in m]; exact q) ed
    exact sl_fin S4 v eb (q.from_ (T4.hand fun a m => by simpa using m) (A1 := []) (fun _ z => nomatch z))
/-! ### a <= b <= c -/
theorem le_fin {x y : V} {d e : D} {b : B} (v : Vw C F H x d) (w : Vw C F H y e) (h : iLe d e = some b) : ∃ i j, x = .int i ∧ y = .int j ∧ d = .int i ∧ e = .int j ∧ b = boo (decide (i ≤ j)) := by
  unfold iLe at h
  split at h <;> cases h
  exact ⟨_, _, v.int, w.int, rfl, rfl, rfl⟩
theorem lele_core {ma mb mc : M B} {W : WX} {Q : VK} (h : tM C RlB W (mLeLe ma mb mc) σ H Q) : tChain (rI0 fun i j => .bl (decide (i ≤ j))) (rI0 fun i j => .bl (decide (i ≤ j))) (tM C RlB W ma) (tM C RlB W mb) (tM C RlB W mc) σ H Q := by
    obtain ⟨F, ρ, S, h⟩ := h
    refine two_bind S h fun x y d e F2 H2 ρ2 S2 v w q => ?_
    obtain ⟨r, er, q⟩ := tR_lift q
    obtain ⟨i, j, rfl, rfl, rfl, rfl, rfl⟩ := le_fin v w er
    refine ⟨i, j, rfl, rfl, decide (i ≤ j), rfl, ?_⟩
    cases hij : decide (i ≤ j) with
    | true =>
      rw [hij] at q
      refine iteT (one_bind S2 (tR_up q) fun z g F3 H3 ρ3 S3 v3 q3 => ?_)
      obtain ⟨b, eb, q3⟩ := tR_end q3
      obtain ⟨i', j', e1, rfl, e2, rfl, rfl⟩ := le_fin (F := F3) (H := H3) (x := .int j) (.sc (.int j)) v3 eb
      cases e1
      exact ⟨_, _, rfl, rfl, q3.data S3 (.bl _)⟩
    | false =>
      rw [hij] at q
      exact iteF ((tR_ret q).data S2 (.bl _))
theorem sim_lele {a b c : Expr} {ma mb mc : M B} {pos : Pos} (ha : SimE cl X a ma) (hb : SimE cl X b mb) (hc : SimE cl X c mc) : SimE cl X (.Compare a [.LtE, .LtE] [b, c] pos) (mLeLe ma mb mc) := fun W tk =>
  PE.imp (pe_chain op_le op_le (ha W tk) (hb W tk) (hc W tk) (hm := by show behindInMarks .LtE c = false; exact nomark c)) fun σ H Q h => lele_core h
theorem onlyB_lele {ma mb mc : M B} : OnlyB (mLeLe ma mb mc) := fun ρ b ρ' h => by
  obtain ⟨_, _, _, h⟩ := bind_ok h
  obtain ⟨_, _, _, h⟩ := bind_ok h
  obtain ⟨_, _, _, h⟩ := bind_ok h
  obtain ⟨_, _, _, h⟩ := bind_ok h
  obtain ⟨_, _, _, h⟩ := bind_ok h
  split at h
  · obtain ⟨_, _, _, h⟩ := bind_ok h
    obtain ⟨_, _, _, h⟩ := bind_ok h
    have h := lift_ok h
    unfold iLe at h
    split at h <;> cases h
    exact ⟨_, rfl⟩
  · cases h; exact ⟨_, rfl⟩
  · cases h
/-- a truth value as a test -/
theorem test_of {m : M B} {W : WX} {Q : Bool → Hp → Prop} (ob : OnlyB m) (h : tM C RlT W (tV m) σ H Q) : tM C RlB W m σ H fun x H1 => ∃ k, x = .bl k ∧ Q k H1 := by
  obtain ⟨F, ρ, S, r, ρ', e, q⟩ := h
  unfold tV bind at e
  split at e
  · cases e
  · rename_i c p ρ1 em
    cases e
    exact ⟨F, ρ, S, _, _, em, q⟩
  · rename_i b ρ1 em
    obtain ⟨c, rfl⟩ := ob _ _ _ em
    cases e
    refine ⟨F, ρ, S, _, _, em, fun v A F' H' T' S' rl fp nw => ?_⟩
    cases rl with
    | sh rl => cases rl; exact ⟨c, rfl, q c [] F' H' T' S' ⟨rfl, rfl⟩ Fp.nil New.nil⟩
theorem sim_leleT {a b c : Expr} {ma mb mc : M B} {pos : Pos} (ha : SimE cl X a ma) (hb : SimE cl X b mb) (hc : SimE cl X c mc) : SimT cl X (.Compare a [.LtE, .LtE] [b, c] pos) (tV (mLeLe ma mb mc)) := fun W tk =>
  PT.imp (pt_chain op_le op_le (ha W tk) (hb W tk) (hc W tk) (hm := by show behindInMarks .LtE c = false; exact nomark c)) fun σ H Q h => lele_core (test_of onlyB_lele h)
/-! ### built-ins of one value -/
def Od1 (C : Cs) (r : List V → Hp → VK → Prop) (f : D → Option B) : Prop := ∀ {σ : St} {F H : Hp} {ρ : Env} {A0 : List Addr} {x : V} {d : D} {b : B} {Q : VK}, Stt C F H σ ρ → Vw C F H x d → f d = some b → Fin C RlB A0 F ρ σ H Q b → r [x] H Q
theorem tM_un {r : List V → Hp → VK → Prop} {f : D → Option B} {m : M B} {W : WX} {Q : VK} (o : Od1 C r f) (h : tM C RlB W (mUn f m) σ H Q) : tCB r (tCons (tM C RlB W m) tNil) σ H Q := by
  obtain ⟨F, ρ, S, h⟩ := h
  exact one_bind S h fun x d F2 H2 ρ2 S2 v q => let ⟨b, eb, q⟩ := tR_end q; o S2 v eb q
theorem sim_b1 {x : Str} {id : String} {e : Expr} {p pos : Pos} {r : List V → Hp → VK → Prop} {f : D → Option B} {m : M B} (hc : CallR X (.builtin id) r) (o : Od1 (cs cl X) r f) (hg : Gl X x) (hm : X.mg x = none) (hv : bootBuiltins x = some (.builtin id))
    (ha : SimE cl X e m) (hn : x ≠ "__name__") (hdb : (x == ("__debug__" : Str)) = false) (he : starEach [e] X.env = (false, eval e X.env) :: starEach [] X.env) : SimE cl X (.Call (.Name x p) [e] [] pos) (mUn f m) :=
  fun W tk => PE.imp (pe_callB hc hg hm hv (pa_cons (ha W tk) pa_nil he) hn hdb he rfl) fun σ H Q h => tM_un o h
theorem sim_c1 {x : Str} {T : String} {e : Expr} {p pos : Pos} {r : List V → Hp → VK → Prop} {f : D → Option B} {m : M B} (hc : CallR X (.type T) r) (o : Od1 (cs cl X) r f) (hg : Gl X x) (hm : X.mg x = none) (hv : bootBuiltins x = some (.type T))
    (ha : SimE cl X e m) (hn : x ≠ "__name__") (hdb : (x == ("__debug__" : Str)) = false) (he : starEach [e] X.env = (false, eval e X.env) :: starEach [] X.env) : SimE cl X (.Call (.Name x p) [e] [] pos) (mUn f m) :=
  fun W tk => PE.imp (pe_callTy hc hg hm hv (pa_cons (ha W tk) pa_nil he) hn hdb he rfl) fun σ H Q h => tM_un o h
/-! len -/
theorem call_lenT : CallR X (.builtin "len") (fun xs H Q => ∃ (a : Addr) (F : Hp) (zs : List XT) (kvs : List (D × D)), xs = [.ref a] ∧ H a = some (dkT (cs cl X) a zs) ∧ RepT (cs cl X) F zs kvs ∧ Sub F H ∧ Q (.int zs.length) H) := by
  intro pins s σ H xs us Q I r h
  obtain ⟨a, F, zs, kvs, rfl, e, rt, sb, q⟩ := h
  obtain ⟨u, rfl, rx⟩ := vals1 r
  cases rx
  obtain ⟨ys, rel, dd, hz, hd, _⟩ := dk_at I e rt sb
  have hm : s.heap.DictKeyed (nestedKind X.prog X.w) a (pairsH ys) := ⟨ys, dd, rfl⟩
  have hl : (pairsH ys).length = zs.length := by
    rw [pairsH_length]
    have := congrArg List.length (relT_fst rel)
    simpa using this
  have hs : sizeLine = 16777216 := sizeLine_eq
  refine PyProof.Rows.call_len_slot (n := zs.length) hm.typeIs PySem.F.slot_dict_len (fun Q' hq => len_keyed hd hm ?_) (by omega) (by omega) ?_
  · rw [hl]; exact hq
  · exact ⟨.int zs.length, H, I.tok _, ⟨_, rfl⟩, q⟩
theorem CallR.or {f : Value} {r r' : List V → Hp → VK → Prop} (h : CallR X f r) (h' : CallR X f r') : CallR X f (fun xs H Q => r xs H Q ∨ r' xs H Q) := by
  intro pins s σ H xs us Q I rr q
  rcases q with q | q
  · exact h pins s σ H xs us Q I rr q
  · exact h' pins s σ H xs us Q I rr q

def rLen (cl : Nat → Addr) (X : Cx) : List V → Hp → VK → Prop := fun xs H Q => (∃ x n, xs = [x] ∧ LenV X.K x H n ∧ Q (.int n) H) ∨ (∃ a kvs, xs = [V.ref a] ∧ H a = some (.dK kvs) ∧ Q (.int kvs.length) H) ∨
  ∃ (a : Addr) (F : Hp) (zs : List XT) (kvs : List (D × D)), xs = [.ref a] ∧ H a = some (dkT (cs cl X) a zs) ∧ RepT (cs cl X) F zs kvs ∧ Sub F H ∧ Q (.int zs.length) H
theorem call_lenA : CallR X (.builtin "len") (rLen cl X) := call_len.or (call_lenD.or call_lenT)
theorem od_len : Od1 (cs cl X) (rLen cl X) iLen := by
  intro σ F H ρ A0 x d b Q S v e q
  unfold iLen dLen at e
  obtain ⟨n, e, rfl⟩ := Option.map_eq_some_iff.mp e
  split at e
  · cases e
    obtain ⟨a, xs, rfl, g, r⟩ := v.tup
    exact .inl ⟨_, _, rfl, .inr ⟨xs, S.sub.sqT g, r.length.symm⟩, q.data S (.int _)⟩
  · cases e
    obtain ⟨a, xs, rfl, g, r⟩ := v.lst S.sub
    exact .inl ⟨_, _, rfl, .inl ⟨xs, g, r.length.symm⟩, q.data S (.int _)⟩
  · cases e
    obtain ⟨rfl, o⟩ := v.str
    exact .inl ⟨_, _, rfl, ⟨by rw [mkS_len, ← lim_eq]; exact o.2, (mkS_len _).symm⟩, q.data S (.int _)⟩
  · rename_i t kvs _
    cases e
    cases t with
    | false =>
      obtain ⟨a, xs, rfl, g, r⟩ := v.dicS S.sub
      refine .inr (.inl ⟨a, xs, rfl, g, ?_⟩)
      rw [r.length]
      exact q.data S (.int _)
    | true =>
      obtain ⟨a, xs, rfl, g, r⟩ := v.dicT S.sub
      refine .inr (.inr ⟨a, F, xs, kvs, rfl, g, r, S.sub, ?_⟩)
      rw [r.length]
      exact q.data S (.int _)
  · cases e
/-- a built-in's name: free in the text -/
structure Bn (X : Cx) (x : Str) : Prop where
  gl : Gl X x
  mg : X.mg x = none
theorem sim_len {e : Expr} {p pos : Pos} {m : M B} (b : Bn X "len") (ha : SimE cl X e m) (he : starEach [e] X.env = (false, eval e X.env) :: starEach [] X.env) : SimE cl X (.Call (.Name "len" p) [e] [] pos) (mLen m) :=
  sim_b1 call_lenA od_len b.gl b.mg boot_len ha (by decide) (by decide) he
theorem od_int1 : Od1 C (fun xs H Q => (∃ i, xs = [.int i] ∧ Q (.int i) H) ∨ ∃ k, xs = [.bl k] ∧ Q (.int (if k then 1 else 0)) H) iInt := by
  intro σ F H ρ A0 x d b Q S v e q
  unfold iInt at e
  split at e
  · cases e
    exact .inl ⟨_, by rw [v.int], q.data S (.int _)⟩
  · cases e
    exact .inr ⟨_, by rw [v.bl], q.data S (.int _)⟩
  · cases e
theorem sim_int1 {e : Expr} {p pos : Pos} {m : M B} (b : Bn X "int") (ha : SimE cl X e m) (he : starEach [e] X.env = (false, eval e X.env) :: starEach [] X.env) : SimE cl X (.Call (.Name "int" p) [e] [] pos) (mInt m) :=
  sim_c1 call_int1 od_int1 b.gl b.mg (by decide +kernel) ha (by decide) (by decide) he
def rTupO (K : PySem.W.Frag) : List V → Hp → VK → Prop := fun xs H Q => ∃ p ys, xs = [.ref p] ∧ ((SqL K H p ys ∧ ∀ l, H l = none → Q (.ref l) (upd H l (.tup ys))) ∨ (SqT K H p ys ∧ Q (.ref p) H))
theorem od_tuple : Od1 C (rTupO C.K) iTuple := by
  intro σ F H ρ A0 x d b Q S v e q
  unfold iTuple at e
  split at e
  · cases e
    obtain ⟨a, xs, rfl, g, r⟩ := v.tup
    exact ⟨a, xs, rfl, .inr ⟨S.sub.sqT g, q.data S (.tup g r)⟩⟩
  · cases e
    obtain ⟨a, xs, rfl, g, r⟩ := v.lst S.sub
    exact ⟨a, xs, rfl, .inl ⟨g, fun l hl => q.tup S r hl⟩⟩
  · cases e
theorem sim_tuple {e : Expr} {p pos : Pos} {m : M B} (b : Bn X "tuple") (ha : SimE cl X e m) (he : starEach [e] X.env = (false, eval e X.env) :: starEach [] X.env) : SimE cl X (.Call (.Name "tuple" p) [e] [] pos) (mTuple m) :=
  sim_c1 call_tuple_of od_tuple b.gl b.mg (by decide +kernel) ha (by decide) (by decide) he
theorem bools_of {F : Hp} : ∀ {xs : List V} {ds : List D}, Reps C F xs ds → ∀ {bs : List Bool}, bools ds = some bs → xs = bs.map V.bl
  | _, _, .nil, bs, e => by cases e; rfl
  | _, d :: ds, .cons r t, bs, e => by
    cases d with
    | bl b =>
      obtain ⟨cs, e1, rfl⟩ := Option.map_eq_some_iff.mp (show (bools ds).map (fun bs => b :: bs) = some bs from e)
      cases r
      rw [bools_of t e1]; rfl
    | _ => cases e
theorem od_all : Od1 C (rAll C.K) iAll := by
  intro σ F H ρ A0 x d b Q S v e q
  unfold iAll at e
  split at e
  · obtain ⟨bs, e', rfl⟩ := Option.map_eq_some_iff.mp e
    obtain ⟨a, xs, rfl, g, r⟩ := v.lst S.sub
    have := bools_of r e'
    subst this
    exact ⟨a, bs, rfl, g, q.data S (.bl _)⟩
  · cases e
theorem od_any : Od1 C (rAny C.K) iAny := by
  intro σ F H ρ A0 x d b Q S v e q
  unfold iAny at e
  split at e
  · obtain ⟨bs, e', rfl⟩ := Option.map_eq_some_iff.mp e
    obtain ⟨a, xs, rfl, g, r⟩ := v.lst S.sub
    have := bools_of r e'
    subst this
    exact ⟨a, bs, rfl, g, q.data S (.bl _)⟩
  · cases e
theorem sim_all {e : Expr} {p pos : Pos} {m : M B} (b : Bn X "all") (hc : X.calm = true) (ha : SimE cl X e m) (he : starEach [e] X.env = (false, eval e X.env) :: starEach [] X.env) : SimE cl X (.Call (.Name "all" p) [e] [] pos) (mAll m) :=
  sim_b1 (cr_all hc) od_all b.gl b.mg (by decide +kernel) ha (by decide) (by decide) he
theorem sim_any {e : Expr} {p pos : Pos} {m : M B} (b : Bn X "any") (hc : X.calm = true) (ha : SimE cl X e m) (he : starEach [e] X.env = (false, eval e X.env) :: starEach [] X.env) : SimE cl X (.Call (.Name "any" p) [e] [] pos) (mAny m) :=
  sim_b1 (cr_any hc) od_any b.gl b.mg (by decide +kernel) ha (by decide) (by decide) he
/-! isinstance -/
def tyN : Ty → String | .bool => "bool" | .int => "int" | .str => "str" | .tuple => "tuple" | .list => "list"
theorem tyx_of {v : V} {d : D} (S : Sub F H) (h : Vw C F H v d) (n : ∀ t kvs, d ≠ .dic t kvs) : ∃ T : String, TyX C.K H v (.type T) ∧ ∀ t, PySem.W.kitOne C.K (.type T) (.type (tyN t)) = some (isA d t) := by
  cases d with
  | non => rw [h.non]; exact ⟨_, .base .non, fun t => by cases t <;> (simp only [isA, tyN]; exact kit_ty (by decide +kernel))⟩
  | bl b => rw [h.bl]; exact ⟨_, .base (.bl b), fun t => by cases t <;> (simp only [isA, tyN]; exact kit_ty (by decide +kernel))⟩
  | int i => rw [h.int]; exact ⟨_, .base (.int i), fun t => by cases t <;> (simp only [isA, tyN]; exact kit_ty (by decide +kernel))⟩
  | str s => rw [h.str.1]; exact ⟨_, .base (.str _), fun t => by cases t <;> (simp only [isA, tyN]; exact kit_ty (by decide +kernel))⟩
  | tup xs =>
    obtain ⟨a, vs, rfl, q, r⟩ := h.tup
    refine ⟨"tuple", ?_, fun t => by cases t <;> (simp only [isA, tyN]; exact kit_ty (by decide +kernel))⟩
    rcases S.sqT q with (q | ⟨o, q⟩) | ⟨o, its, n, e, c, _⟩
    · exact .base (.tup q)
    · exact .fTuple q
    · exact .kTuple e c
  | lst xs =>
    obtain ⟨a, vs, rfl, q, r⟩ := h.lst S
    refine ⟨"list", ?_, fun t => by cases t <;> (simp only [isA, tyN]; exact kit_ty (by decide +kernel))⟩
    rcases q with (q | ⟨o, q⟩) | ⟨o, its, n, e, c, _⟩
    · exact .base (.lst q)
    · exact .base (.frz q)
    · exact .kList e c
  | dic t kvs => exact absurd rfl (n t kvs)
theorem sim_isA {e : Expr} {p p2 pos : Pos} {m : M B} (t : Ty) {tn : Str} (htn : tn = Str.ofString (tyN t)) (b : Bn X "isinstance") (bt : Bn X tn) (hv : bootBuiltins tn = some (.type (tyN t))) (hn : tn ≠ "__name__") (hdb : (tn == ("__debug__" : Str)) = false) (ha : SimE cl X e m)
    (he : starEach [e, .Name tn p2] X.env = (false, eval e X.env) :: starEach [.Name tn p2] X.env) (he2 : starEach [.Name tn p2] X.env = (false, eval (.Name tn p2) X.env) :: starEach [] X.env) (hpl : (backTo pos (starEach [.Name tn p2] X.env)).any (·.1) = false) : SimE cl X (.Call (.Name "isinstance" p) [e, .Name tn p2] [] pos) (mIsA t m) :=
  fun W tk => PE.imp (pe_callB call_isi b.gl b.mg (by decide +kernel) (pa_cons (ha W tk) (pa_cons (pe_bltn (v := .ty (tyN t)) bt.gl bt.mg hv rfl hn hdb) pa_nil he2) he) (by decide) (by decide) he hpl) fun σ H Q ⟨F, ρ, S, h⟩ => by
    refine one_bind S h fun x d F2 H2 ρ2 S2 v q => ?_
    obtain ⟨c, ec, q⟩ := tR_end q
    have n : ∀ t kvs, d ≠ .dic t kvs := fun t' kvs z => by subst z; cases ec
    have ec' : c = boo (isA d t) := by
      cases d with
      | dic t' kvs => cases ec
      | _ => cases ec; rfl
    subst ec'
    obtain ⟨T, ty, k⟩ := tyx_of S2.sub v n
    exact ⟨x, .ty (tyN t), .type T, .type (tyN t), isA d t, rfl, .ty _, ty, k t, q.data S2 (.bl _)⟩
end
end WF

set_option Elab.async false
set_option linter.all false
set_option maxRecDepth 100000
set_option maxHeartbeats 4000000
/-! WFJ: statements. -/
namespace WF
open PySem PySem.Spec PyProof.Rows L2

/-- what is wanted behind a statement, from the state F ρ with A0 in hand -/
def tSR (C : Cs) (W : WX) (A0 : List Addr) (F : Hp) (ρ : Env) (m : S) (D : Ends) (σ : St) (H : Hp) : Prop := ∃ r ρ', m ρ = some (r, ρ') ∧
  match r with
  | .ok .nx => ∀ σ' F' H', Tr A0 σ F H ρ σ' F' H' ρ' → Stt C F' H' σ' ρ' → D.nx σ' H'
  | .ok .bk => ∀ σ' F' H', Tr A0 σ F H ρ σ' F' H' ρ' → Stt C F' H' σ' ρ' → D.bk σ' H'
  | .ok .ct => ∀ σ' F' H', Tr A0 σ F H ρ σ' F' H' ρ' → Stt C F' H' σ' ρ' → D.ct σ' H'
  | .ok (.rt b) => ∀ v A σ' F' H', Tr A0 σ F H ρ σ' F' H' ρ' → Stt C F' H' σ' ρ' → noPl b = true → RB C σ' F' H' v b A → Fp σ' F' H' ρ' A → New A0 σ H ρ A → D.rt v H'
  | .exc c p => ∀ cls d σ' F' H', Tr A0 σ F H ρ σ' F' H' ρ' → Stt C F' H' σ' ρ' → REx C F' c p cls d H' → W cls d σ' H'
def tS (C : Cs) (W : WX) (m : S) : TS := fun D σ H => ∃ F ρ, Stt C F H σ ρ ∧ tSR C W [] F ρ m D σ H
section
variable {C : Cs} {W : WX} {A0 A1 : List Addr} {F F1 H H1 : Hp} {ρ ρ1 : Env} {σ σ1 : St} {D : Ends} {m : S}
/-- the same from a later state -/
theorem tSR_from (T : Tr A0 σ F H ρ σ1 F1 H1 ρ1) (n : New A0 σ H ρ A1) (e : m ρ = m ρ1) (h : tSR C W A0 F ρ m D σ H) : tSR C W A1 F1 ρ1 m D σ1 H1 := by
  obtain ⟨r, ρ', e', h⟩ := h
  have up : ∀ {x : Addr}, x ∈ A1 → x ∈ A0 ++ A1 := fun z => List.mem_append_right _ z
  refine ⟨r, ρ', e ▸ e', ?_⟩
  cases r with
  | ok f =>
    cases f with
    | nx => exact fun σ' F' H' T' S => h σ' F' H' (T.trans n (T'.hand fun _ => up)) S
    | bk => exact fun σ' F' H' T' S => h σ' F' H' (T.trans n (T'.hand fun _ => up)) S
    | ct => exact fun σ' F' H' T' S => h σ' F' H' (T.trans n (T'.hand fun _ => up)) S
    | rt b => exact fun v A σ' F' H' T' S np rl fp nw => h v A σ' F' H' (T.trans n (T'.hand fun _ => up)) S np rl fp (New.trans T n fun x z => (nw x z).imp id fun q => q.imp up id)
  | exc c p => exact fun cls d σ' F' H' T' S x => h cls d σ' F' H' (T.trans n (T'.hand fun _ => up)) S x
theorem tSR_up (h : tSR C W A0 F ρ m D σ H) : tSR C W [] F ρ m D σ H := tSR_from Tr.refl (fun _ z => nomatch z) rfl h
theorem tSR_stuck {P : Prop} (h : tSR C W A0 F ρ (stuck : S) D σ H) : P := by
  obtain ⟨r, ρ', e, h⟩ := h
  cases e
/-- through an expression -/
theorem tSR_bind {α β : Type} {R : Rl β α} {e : M α} {k : α → S} {P : β → Hp → Prop} (S0 : Stt C F H σ ρ) (h : tSR C W A0 F ρ (bind e k) D σ H)
    (i : ∀ v a A F1 H1 ρ1, Tr [] σ F H ρ σ F1 H1 ρ1 → Stt C F1 H1 σ ρ1 → R.rel C σ F1 H1 v a A → Fp σ F1 H1 ρ1 A → New [] σ H ρ A → tSR C W (A0 ++ A) F1 ρ1 (k a) D σ H1 → P v H1) : tM C R W e σ H P := by
  obtain ⟨r, ρ', e', h⟩ := h
  have up : ∀ {A : List Addr}, New [] σ H ρ A → New A0 σ H ρ A := fun n a z => (n a z).imp id fun q => q.elim (fun q => nomatch q) .inr
  unfold bind at e'
  split at e'
  · cases e'
  · rename_i c p ρ1 em
    cases e'
    exact ⟨F, ρ, S0, _, _, em, fun cls d F' H' T S x => h cls d σ F' H' (T.hand fun _ z => nomatch z) S x⟩
  · rename_i a ρ1 em
    refine ⟨F, ρ, S0, _, _, em, fun v A F1 H1 T S rl fp nw => i v a A F1 H1 ρ1 T S rl fp nw ⟨r, ρ', e', ?_⟩⟩
    have T0 : Tr A0 σ F H ρ σ F1 H1 ρ1 := T.hand fun _ z => nomatch z
    cases r with
    | ok f =>
      cases f with
      | nx => exact fun σ' F' H' T' S => h σ' F' H' (T0.trans (up nw) T') S
      | bk => exact fun σ' F' H' T' S => h σ' F' H' (T0.trans (up nw) T') S
      | ct => exact fun σ' F' H' T' S => h σ' F' H' (T0.trans (up nw) T') S
      | rt b => exact fun v A σ' F' H' T' S np rl fp nw' => h v A σ' F' H' (T0.trans (up nw) T') S np rl fp (New.trans T0 (up nw) nw')
    | exc c p => exact fun cls d σ' F' H' T' S x => h cls d σ' F' H' (T0.trans (up nw) T') S x
/-- a step that neither fails nor turns anything -/
theorem tSR_step {α : Type} {e : M α} {k : α → S} (h : tSR C W A0 F ρ (bind e k) D σ H) (p : ∀ r ρ', e ρ = some (r, ρ') → ρ' = ρ ∧ ∃ a, r = .ok a) : ∃ a, e ρ = some (.ok a, ρ) ∧ tSR C W A0 F ρ (k a) D σ H := by
  obtain ⟨r, ρ', e', h⟩ := h
  unfold bind at e'
  split at e'
  · cases e'
  · rename_i c q ρ1 em
    obtain ⟨_, a, z⟩ := p _ _ em
    cases z
  · rename_i a ρ1 em
    obtain ⟨z, _⟩ := p _ _ em
    subst z
    exact ⟨a, em, r, ρ', e', h⟩
theorem tSR_nx (h : tSR C W A0 F ρ (ret .nx : S) D σ H) : ∀ σ' F' H', Tr A0 σ F H ρ σ' F' H' ρ → Stt C F' H' σ' ρ → D.nx σ' H' := by
  obtain ⟨r, ρ', e, h⟩ := h
  cases e
  exact h
end

section
variable (cl : Nat → Addr) (X : Cx)
/-- the statement st does what m does -/
def SimS (st : Stmt) (m : S) : Prop := ∀ W, Takes X W → PS X st (tS (cs cl X) W m)
def SimB (st : List Stmt) (m : S) : Prop := ∀ W, Takes X W → PSs X st (tS (cs cl X) W m)
end
theorem PS.imp {X : Cx} {st : Stmt} {t t' : TS} (h : PS X st t) (i : ∀ D σ H, t' D σ H → t D σ H) : PS X st t' := ⟨fun pins s σ H D I q => h.run pins s σ H D I (i D σ H q)⟩
theorem PSs.imp {X : Cx} {st : List Stmt} {t t' : TS} (h : PSs X st t) (i : ∀ D σ H, t' D σ H → t D σ H) : PSs X st t' := ⟨fun pins s σ H D I q => h.run pins s σ H D I (i D σ H q)⟩
section
variable {cl : Nat → Addr} {X : Cx} {C : Cs} {σ : St} {F H : Hp} {ρ : Env} {A A0 : List Addr}
theorem seq_imp {a b : S} {D : Ends} {W : WX} (h : tS C W (sSeq a b) D σ H) : tSeq (tS C W a) (tS C W b) D σ H := by
  obtain ⟨F, ρ, S0, r, ρ', e, h⟩ := h
  refine ⟨F, ρ, S0, ?_⟩
  unfold sSeq bind at e
  split at e
  · cases e
  · rename_i c p ρ1 em
    cases e
    exact ⟨_, _, em, h⟩
  · rename_i f ρ1 em
    refine ⟨_, _, em, ?_⟩
    cases f with
    | nx =>
      refine fun σ1 F1 H1 T1 S1 => ⟨F1, ρ1, S1, r, ρ', e, ?_⟩
      cases r with
      | ok f =>
        cases f with
        | nx => exact fun σ' F' H' T' S => h σ' F' H' (T1.trans0 T') S
        | bk => exact fun σ' F' H' T' S => h σ' F' H' (T1.trans0 T') S
        | ct => exact fun σ' F' H' T' S => h σ' F' H' (T1.trans0 T') S
        | rt b => exact fun v A σ' F' H' T' S np rl fp nw => h v A σ' F' H' (T1.trans0 T') S np rl fp (New.trans T1 (A1 := []) (fun _ z => nomatch z) nw)
      | exc c p => exact fun cls d σ' F' H' T' S x => h cls d σ' F' H' (T1.trans0 T') S x
    | bk => cases e; exact h
    | ct => cases e; exact h
    | rt b => cases e; exact h
theorem sim_seq {st : Stmt} {rest : List Stmt} {a b : S} (h1 : SimS cl X st a) (h2 : SimB cl X rest b) : SimB cl X (st :: rest) (sSeq a b) := fun W tk => PSs.imp (pss_cons (h1 W tk) (h2 W tk)) fun D σ H h => seq_imp h
theorem sim_one {st : Stmt} {a : S} (h1 : SimS cl X st a) : SimB cl X [st] a := fun W tk => pss_one (h1 W tk)
theorem sim_pnil : SimB cl X [] sPass := fun W _ => PSs.imp pss_nil fun D σ H ⟨F, ρ, S, h⟩ => tSR_nx h σ F H Tr.refl S
theorem sim_pass {pos : Pos} : SimS cl X (.Pass pos) sPass := fun W _ => PS.imp ps_pass fun D σ H ⟨F, ρ, S, h⟩ => tSR_nx h σ F H Tr.refl S
theorem sim_drop {e : Expr} {m : M B} {pos : Pos} (ha : SimE cl X e m) (hs : swapsWith e none pos.line X.env = pure false) : SimS cl X (.Expr e pos) (sDrop m) := fun W tk => PS.imp (ps_expr (ha W tk) hs) fun D σ H ⟨F, ρ, S, h⟩ =>
  tSR_bind (R := RlB) S h fun v a A F1 H1 ρ1 T S1 rl fp nw q => tSR_nx q σ F1 H1 Tr.refl S1
theorem sim_ifS {c : Expr} {a b : List Stmt} {t : M Bool} {ma mb : S} {pos : Pos} (hc : SimT cl X c t) (ha : SimB cl X a ma) (hb : SimB cl X b mb) : SimS cl X (.If c a b pos) (sIf t ma mb) := fun W tk => PS.imp (ps_if (hc W tk) (ha W tk) (hb W tk)) fun D σ H ⟨F, ρ, S, h⟩ =>
  tSR_bind (R := RlT) S h fun v a A F1 H1 ρ1 T S1 rl fp nw q => by
    obtain ⟨rfl, rfl⟩ := rl
    cases v with
    | true => exact iteT ⟨F1, ρ1, S1, tSR_up q⟩
    | false => exact iteF ⟨F1, ρ1, S1, tSR_up q⟩
theorem RB.chg {σ' : St} {v : V} {b : B} (h : RB C σ F H v b A) (n : noPl b = true) : RB C σ' F H v b A := by
  cases h with
  | sh r => exact .sh r
  | ow r => exact .ow r
  | pl q => cases n
  | tp q r => exact .tp q r
theorem sim_ret {e : Expr} {m : M B} {pos : Pos} (ha : SimE cl X e m) : SimS cl X (.Return (some e) pos) (sRet m) := fun W tk => PS.imp (ps_ret (ha W tk)) fun D σ H ⟨F, ρ, S, h⟩ =>
  tSR_bind (R := RlB) S h fun v a A F1 H1 ρ1 T S1 rl fp nw q => by
    have go : noPl a = true → tSR (cs cl X) W ([] ++ A) F1 ρ1 (ret (.rt a)) D σ H1 → D.rt v H1 := fun n q => by
      obtain ⟨r, ρ', e, q⟩ := q
      cases e
      exact q v A σ F1 H1 Tr.refl S1 n rl fp fun z m => .inr (.inl (by rw [List.nil_append]; exact m))
    cases a with
    | pl i => exact tSR_stuck q
    | sh d => exact go rfl q
    | ow o => exact go rfl q
    | tp bs => exact go rfl q

/-! ### names bound -/
theorem put_at_set {ρ ρ1 : Env} {i : Nat} {b : SB} (h : putS ρ i b = some ρ1) : i < ρ.length ∧ (∀ o, ρ.at i ≠ some (.io o)) ∧ ρ1 = ρ.set i (some b) := by
  unfold putS at h
  split at h
  · rename_i hl
    split at h
    · cases h
    · rename_i n
      cases h
      exact ⟨hl, fun o e => n o e, rfl⟩
  · cases h
/-- a name is bound to a value: data, or a new object -/
theorem bind_slot {i : Nat} {b : SB} {v : V} {ρ1 : Env} (S : Stt C F H σ ρ) (h : putS ρ i b = some ρ1) (nio : ∀ o, b ≠ .io o) (r : RSB C F H v b) (f : ∀ a, b.obj.isSome = true → v = .ref a → ¬ Owns σ ρ a ∧ a ∈ A ∧ H a ≠ none) :
    Stt C F H (σ.set i (some v)) ρ1 ∧ Tr A σ F H ρ (σ.set i (some v)) F H ρ1 := by
  obtain ⟨hl, n, rfl⟩ := put_at_set h
  have hlσ : i < σ.length := by rw [← S.len]; exact hl
  have sig : ∀ {j : Nat} {c : SB}, Env.at (ρ.set i (some b)) j = some c → (j = i ∧ c = b) ∨ (j ≠ i ∧ ρ.at j = some c ∧ (σ.set i (some v))[j]? = σ[j]?) := fun {j c} e => by
    rcases at_set e with ⟨rfl, e1, _⟩ | ⟨nj, e1⟩
    · cases e1; exact .inl ⟨rfl, rfl⟩
    · exact .inr ⟨nj, e1, List.getElem?_set_ne (Ne.symm nj)⟩
  have own : ∀ {a : Addr}, Owns (σ.set i (some v)) (ρ.set i (some b)) a → Owns σ ρ a ∨ (b.obj.isSome = true ∧ v = .ref a) := fun {a} ⟨j, c, h1, h2, h3⟩ => by
    rcases sig h1 with ⟨rfl, rfl⟩ | ⟨nj, e1, e2⟩
    · rw [List.getElem?_set_self hlσ] at h3
      cases h3
      exact .inr ⟨h2, rfl⟩
    · rw [e2] at h3
      exact .inl ⟨j, c, e1, h2, h3⟩
  refine ⟨⟨S.sub, by rw [List.length_set, List.length_set]; exact S.len, fun j c e => ?_, fun j k c d a h1 h2 h3 h4 h5 h6 => ?_⟩, ⟨Sub.refl _, fun a o e _ _ => e, fun a _ _ _ z => z, fun a e => e, fun a q => ?_, fun j o q => ?_, fun j o q => ?_⟩⟩
  · rcases sig e with ⟨rfl, rfl⟩ | ⟨nj, e1, e2⟩
    · exact ⟨v, List.getElem?_set_self hlσ, r⟩
    · rw [e2]; exact S.sl j c e1
  · rcases sig h1 with ⟨rfl, rfl⟩ | ⟨nj, e1, e2⟩
    · rw [List.getElem?_set_self hlσ] at h5
      cases h5
      rcases sig h3 with ⟨rfl, rfl⟩ | ⟨nk, e3, e4⟩
      · rfl
      · rw [e4] at h6
        exact absurd ⟨k, d, e3, h4, h6⟩ (f a h2 rfl).1
    · rw [e2] at h5
      rcases sig h3 with ⟨rfl, rfl⟩ | ⟨nk, e3, e4⟩
      · rw [List.getElem?_set_self hlσ] at h6
        cases h6
        exact absurd ⟨j, c, e1, h2, h5⟩ (f a h4 rfl).1
      · rw [e4] at h6
        exact S.dis j k c d a e1 h2 e3 h4 h5 h6
  · rcases own q with z | ⟨z1, z2⟩
    · exact .inl z
    · exact .inr (.inl (f a z1 z2).2.1)
  · by_cases e : i = j
    · subst e; exact absurd q (n o)
    · refine ⟨⟨o, by rw [at_set_ne e]; exact q⟩, List.getElem?_set_ne e⟩
  · rcases sig q with ⟨rfl, e⟩ | ⟨nj, e1, e2⟩
    · exact absurd e.symm (nio o)
    · exact ⟨o, e1⟩
/-- what a name is bound to, from what an expression gives -/
theorem own_rel {v : V} {x : B} {b : SB} {ρ2 : Env} (S : Stt C F H σ ρ) (rl : RB C σ F H v x A) (fp : Fp σ F H ρ A) (e : ownB x ρ = some (.ok b, ρ2)) :
    ρ2 = ρ ∧ ∃ F1, Stt C F1 H σ ρ ∧ Tr A σ F H ρ σ F1 H ρ ∧ RSB C F1 H v b ∧ (∀ o, b ≠ .io o) ∧ ∀ a, b.obj.isSome = true → v = .ref a → ¬ Owns σ ρ a ∧ a ∈ A ∧ H a ≠ none := by
  cases x with
  | sh d =>
    cases e
    cases rl with
    | sh r => exact ⟨rfl, F, S, Tr.refl, .sh r, fun o z => (nomatch z), fun a z => (nomatch z)⟩
  | ow o =>
    cases e
    cases rl with
    | ow r => exact ⟨rfl, F, S, Tr.refl, .ow r (fp.nf _ (by simp)), fun o z => (nomatch z), fun a _ z => by cases z; exact ⟨fp.no _ (by simp), by simp, fp.th _ (by simp)⟩⟩
  | pl i => cases e
  | tp bs =>
    obtain ⟨z, _⟩ := lift_pure e
    subst z
    have e := lift_ok e
    obtain ⟨ds, e1, rfl⟩ := Option.map_eq_some_iff.mp e
    obtain ⟨S1, T1⟩ := share S fp
    cases rl with
    | tp q r =>
      exact ⟨rfl, _, S1, T1, .sh (.tup ((sub_addF fp).sqT q) (rtp_in r (sub_addF fp) (fun a m o q => by rw [addF_in m]; exact q) e1)), fun o z => (nomatch z), fun a z => (nomatch z)⟩
theorem bindS_go {W : WX} {D : Ends} {i : Nat} {b : SB} {v : V} (S0 : Stt C F H σ ρ) (h : tSR C W A0 F ρ (bindS i b) D σ H) (nio : ∀ o, b ≠ .io o) (r : RSB C F H v b) (f : ∀ a, b.obj.isSome = true → v = .ref a → ¬ Owns σ ρ a ∧ a ∈ A0 ∧ H a ≠ none) : D.nx (σ.set i (some v)) H := by
  obtain ⟨r', ρ', e, h⟩ := h
  unfold bindS at e
  split at e
  · rename_i ρ1 e1
    cases e
    obtain ⟨S1, T1⟩ := bind_slot S0 e1 nio r f
    exact h _ F H T1 S1
  · cases e
theorem sim_set {i : Nat} {x : Str} {e : Expr} {m : M B} {pos pos' : Pos} (hN : X.N.Nodup) (hi : X.N[i]? = some x) (hx : Loc X.env.scope x) (ha : SimE cl X e m) (hs : swapsWith e (some (.Name x pos')) pos.line X.env = pure false) (hf : X.fn x = true ∨ X.env.scope.names.lookup x = some .local) :
    SimS cl X (.Assign [.Name x pos'] e pos) (sSet i m) := fun W tk => PS.imp (ps_set hN hi hx (ha W tk) hs hf) fun D σ H ⟨F, ρ, S, h⟩ =>
  tSR_bind (R := RlB) S h fun v a A F1 H1 ρ1 T S1 rl fp nw q => by
    obtain ⟨b, eb, q⟩ := tSR_step q fun r ρ' e => by
      cases a with
      | pl i => cases e
      | sh d => cases e; exact ⟨rfl, _, rfl⟩
      | ow o => cases e; exact ⟨rfl, _, rfl⟩
      | tp bs => exact lift_pure e
    obtain ⟨_, F2, S2, T2, r, nio, f⟩ := own_rel S1 rl fp eb
    exact bindS_go (A0 := A) S2 (tSR_from (T2.hand fun z m => by rw [List.nil_append]; exact m) (fun z m => .inr (.inl (by rw [List.nil_append]; exact m))) rfl q) nio r f
end
end WF

set_option Elab.async false
set_option linter.all false
set_option maxRecDepth 100000
set_option maxHeartbeats 4000000
/-! WFK: defs and their calls. -/
namespace WF
open PySem PySem.Spec PyProof.Rows L2

def isIns : B → Bool | .ow (.ins _ _) => true | _ => false
section
variable {cl : Nat → Addr} {X : Cx} {C : Cs} {σ : St} {F H F' H' : Hp} {ρ : Env} {A A0 : List Addr} {vs : List V} {bs : List B} {sbs : List SB} {os : Env}
/-- arguments: data and new data (A1); new instances (A2) -/
structure Split (C : Cs) (σ : St) (F H : Hp) (vs : List V) (bs : List B) (A A1 A2 : List Addr) : Prop where
  mem : ∀ a, a ∈ A ↔ a ∈ A1 ∨ a ∈ A2
  dj : A.Nodup → A1.Nodup ∧ ∀ a ∈ A2, a ∉ A1
  ins : ∀ (j : Nat) b v, bs[j]? = some b → vs[j]? = some v → isIns b = true → ∃ a o, v = .ref a ∧ b = .ow o ∧ a ∈ A2 ∧ ROb C F H a o
  oth : ∀ (j : Nat) b v, bs[j]? = some b → vs[j]? = some v → isIns b = false → ∃ Aj, (∀ a ∈ Aj, a ∈ A1) ∧ RB C σ F H v b Aj
  uni : A.Nodup → ∀ (j k : Nat) b c a, bs[j]? = some b → bs[k]? = some c → isIns b = true → isIns c = true → vs[j]? = some (.ref a) → vs[k]? = some (.ref a) → j = k
theorem split_of (r : RBs C σ F H vs bs A) : ∃ A1 A2, Split C σ F H vs bs A A1 A2 := by
  induction r with
  | nil => exact ⟨[], [], fun a => by simp, fun _ => by simp, fun j b v e => by simp at e, fun j b v e => by simp at e, fun _ j k b c a e => by simp at e⟩
  | @cons v b vs bs A A' r t ih =>
    obtain ⟨A1, A2, S⟩ := ih
    cases hi : isIns b with
    | false =>
      refine ⟨A ++ A1, A2, fun a => ?_, fun nd => ?_, fun j c u e1 e2 e3 => ?_, fun j c u e1 e2 e3 => ?_, fun nd j k c c' a e1 e2 e3 e4 e5 e6 => ?_⟩
      · rw [List.mem_append, List.mem_append, S.mem a, or_assoc]
      · obtain ⟨n1, n2, n3⟩ := List.nodup_append.mp nd
        obtain ⟨m1, m2⟩ := S.dj n2
        refine ⟨List.nodup_append.mpr ⟨n1, m1, fun a h b h' => n3 a h b ((S.mem b).mpr (.inl h'))⟩, fun a h h' => ?_⟩
        rcases List.mem_append.mp h' with z | z
        · exact n3 a z a ((S.mem a).mpr (.inr h)) rfl
        · exact m2 a h z
      · cases j with
        | zero => simp at e1; subst e1; rw [hi] at e3; cases e3
        | succ j => exact S.ins j c u (by simpa using e1) (by simpa using e2) e3
      · cases j with
        | zero =>
          simp at e1 e2
          subst e1; subst e2
          exact ⟨A, fun a m => List.mem_append_left _ m, r⟩
        | succ j =>
          obtain ⟨Aj, h1, h2⟩ := S.oth j c u (by simpa using e1) (by simpa using e2) e3
          exact ⟨Aj, fun a m => List.mem_append_right _ (h1 a m), h2⟩
      · cases j with
        | zero => simp at e1; subst e1; rw [hi] at e3; cases e3
        | succ j =>
          cases k with
          | zero => simp at e2; subst e2; rw [hi] at e4; cases e4
          | succ k => rw [S.uni (List.nodup_append.mp nd).2.1 j k c c' a (by simpa using e1) (by simpa using e2) e3 e4 (by simpa using e5) (by simpa using e6)]
    | true =>
      cases r with
      | sh r => cases hi
      | pl r => cases hi
      | tp q r => cases hi
      | @ow a0 o r =>
      refine ⟨A1, a0 :: A2, fun a => ?_, fun nd => ?_, fun j c u e1 e2 e3 => ?_, fun j c u e1 e2 e3 => ?_, fun nd j k c c' a e1 e2 e3 e4 e5 e6 => ?_⟩
      · rw [List.mem_append, S.mem a, List.mem_singleton, List.mem_cons]
        constructor
        · rintro (z | z | z)
          · exact .inr (.inl z)
          · exact .inl z
          · exact .inr (.inr z)
        · rintro (z | z | z)
          · exact .inr (.inl z)
          · exact .inl z
          · exact .inr (.inr z)
      · obtain ⟨n1, n2, n3⟩ := List.nodup_append.mp nd
        obtain ⟨m1, m2⟩ := S.dj n2
        refine ⟨m1, fun a h h' => ?_⟩
        rcases List.mem_cons.mp h with z | z
        · subst z; exact n3 a (by simp) a ((S.mem a).mpr (.inl h')) rfl
        · exact m2 a z h'
      · cases j with
        | zero =>
          simp at e1 e2
          subst e1; subst e2
          exact ⟨a0, o, rfl, rfl, List.mem_cons_self, r⟩
        | succ j =>
          obtain ⟨a, o, h1, h2, h3, h4⟩ := S.ins j c u (by simpa using e1) (by simpa using e2) e3
          exact ⟨a, o, h1, h2, List.mem_cons_of_mem _ h3, h4⟩
      · cases j with
        | zero => simp at e1; subst e1; rw [hi] at e3; cases e3
        | succ j => exact S.oth j c u (by simpa using e1) (by simpa using e2) e3
      · obtain ⟨n1, n2, n3⟩ := List.nodup_append.mp nd
        have no : ∀ (j : Nat) b, bs[j]? = some b → isIns b = true → vs[j]? = some (V.ref a0) → False := fun j b e1 e2 e3 => by
          obtain ⟨a', o', h1, h2, h3, h4⟩ := S.ins j b _ e1 e3 e2
          cases h1
          exact n3 a0 (by simp) a0 ((S.mem a0).mpr (.inr h3)) rfl
        cases j with
        | zero =>
          cases k with
          | zero => rfl
          | succ k =>
            simp at e5
            subst e5
            exact (no k c' (by simpa using e2) e4 (by simpa using e6)).elim
        | succ j =>
          cases k with
          | zero =>
            simp at e6
            subst e6
            exact (no j c (by simpa using e1) e3 (by simpa using e5)).elim
          | succ k => rw [S.uni n2 j k c c' a (by simpa using e1) (by simpa using e2) e3 e4 (by simpa using e5) (by simpa using e6)]
theorem handL_get : ∀ {bs : List B} {sbs : List SB}, handL ρ bs = some sbs → sbs.length = bs.length ∧ ∀ (j : Nat) x, sbs[j]? = some x → ∃ b, bs[j]? = some b ∧ handB ρ b = some x
  | [], sbs, e => by cases e; exact ⟨rfl, fun j x e => by simp at e⟩
  | b :: r, sbs, e => by
    unfold handL at e
    split at e
    · rename_i x xs e1 e2
      cases e
      obtain ⟨l, h⟩ := handL_get e2
      refine ⟨by simp [l], fun j y ey => ?_⟩
      cases j with
      | zero => simp at ey; subst ey; exact ⟨b, rfl, e1⟩
      | succ j => obtain ⟨c, h1, h2⟩ := h j y (by simpa using ey); exact ⟨c, by simpa using h1, h2⟩
    · cases e
theorem handB_dat {b : B} {x : SB} (h : handB ρ b = some x) (n : noPl b = true) (i : isIns b = false) : ∃ d, x = .sh d ∧ b.dat ρ = some d := by
  cases b with
  | sh d => cases h; exact ⟨_, rfl, rfl⟩
  | ow o =>
    cases o with
    | ins c fs => cases i
    | lst xs => cases h; exact ⟨_, rfl, rfl⟩
    | dic t kvs => cases h; exact ⟨_, rfl, rfl⟩
  | pl i => cases n
  | tp bs =>
    obtain ⟨ds, e, rfl⟩ := Option.map_eq_some_iff.mp (show (sbsD bs).map (fun ds => SB.sh (.tup ds)) = some x from h)
    refine ⟨_, rfl, ?_⟩
    show (match sbsD bs with | some ds => some (D.tup ds) | none => none) = _
    rw [e]
theorem handB_io {b : B} {x : SB} (h : handB ρ b = some x) : (∃ d, x = .sh d) ∨ ∃ o, x = .io o := by
  cases b with
  | sh d => cases h; exact .inl ⟨_, rfl⟩
  | ow o =>
    cases o with
    | ins c fs => cases h; exact .inr ⟨_, rfl⟩
    | lst xs => cases h; exact .inl ⟨_, rfl⟩
    | dic t kvs => cases h; exact .inl ⟨_, rfl⟩
  | pl i =>
    have h : (match ρ.at i with | some (.sh d) => some (SB.sh d) | some (.ow o) => some (.io o) | some (.io o) => some (.io o) | none => none) = some x := h
    split at h <;> cases h
    · exact .inl ⟨_, rfl⟩
    · exact .inr ⟨_, rfl⟩
    · exact .inr ⟨_, rfl⟩
  | tp bs =>
    obtain ⟨ds, e, rfl⟩ := Option.map_eq_some_iff.mp (show (sbsD bs).map (fun ds => SB.sh (.tup ds)) = some x from h)
    exact .inl ⟨_, rfl⟩
theorem lent_of : ∀ {bs : List B} {j i : Nat}, bs[j]? = some (.pl i) → i ∈ lent bs
  | [], j, i, e => by simp at e
  | b :: r, 0, i, e => by simp at e; subst e; exact List.mem_cons_self
  | b :: r, j + 1, i, e => by
    have := lent_of (bs := r) (j := j) (i := i) (by simpa using e)
    cases b <;> first | exact List.mem_cons_of_mem _ this | exact this
theorem nodupN_cons {a : Nat} {r : List Nat} (h : nodupN (a :: r) = true) : a ∉ r ∧ nodupN r = true := by
  have h : (!(r.elem a) && nodupN r) = true := h
  rw [Bool.and_eq_true] at h
  refine ⟨fun m => ?_, h.2⟩
  have : r.elem a = true := List.elem_eq_true_of_mem m
  rw [this] at h
  exact absurd h.1 (by decide)
theorem lent_tail {b : B} {r : List B} (h : nodupN (lent (b :: r)) = true) : nodupN (lent r) = true := by
  cases b <;> first | exact (nodupN_cons h).2 | exact h
theorem lent_inj : ∀ {bs : List B}, nodupN (lent bs) = true → ∀ {j k i : Nat}, bs[j]? = some (.pl i) → bs[k]? = some (.pl i) → j = k
  | [], _, j, k, i, e, _ => by simp at e
  | b :: r, h, 0, 0, i, _, _ => rfl
  | b :: r, h, 0, k + 1, i, e, e' => by simp at e; subst e; exact absurd (lent_of (bs := r) (j := k) (by simpa using e')) (nodupN_cons h).1
  | b :: r, h, j + 1, 0, i, e, e' => by simp at e'; subst e'; exact absurd (lent_of (bs := r) (j := j) (by simpa using e)) (nodupN_cons h).1
  | b :: r, h, j + 1, k + 1, i, e, e' => by rw [lent_inj (bs := r) (lent_tail h) (j := j) (k := k) (i := i) (by simpa using e) (by simpa using e')]
theorem at_map {sbs : List SB} {i : Nat} {b : SB} : Env.at (sbs.map some) i = some b ↔ sbs[i]? = some b := by
  show (sbs.map some).getD i none = some b ↔ _
  rw [List.getD_eq_getElem?_getD, List.getElem?_map]
  cases sbs[i]? <;> simp
theorem get_map {vs : List V} {i : Nat} {v : V} : ((vs.map some : St)[i]? = some (some v)) ↔ vs[i]? = some v := by
  rw [List.getElem?_map]
  cases vs[i]? <;> simp
/-! ### what comes back -/
theorem backB_ne {b : B} {o : Option SB} {i : Nat} (h : b ≠ .pl i) : (backB ρ b o).at i = ρ.at i := by
  cases b with
  | pl k =>
    show (Env.at (match ρ.at k, o with | some c, some (.io o) => ρ.set k (some (c.put o)) | _, _ => ρ) i) = _
    split
    · exact at_set_ne fun z => h (by rw [z])
    · rfl
  | _ => rfl
theorem backL_ne : ∀ {bs : List B} {os ρ : Env} {i : Nat}, i ∉ lent bs → (backL ρ bs os).at i = ρ.at i
  | [], _, _, _, _ => by unfold backL; rfl
  | _ :: _, [], _, _, _ => rfl
  | b :: r, o :: os, ρ, i, h => by
    have h1 : b ≠ .pl i := fun e => by subst e; exact h List.mem_cons_self
    have h2 : i ∉ lent r := fun m => h (by cases b <;> first | exact List.mem_cons_of_mem _ m | exact m)
    show (backL (backB ρ b o) r os).at i = _
    rw [backL_ne h2, backB_ne h1]
theorem backB_io {o : O} {i : Nat} {c : SB} (h : ρ.at i = some c) : (backB ρ (.pl i) (some (.io o))).at i = some (c.put o) := by
  show (Env.at (match ρ.at i, some (SB.io o) with | some c, some (.io o) => ρ.set i (some (c.put o)) | _, _ => ρ) i) = _
  rw [h]
  exact at_set_same (get_of_at h).1
theorem backB_no {o : Option SB} {i : Nat} (h : ∀ u, o ≠ some (.io u)) : backB ρ (.pl i) o = ρ := by
  show (match ρ.at i, o with | some c, some (.io o) => ρ.set i (some (c.put o)) | _, _ => ρ) = _
  split
  · exact absurd rfl (h _)
  · rfl
theorem backL_io : ∀ {bs : List B} {os ρ : Env}, nodupN (lent bs) = true → ∀ {j i : Nat} {o : O} {c : SB}, bs[j]? = some (.pl i) → os[j]? = some (some (.io o)) → ρ.at i = some c → (backL ρ bs os).at i = some (c.put o)
  | [], _, _, _, j, i, o, c, e, _, _ => by simp at e
  | _ :: _, [], _, _, j, i, o, c, _, e, _ => by simp at e
  | b :: r, u :: os, ρ, nd, 0, i, o, c, e1, e2, e3 => by
    simp at e1 e2
    subst e1; subst e2
    show (backL (backB ρ (.pl i) (some (.io o))) r os).at i = _
    rw [backL_ne (nodupN_cons nd).1, backB_io e3]
  | b :: r, u :: os, ρ, nd, j + 1, i, o, c, e1, e2, e3 => by
    have e1 : r[j]? = some (.pl i) := by simpa using e1
    have hb : b ≠ .pl i := fun e => by subst e; exact (nodupN_cons nd).1 (lent_of e1)
    show (backL (backB ρ b u) r os).at i = _
    exact backL_io (lent_tail nd) e1 (by simpa using e2) (by rw [backB_ne hb]; exact e3)
theorem backL_no : ∀ {bs : List B} {os ρ : Env}, nodupN (lent bs) = true → ∀ {j i : Nat}, bs[j]? = some (.pl i) → (∀ u, os[j]? ≠ some (some (.io u))) → (backL ρ bs os).at i = ρ.at i
  | [], _, _, _, j, i, e, _ => by simp at e
  | _ :: _, [], _, _, j, i, _, e => rfl
  | b :: r, u :: os, ρ, nd, 0, i, e1, e2 => by
    simp at e1
    subst e1
    show (backL (backB ρ (.pl i) u) r os).at i = _
    rw [backL_ne (nodupN_cons nd).1, backB_no fun o z => e2 o (by simp [z])]
  | b :: r, u :: os, ρ, nd, j + 1, i, e1, e2 => by
    have e1 : r[j]? = some (.pl i) := by simpa using e1
    have hb : b ≠ .pl i := fun e => by subst e; exact (nodupN_cons nd).1 (lent_of e1)
    show (backL (backB ρ b u) r os).at i = _
    rw [backL_no (lent_tail nd) e1 (fun o => by simpa using e2 o), backB_ne hb]
theorem backB_len {b : B} {o : Option SB} : (backB ρ b o).length = ρ.length := by
  cases b with
  | pl k =>
    show List.length (match ρ.at k, o with | some c, some (.io o) => ρ.set k (some (c.put o)) | _, _ => ρ) = _
    split
    · rw [List.length_set]
    · rfl
  | _ => rfl
theorem backL_len : ∀ {bs : List B} {os ρ : Env}, (backL ρ bs os).length = ρ.length
  | [], _, _ => by unfold backL; rfl
  | _ :: _, [], _ => rfl
  | b :: r, o :: os, ρ => by
    show (backL (backB ρ b o) r os).length = _
    rw [backL_len, backB_len]
theorem mem_lent : ∀ {bs : List B} {i : Nat}, i ∈ lent bs → ∃ j : Nat, bs[j]? = some (.pl i)
  | [], i, h => nomatch h
  | b :: r, i, h => by
    have go : i ∈ lent r → ∃ j : Nat, (b :: r)[j]? = some (.pl i) := fun m => let ⟨j, e⟩ := mem_lent m; ⟨j + 1, by simpa using e⟩
    cases b with
    | pl k =>
      rcases List.mem_cons.mp h with z | z
      · subst z; exact ⟨0, rfl⟩
      · exact go z
    | _ => exact go h
end

/-! ### over to the callee, and back -/
structure Back (C : Cs) (σ : St) (F H : Hp) (ρ : Env) (A : List Addr) (vs : List V) (sbs : List SB) (bs : List B) (F' H' : Hp) (os : Env) : Prop where
  tr : Tr A σ F H ρ σ F' H' (backL ρ bs os)
  st : Stt C F' H' σ (backL ρ bs os)
  new : ∀ A2, Fp (vs.map some) F' H' os A2 → New [] (vs.map some) H (sbs.map some) A2 → Fp σ F' H' (backL ρ bs os) A2 ∧ New A σ H ρ A2
section
variable {C : Cs} {σ : St} {F H : Hp} {ρ : Env} {A : List Addr} {vs : List V} {bs : List B} {sbs : List SB}
theorem hand_over (S : Stt C F H σ ρ) (r : RBs C σ F H vs bs A) (f : Fp σ F H ρ A) (nd : nodupN (lent bs) = true) (hl : handL ρ bs = some sbs) :
    ∃ F1, Stt C F1 H (vs.map some) (sbs.map some) ∧ ∀ F' H' os, Tr [] (vs.map some) F1 H (sbs.map some) (vs.map some) F' H' os → Stt C F' H' (vs.map some) os → Back C σ F H ρ A vs sbs bs F' H' os := by
  obtain ⟨A1, A2, P⟩ := split_of r
  obtain ⟨lenB, get⟩ := handL_get hl
  have lenV := r.length
  have fp1 : Fp σ F H ρ A1 := ⟨(P.dj f.nd).1, fun a m => f.nf a ((P.mem a).mpr (.inl m)), fun a m => f.no a ((P.mem a).mpr (.inl m)), fun a m => f.th a ((P.mem a).mpr (.inl m))⟩
  obtain ⟨S1, T1⟩ := share S fp1
  -- an argument with an object: of a slot, or a new instance
  have objs : ∀ (j : Nat) x a, sbs[j]? = some x → x.obj.isSome = true → vs[j]? = some (V.ref a) → (∃ i c, bs[j]? = some (.pl i) ∧ ρ.at i = some c ∧ c.obj.isSome = true ∧ σ[i]? = some (some (.ref a))) ∨ ∃ b, bs[j]? = some b ∧ isIns b = true ∧ a ∈ A2 := fun j x a ex ox ev => by
    obtain ⟨b, eb, hb⟩ := get j x ex
    cases hi : isIns b with
    | true =>
      obtain ⟨a', o, e1, e2, e3, e4⟩ := P.ins j b _ eb ev hi
      cases e1
      exact .inr ⟨b, eb, hi, e3⟩
    | false =>
      cases b with
      | pl i =>
        obtain ⟨Aj, m, rb⟩ := P.oth j _ _ eb ev hi
        cases rb with
        | pl q =>
          have hb : (match ρ.at i with | some (.sh d) => some (SB.sh d) | some (.ow o) => some (.io o) | some (.io o) => some (.io o) | none => none) = some x := hb
          split at hb <;> cases hb
          · cases ox
          · rename_i o ho; exact .inl ⟨i, _, eb, ho, rfl, q⟩
          · rename_i o ho; exact .inl ⟨i, _, eb, ho, rfl, q⟩
      | sh d => obtain ⟨d, rfl, _⟩ := handB_dat hb rfl hi; cases ox
      | ow o => obtain ⟨d, rfl, _⟩ := handB_dat hb rfl hi; cases ox
      | tp bs => obtain ⟨d, rfl, _⟩ := handB_dat hb rfl hi; cases ox
  have own0 : ∀ a, Owns (vs.map some) (sbs.map some) a → Owns σ ρ a ∨ a ∈ A2 := fun a ⟨j, x, h1, h2, h3⟩ => by
    rcases objs j x a (at_map.mp h1) h2 (get_map.mp h3) with ⟨i, c, _, e1, e2, e3⟩ | ⟨b, _, _, m⟩
    · exact .inl ⟨i, c, e1, e2, e3⟩
    · exact .inr m
  have inA : ∀ a, a ∈ A2 → a ∈ A := fun a m => (P.mem a).mpr (.inr m)
  refine ⟨addF F H A1, ⟨S1.sub, by simp [lenB, lenV], fun j x e => ?_, fun j k x y a h1 h2 h3 h4 h5 h6 => ?_⟩, fun F' H' os T S' => ?_⟩
  · have e := at_map.mp e
    obtain ⟨b, eb, hb⟩ := get j x e
    have jl : j < vs.length := by
      have := (List.getElem?_eq_some_iff.mp eb).1
      omega
    obtain ⟨v, ev⟩ : ∃ v, vs[j]? = some v := ⟨_, List.getElem?_eq_getElem jl⟩
    refine ⟨v, get_map.mpr ev, ?_⟩
    cases hi : isIns b with
    | true =>
      obtain ⟨a, o, rfl, rfl, m, ro⟩ := P.ins j b v eb ev hi
      have ex : x = .io o := by
        cases o with
        | ins c fs => cases hb; rfl
        | lst xs => cases hi
        | dic t kvs => cases hi
      subst ex
      exact .io (ro.mono T1.sub fun _ z => z) (by rw [addF_out ((P.dj f.nd).2 a m)]; exact f.nf a (inA a m))
    | false =>
      obtain ⟨Aj, m, rb⟩ := P.oth j b v eb ev hi
      have plain : noPl b = true → RSB C (addF F H A1) H v x := fun np => by
        obtain ⟨d, rfl, ed⟩ := handB_dat hb np hi
        exact .sh (rb.in_ (sub_addF fp1) (fun a q o z => by rw [addF_in (m a q)]; exact z) np ed)
      cases b with
      | pl i =>
        cases rb with
        | pl q =>
          have hb : (match ρ.at i with | some (.sh d) => some (SB.sh d) | some (.ow o) => some (.io o) | some (.io o) => some (.io o) | none => none) = some x := hb
          split at hb
          · rename_i d hd
            cases hb
            obtain ⟨v', e1, r1⟩ := S1.sl i _ hd
            rw [q] at e1; cases e1
            cases r1 with | sh r1 => exact .sh r1
          · rename_i o hd
            cases hb
            obtain ⟨v', e1, r1⟩ := S1.sl i _ hd
            rw [q] at e1; cases e1
            cases r1 with | ow r1 g => exact .io r1 g
          · rename_i o hd
            cases hb
            obtain ⟨v', e1, r1⟩ := S1.sl i _ hd
            rw [q] at e1; cases e1
            cases r1 with | io r1 g => exact .io r1 g
          · cases hb
      | sh d => exact plain rfl
      | ow o => exact plain rfl
      | tp bs => exact plain rfl
  · rcases objs j x a (at_map.mp h1) h2 (get_map.mp h5) with ⟨i, c, q1, q2, q3, q4⟩ | ⟨b, q1, q2, q3⟩
    · rcases objs k y a (at_map.mp h3) h4 (get_map.mp h6) with ⟨i', c', p1, p2, p3, p4⟩ | ⟨b', p1, p2, p3⟩
      · have := S.dis i i' c c' a q2 q3 p2 p3 q4 p4
        subst this
        exact lent_inj nd q1 p1
      · exact absurd ⟨i, c, q2, q3, q4⟩ (f.no a (inA a p3))
    · rcases objs k y a (at_map.mp h3) h4 (get_map.mp h6) with ⟨i', c', p1, p2, p3, p4⟩ | ⟨b', p1, p2, p3⟩
      · exact absurd ⟨i', c', p2, p3, p4⟩ (f.no a (inA a q3))
      · exact P.uni f.nd j k b b' a q1 p1 q2 p2 (get_map.mp h5) (get_map.mp h6)
  · -- each slot behind the call
    have slot : ∀ i c', (backL ρ bs os).at i = some c' → ρ.at i = some c' ∧ (i ∈ lent bs → ∃ d, c' = .sh d) ∨ ∃ j c o, bs[j]? = some (.pl i) ∧ ρ.at i = some c ∧ c.obj.isSome = true ∧ os.at j = some (.io o) ∧ c' = c.put o := fun i c' e => by
      by_cases hm : i ∈ lent bs
      · obtain ⟨j, ej⟩ := mem_lent hm
        by_cases hu : ∃ u, os[j]? = some (some (.io u))
        · obtain ⟨u, eu⟩ := hu
          have hat : os.at j = some (.io u) := at_of_get eu
          obtain ⟨u0, h0⟩ := T.oi j u hat
          have h0 := at_map.mp h0
          obtain ⟨b, eb, hb⟩ := get j _ h0
          rw [ej] at eb; cases eb
          have hb : (match ρ.at i with | some (.sh d) => some (SB.sh d) | some (.ow o) => some (.io o) | some (.io o) => some (.io o) | none => none) = some (.io u0) := hb
          split at hb
          · cases hb
          · rename_i o ho
            rw [backL_io nd ej eu ho] at e
            cases e
            exact .inr ⟨j, _, u, ej, ho, rfl, hat, rfl⟩
          · rename_i o ho
            rw [backL_io nd ej eu ho] at e
            cases e
            exact .inr ⟨j, _, u, ej, ho, rfl, hat, rfl⟩
          · cases hb
        · have hu : ∀ u, os[j]? ≠ some (some (.io u)) := fun u z => hu ⟨u, z⟩
          rw [backL_no nd ej hu] at e
          refine .inl ⟨e, fun _ => ?_⟩
          -- the slot held data: else it had come back
          have jl : j < sbs.length := by
            have := (List.getElem?_eq_some_iff.mp ej).1
            omega
          obtain ⟨x, ex⟩ : ∃ x, sbs[j]? = some x := ⟨_, List.getElem?_eq_getElem jl⟩
          obtain ⟨b, eb, hb⟩ := get j x ex
          rw [ej] at eb; cases eb
          have io : ∀ o, x = .io o → False := fun o z => by
            subst z
            obtain ⟨⟨o', h'⟩, _⟩ := T.io j o (at_map.mpr ex)
            exact hu o' (get_of_at h').2
          have hb : (match ρ.at i with | some (.sh d) => some (SB.sh d) | some (.ow o) => some (.io o) | some (.io o) => some (.io o) | none => none) = some x := hb
          rw [e] at hb
          cases c' with
          | sh d => exact ⟨d, rfl⟩
          | ow o => cases hb; exact (io _ rfl).elim
          | io o => cases hb; exact (io _ rfl).elim
      · rw [backL_ne hm] at e
        exact .inl ⟨e, fun z => absurd z hm⟩
    have put_io : ∀ (c : SB) o u, c.put o = .io u → ∃ u', c = .io u' := fun c o u e => by cases c <;> cases e; exact ⟨_, rfl⟩
    have obj_put : ∀ (c : SB) o, (c.put o).obj.isSome = true → c.obj.isSome = true := fun c o h => by cases c <;> first | exact h | rfl
    have ownB : ∀ a, Owns σ (backL ρ bs os) a → Owns σ ρ a := fun a ⟨i, c, h1, h2, h3⟩ => by
      rcases slot i c h1 with ⟨e, _⟩ | ⟨j, c0, o, e1, e2, e3, e4, rfl⟩
      · exact ⟨i, c, e, h2, h3⟩
      · exact ⟨i, c0, e2, e3, h3⟩
    have nown0 : ∀ a, ¬ Owns σ ρ a → a ∉ A → ¬ Owns (vs.map some) (sbs.map some) a := fun a n m q => (own0 a q).elim n fun z => m (inA a z)
    -- where a lent slot's value stands
    have atj : ∀ (i j : Nat) (v : V), bs[j]? = some (B.pl i) → σ[i]? = some (some v) → vs[j]? = some v := fun i j v ej es => by
      have jl : j < vs.length := by
        have := (List.getElem?_eq_some_iff.mp ej).1
        omega
      obtain ⟨u, eu⟩ : ∃ u, vs[j]? = some u := ⟨_, List.getElem?_eq_getElem jl⟩
      obtain ⟨Aj, m, rb⟩ := P.oth j _ u ej eu rfl
      cases rb with
      | pl q =>
        rw [es] at q
        cases q
        exact eu
    refine ⟨⟨T1.sub.trans T.sub, fun a o e n m => T.keep a o e (nown0 a n m) (fun z => nomatch z), fun a e n m z => T.nofz a e (nown0 a n m) (fun z => nomatch z) ?_, T.there, fun a q => .inl (ownB a q), fun i o e => ⟨?_, rfl⟩, fun i o e => ?_⟩,
      ⟨S'.sub, by rw [backL_len]; exact S.len, fun i c e => ?_, fun i k b c a h1 h2 h3 h4 h5 h6 => ?_⟩, fun A3 fp nw => ⟨⟨fp.nd, fp.nf, fun a m q => ?_, fp.th⟩, fun a m => ?_⟩⟩
    · rw [addF_out fun q => m ((P.mem a).mpr (.inl q))]; exact z
    · -- lent stays lent
      by_cases hm : i ∈ lent bs
      · obtain ⟨j, ej⟩ := mem_lent hm
        by_cases hu : ∃ u, os[j]? = some (some (.io u))
        · obtain ⟨u, eu⟩ := hu
          exact ⟨u, by rw [backL_io nd ej eu e]; rfl⟩
        · exact ⟨o, by rw [backL_no nd ej fun u z => hu ⟨u, z⟩]; exact e⟩
      · exact ⟨o, by rw [backL_ne hm]; exact e⟩
    · rcases slot i _ e with ⟨e', _⟩ | ⟨j, c0, u, e1, e2, e3, e4, e5⟩
      · exact ⟨o, e'⟩
      · obtain ⟨u', rfl⟩ := put_io _ _ _ e5.symm
        exact ⟨u', e2⟩
    · rcases slot i c e with ⟨e', hs⟩ | ⟨j, c0, u, e1, e2, e3, e4, rfl⟩
      · obtain ⟨v, ev, rv⟩ := S1.sl i c e'
        refine ⟨v, ev, ?_⟩
        -- an object that was not lent
        have nol : ∀ a, v = .ref a → c.obj.isSome = true → ¬ Owns (vs.map some) (sbs.map some) a := fun a e1 oc ⟨j, x, h1, h2, h3⟩ => by
          subst e1
          rcases objs j x a (at_map.mp h1) h2 (get_map.mp h3) with ⟨i', c', q1, q2, q3, q4⟩ | ⟨b, q1, q2, q3⟩
          · have := S.dis i i' c c' a e' oc q2 q3 ev q4
            subst this
            obtain ⟨d, rfl⟩ := hs (lent_of q1)
            cases oc
          · exact f.no a (inA a q3) ⟨i, c, e', oc, ev⟩
        cases rv with
        | sh r => exact .sh (r.mono T.sub)
        | ow r g =>
          have n := nol _ rfl rfl
          obtain ⟨w, hw⟩ := r.some
          exact .ow (r.mono T.sub fun o z => T.keep _ o z n (fun z => nomatch z)) (T.nofz _ (by rw [hw]; simp) n (fun z => nomatch z) g)
        | io r g =>
          have n := nol _ rfl rfl
          obtain ⟨w, hw⟩ := r.some
          exact .io (r.mono T.sub fun o z => T.keep _ o z n (fun z => nomatch z)) (T.nofz _ (by rw [hw]; simp) n (fun z => nomatch z) g)
      · obtain ⟨v, ev, rv⟩ := S'.sl j _ e4
        cases rv with
        | io r g =>
          rename_i a
          obtain ⟨v0, ev0, rv0⟩ := S.sl i c0 e2
          have := atj i j v0 e1 ev0
          have ev := get_map.mp ev
          rw [this] at ev
          cases ev
          refine ⟨_, ev0, ?_⟩
          cases c0 with
          | sh d => cases e3
          | ow o0 => exact .ow r g
          | io o0 => exact .io r g
    · have up : ∀ i b, (backL ρ bs os).at i = some b → b.obj.isSome = true → ∃ b0, ρ.at i = some b0 ∧ b0.obj.isSome = true := fun i b e ob => by
        rcases slot i b e with ⟨e', _⟩ | ⟨j, c0, u, e1, e2, e3, e4, rfl⟩
        · exact ⟨b, e', ob⟩
        · exact ⟨c0, e2, e3⟩
      obtain ⟨b0, q1, q2⟩ := up i b h1 h2
      obtain ⟨c0, q3, q4⟩ := up k c h3 h4
      exact S.dis i k b0 c0 a q1 q2 q3 q4 h5 h6
    · rcases nw a m with z | z | z
      · obtain ⟨j, x, h1, h2, h3⟩ := z
        have ex := at_map.mp h1
        obtain ⟨b, eb, hb⟩ := get j x ex
        rcases handB_io hb with ⟨d, rfl⟩ | ⟨o, rfl⟩
        · cases h2
        · obtain ⟨⟨o', h'⟩, _⟩ := T.io j o h1
          exact fp.no a m ⟨j, _, h', rfl, h3⟩
      · exact nomatch z
      · exact S.own_some (ownB a q) z
    · rcases nw a m with z | z | z
      · exact (own0 a z).imp id fun q => .inl (inA a q)
      · exact nomatch z
      · exact .inr (.inr z)
end

/-! ### a def's promise -/
def FSp (C : Cs) (f : Fn) : Sp := fun vs H Q E => ∃ F sbs r os, f sbs = some (r, os) ∧ Stt C F H (vs.map some) (sbs.map some) ∧
  match r with
  | .ok b => ∀ v A F' H', Tr [] (vs.map some) F H (sbs.map some) (vs.map some) F' H' os → Stt C F' H' (vs.map some) os → noPl b = true → RB C (vs.map some) F' H' v b A → Fp (vs.map some) F' H' os A → New [] (vs.map some) H (sbs.map some) A → Q v H'
  | .exc c p => ∀ cls d F' H', Tr [] (vs.map some) F H (sbs.map some) (vs.map some) F' H' os → Stt C F' H' (vs.map some) os → REx C F' c p cls d H' → E cls d H'
section
variable {cl : Nat → Addr} {X : Cx} {C : Cs} {σ : St} {F H : Hp} {ρ : Env} {A A0 : List Addr} {W : WX} {Q : VK}
theorem call_sp {f : Fn} {args : M (List B)} (h : tM C RlB W (mCall f args) σ H Q) : tM C RlL W args σ H fun vs H1 => FSp C f vs H1 Q (WE W σ) := by
  obtain ⟨F, ρ, S, h⟩ := h
  refine tM_bind (R1 := RlL) S h fun vs bs A F1 H1 ρ1 T1 S1 r1 f1 n1 h1 => ?_
  obtain ⟨r, ρ', e, h1⟩ := h1
  unfold callF at e
  split at e
  · rename_i nd
    split at e
    · cases e
    · rename_i sbs hl
      split at e
      · cases e
      · rename_i r' os hf
        cases e
        obtain ⟨F2, S2, back⟩ := hand_over S1 r1 f1 nd hl
        refine ⟨F2, sbs, r, os, hf, S2, ?_⟩
        cases r with
        | ok b =>
          intro v A2 F' H' T S' np rb fp nw
          obtain ⟨tr, st, new⟩ := back F' H' os T S'
          obtain ⟨fp', nw'⟩ := new A2 fp nw
          exact h1 v A2 F' H' (tr.hand fun a m => by simpa using m) st (rb.chg np) fp' fun a m => (nw' a m).imp id fun z => z.imp (fun z => by simpa using z) id
        | exc c p =>
          intro cls d F' H' T S' x
          obtain ⟨tr, st, new⟩ := back F' H' os T S'
          exact h1 cls d F' H' (tr.hand fun a m => by simpa using m) st x
  · cases e
/-- f(e, ..) -/
theorem sim_call {f : Fn} {fa : Addr} {fd : FuncData} {k : Nat} {ps : List Str} {x : Str} {p pos : Pos} {e : Expr} {es : List Expr} {args : M (List B)} (F : FnOk X.prog X.w X.K X.mg X.base (L2.CX X.prog X.w) k fa fd ps (FSp (cs cl X) f)) (hr : Room k X.A) (hm : X.mg x = some (.ref fa))
    (hk : PySem.W.keepIn X.K (.ref fa) = true) (hb : Binds X.K fd ps []) (ha : SimA cl X (e :: es) args) (hg : Gl X x) (hdb : (x == ("__debug__" : Str)) = false) (he : starEach (e :: es) X.env = (false, eval e X.env) :: starEach es X.env)
    (hpl : (backTo pos (starEach es X.env)).any (·.1) = false) : SimE cl X (.Call (.Name x p) (e :: es) [] pos) (mCall f args) := fun W tk =>
  PE.imp (pe_callS F hr hg hm hk hb (fun σ => passAt tk σ) (ha W tk) hdb he hpl) fun σ H Q h => call_sp h
/-! ### a def, from its body -/
theorem start_map {N : List Str} {vs : List V} {j : Nat} {v : V} (h : (vs.map some : St)[j]? = some (some v)) : (start N vs)[j]? = some (some v) := by
  unfold L2.start
  rw [List.getElem?_append_left (List.getElem?_eq_some_iff.mp h).1]
  exact h
theorem start_rev {N : List Str} {vs : List V} {j : Nat} {v : V} (h : (start N vs)[j]? = some (some v)) : (vs.map some : St)[j]? = some (some v) := by
  unfold L2.start at h
  by_cases hl : j < (vs.map some : St).length
  · rw [List.getElem?_append_left hl] at h; exact h
  · rw [List.getElem?_append_right (by omega)] at h
    have := List.mem_replicate.mp (List.mem_of_getElem? h)
    cases this.2
theorem pad_at {sbs : List SB} {n j : Nat} {b : SB} : Env.at (sbs.map some ++ List.replicate n none) j = some b ↔ Env.at (sbs.map some) j = some b := by
  show (sbs.map some ++ List.replicate n none).getD j none = some b ↔ (sbs.map some).getD j none = some b
  rw [List.getD_eq_getElem?_getD, List.getD_eq_getElem?_getD]
  by_cases hl : j < (sbs.map (some : SB → Option SB)).length
  · rw [List.getElem?_append_left hl]
  · rw [List.getElem?_append_right (by omega), List.getElem?_eq_none (by omega : (sbs.map some).length ≤ j)]
    cases e : (List.replicate n (none : Option SB))[j - (sbs.map some).length]? with
    | none => exact Iff.rfl
    | some u =>
      have := (List.mem_replicate.mp (List.mem_of_getElem? e)).2
      subst this
      exact Iff.rfl
theorem outs_at {np j : Nat} {b : SB} {ρ : Env} : (outs np ρ).at j = some b ↔ j < np ∧ ∃ o, b = .io o ∧ ρ.at j = some (.io o) := by
  unfold outs
  show List.getD _ j none = some b ↔ _
  rw [List.getD_eq_getElem?_getD, List.getElem?_map]
  by_cases hj : j < np
  · rw [List.getElem?_range hj]
    rw [Option.map_some, Option.getD_some]
    generalize ρ.at j = u
    cases u with
    | none => exact ⟨fun h => (nomatch h), fun ⟨_, o, _, h⟩ => (nomatch h)⟩
    | some c =>
      cases c with
      | sh d => exact ⟨fun h => (nomatch h), fun ⟨_, o, _, h⟩ => (nomatch h)⟩
      | ow o => exact ⟨fun h => (nomatch h), fun ⟨_, o, _, h⟩ => (nomatch h)⟩
      | io o => exact ⟨fun h => by cases h; exact ⟨hj, _, rfl, rfl⟩, fun ⟨_, o', e, h⟩ => by cases h; rw [e]⟩
  · rw [List.getElem?_eq_none (by simp; omega)]
    simp [hj]
theorem fn_spec {np n : Nat} {N : List Str} {body : S} {vs : List V} {E : XK} (hN : N.length = n) (hnp : np ≤ n) (h : FSp C (mkFn np n body) vs H Q E) : vs.length = np ∧ tS C (fun cls d _ H' => E cls d H') body { nx := fun _ H' => Q .non H', rt := Q } (start N vs) H := by
  obtain ⟨F, sbs, r, os, hf, S, h⟩ := h
  have hl : sbs.length = vs.length := by simpa using S.len
  unfold mkFn at hf
  split at hf
  rotate_left
  · cases hf
  rename_i hnp'
  have hv : vs.length = np := by rw [← hl]; exact hnp'
  refine ⟨hv, F, sbs.map some ++ List.replicate (n - np) none, ?_, ?_⟩
  · refine ⟨S.sub, ?_, fun i b e => ?_, fun i k b c a h1 h2 h3 h4 h5 h6 => ?_⟩
    · unfold L2.start
      simp [hl, hv, hN]
    · obtain ⟨v, e1, r1⟩ := S.sl i b (pad_at.mp e)
      exact ⟨v, start_map e1, r1⟩
    · exact S.dis i k b c a (pad_at.mp h1) h2 (pad_at.mp h3) h4 (start_rev h5) (start_rev h6)
  · have own_up : ∀ a, Owns (start N vs) (sbs.map some ++ List.replicate (n - np) none) a ↔ Owns (vs.map some) (sbs.map some) a := fun a =>
      ⟨fun ⟨i, b, h1, h2, h3⟩ => ⟨i, b, pad_at.mp h1, h2, start_rev h3⟩, fun ⟨i, b, h1, h2, h3⟩ => ⟨i, b, pad_at.mpr h1, h2, start_map h3⟩⟩
    -- what the caller sees
    have seen : ∀ σ' F' H' ρ', Tr [] (start N vs) F H (sbs.map some ++ List.replicate (n - np) none) σ' F' H' ρ' → Stt C F' H' σ' ρ' →
        Tr [] (vs.map some) F H (sbs.map some) (vs.map some) F' H' (outs np ρ') ∧ Stt C F' H' (vs.map some) (outs np ρ') ∧ ∀ A, Fp σ' F' H' ρ' A → New [] (start N vs) H (sbs.map some ++ List.replicate (n - np) none) A → Fp (vs.map some) F' H' (outs np ρ') A ∧ New [] (vs.map some) H (sbs.map some) A := fun σ' F' H' ρ' T S' => by
      have len' : (outs np ρ').length = (vs.map some : St).length := by
        unfold outs
        simp [hv]
      -- a parameter that is lent
      have lentIn : ∀ j o, (outs np ρ').at j = some (.io o) → ρ'.at j = some (.io o) ∧ ∃ o0, Env.at (sbs.map some) j = some (.io o0) ∧ σ'[j]? = (vs.map some : St)[j]? := fun j o e => by
        obtain ⟨hj, o', e1, e2⟩ := outs_at.mp e
        cases e1
        obtain ⟨o0, h0⟩ := T.oi j o e2
        obtain ⟨_, h1⟩ := T.io j o0 h0
        refine ⟨e2, o0, pad_at.mp h0, h1.trans ?_⟩
        unfold L2.start
        rw [List.getElem?_append_left (by simp; omega)]
      have isio : ∀ j b, (outs np ρ').at j = some b → ∃ o, b = .io o := fun j b e => let ⟨_, o, e1, _⟩ := outs_at.mp e; ⟨o, e1⟩
      have ownO : ∀ a, Owns (vs.map some) (outs np ρ') a → Owns σ' ρ' a ∧ Owns (vs.map some) (sbs.map some) a := fun a ⟨j, b, h1, h2, h3⟩ => by
        obtain ⟨o, rfl⟩ := isio j b h1
        obtain ⟨e2, o0, e3, e4⟩ := lentIn j o h1
        exact ⟨⟨j, _, e2, rfl, e4.trans h3⟩, j, _, e3, rfl, h3⟩
      have nw0 : ∀ a, ¬ Owns (vs.map some) (sbs.map some) a → ¬ Owns (L2.start N vs) (sbs.map some ++ List.replicate (n - np) none) a := fun a n q => n ((own_up a).mp q)
      refine ⟨⟨T.sub, fun a o e n1 _ => T.keep a o e (nw0 a n1) (fun z => nomatch z), fun a e n1 _ z => T.nofz a e (nw0 a n1) (fun z => nomatch z) z, T.there, fun a q => .inl (ownO a q).2, fun j o e => ⟨?_, rfl⟩, fun j o e => ?_⟩,
        ⟨S'.sub, len', fun j b e => ?_, fun i k b c a h1 h2 h3 h4 h5 h6 => ?_⟩, fun A fp nw => ⟨⟨fp.nd, fp.nf, fun a m q => fp.no a m (ownO a q).1, fp.th⟩, fun a m => (nw a m).imp (own_up a).mp id⟩⟩
      · obtain ⟨⟨o', h'⟩, _⟩ := T.io j o (pad_at.mpr e)
        refine ⟨o', outs_at.mpr ⟨?_, o', rfl, h'⟩⟩
        have := (List.getElem?_eq_some_iff.mp (at_map.mp e)).1
        omega
      · obtain ⟨_, o0, e3, _⟩ := lentIn j o e
        exact ⟨o0, e3⟩
      · obtain ⟨o, rfl⟩ := isio j b e
        obtain ⟨e2, o0, e3, e4⟩ := lentIn j o e
        obtain ⟨v, h1, h2⟩ := S'.sl j _ e2
        exact ⟨v, by rw [← e4]; exact h1, h2⟩
      · obtain ⟨o, rfl⟩ := isio i b h1
        obtain ⟨o', rfl⟩ := isio k c h3
        obtain ⟨e2, _, _, e4⟩ := lentIn i o h1
        obtain ⟨p2, _, _, p4⟩ := lentIn k o' h3
        exact S'.dis i k _ _ a e2 rfl p2 rfl (e4.trans h5) (p4.trans h6)
    unfold tSR
    split at hf
    · cases hf
    · rename_i b ρ' hb
      cases hf
      refine ⟨_, _, hb, fun v A σ' F' H' T S' np rb fp nw => ?_⟩
      obtain ⟨t1, s1, x⟩ := seen σ' F' H' ρ' T S'
      obtain ⟨f1, n1⟩ := x A fp nw
      exact h v A F' H' t1 s1 np (rb.chg np) f1 n1
    · rename_i ρ' hb
      cases hf
      refine ⟨_, _, hb, fun σ' F' H' T S' => ?_⟩
      obtain ⟨t1, s1, x⟩ := seen σ' F' H' ρ' T S'
      exact h .non [] F' H' t1 s1 rfl (.sh .non) Fp.nil New.nil
    · cases hf
    · rename_i c p ρ' hb
      cases hf
      refine ⟨_, _, hb, fun cls d σ' F' H' T S' x => ?_⟩
      obtain ⟨t1, s1, _⟩ := seen σ' F' H' ρ' T S'
      exact h cls d F' H' t1 s1 x
/-- a def that may raise, its body done -/
theorem fn_ok {P : Program} {w : World} {K : PySem.W.Frag} {mg : Str → Option Value} {base : Heap} {x qual : Str} {st : Stmt} {f : Addr} {fd : FuncData} {N ps : List Str} {k np n : Nat} {body : S} (cl : Nat → Addr) (Fu : Fun K x qual st f fd) (Sc : FnScope N ps (defScope st)) (hN : N.length = n) (hps : ps.length = np) (hnp : np ≤ n)
    (hb : ∀ (cdv : Value) (A : Around) (outer : List PySem.Env) (s : Shared) (H : Hp) (E : XK), Room k (A.deeper (envOfC qual (defScope st) s.heap.objs.size f cdv)) → SimB cl (cxOf (L2.CX P w) P w K mg base N qual (defScope st) f cdv A outer s H E) (defBody st) body) :
    FnOk P w K mg base (L2.CX P w) (k + 1) f fd ps (FSp ⟨P, w, K, cl⟩ (mkFn np n body)) := by
  refine Fu.okX Sc (fun vs H Q E h => ?_) (fun cdv A outer s H vs Q E hr h => ⟨_, hb cdv A outer s H E hr (fun cls d _ H => E cls d H) (takes_of rfl rfl rfl rfl), ?_⟩)
  · rw [hps]; exact (fn_spec (N := N) hN hnp h).1
  · exact (fn_spec (N := N) hN hnp h).2
end
end WF

set_option Elab.async false
set_option linter.all false
set_option maxRecDepth 100000
set_option maxHeartbeats 4000000
/-! WFL: what is walked; targets; for, while; comprehensions. -/
namespace WF
open PySem PySem.Spec PyProof.Rows L2

/-- J brings the data ds, one by one, while F stands -/
structure Gives (C : Cs) (F : Hp) (J : It) (ds : List D) : Prop where
  goes : ∀ i H, i < ds.length → Sub F H → J.go i H
  stops : ∀ H, Sub F H → J.stop ds.length H
  yields : ∀ i H v H', i < ds.length → Sub F H → J.yld i H v H' → ∃ d, ds[i]? = some d ∧ ((H' = H ∧ Rep C F v d) ∨ ∃ (T : Addr) (xs : List V) (es : List D), v = .ref T ∧ H T = none ∧ H' = upd H T (.tup xs) ∧ d = .tup es ∧ Reps C F xs es)
abbrev RlI : Rl It (List D) := ⟨fun C _ F _ J ds A => Gives C F J ds ∧ A = []⟩
section
variable (cl : Nat → Addr) (X : Cx)
def SimI (tg iter : Expr) (m : M (List D)) : Prop := ∀ W, Takes X W → PI X tg iter (tM (cs cl X) RlI W m)
end
theorem PI.imp {X : Cx} {tg e : Expr} {t t' : TI} (h : PI X tg e t) (i : ∀ σ H R, t' σ H R → t σ H R) : PI X tg e t' := ⟨fun pins s σ H R I q => h.run pins s σ H R I (i σ H R q)⟩
section
variable {cl : Nat → Addr} {X : Cx} {C : Cs} {σ : St} {F H F1 : Hp} {ρ ρ1 : Env} {A A0 : List Addr} {W : WX}
/-- what J brings at turn i, shared -/
theorem Gives.take {J : It} {ds : List D} (g : Gives C F1 J ds) {i : Nat} {v : V} {H' : Hp} (hi : i < ds.length) (S : Stt C F H σ ρ) (s : Sub F1 F) (y : J.yld i H v H') :
    ∃ d F', ds[i]? = some d ∧ Stt C F' H' σ ρ ∧ Tr [] σ F H ρ σ F' H' ρ ∧ Rep C F' v d := by
  obtain ⟨d, ed, q⟩ := g.yields i H v H' hi (s.trans S.sub) y
  rcases q with ⟨rfl, r⟩ | ⟨T, xs, es, rfl, hT, rfl, rfl, r⟩
  · exact ⟨d, F, ed, S, Tr.refl, r.mono s⟩
  · obtain ⟨S1, T1⟩ := new_sh (o := .tup xs) S hT
    exact ⟨_, _, ed, S1, T1, .tup (.inl (.inl upd_same)) ((r.mono s).mono T1.sub)⟩
/-! ### lists, tuples -/
theorem len_idx {α : Type} {xs : List α} {n i : Nat} (h : xs.length = n) (hi : i < n) : ∃ x, xs[i]? = some x := ⟨_, List.getElem?_eq_getElem (by omega)⟩
theorem reps_idx {F : Hp} : ∀ {xs : List V} {ds : List D}, Reps C F xs ds → ∀ {j : Nat} {v : V}, xs[j]? = some v → ∃ d, ds[j]? = some d ∧ Rep C F v d
  | _, _, .nil, _, _, e => by simp at e
  | _, _, .cons r t, 0, _, e => by simp at e; subst e; exact ⟨_, rfl, r⟩
  | _, _, .cons r t, j + 1, _, e => by
    obtain ⟨d, h1, h2⟩ := reps_idx t (j := j) (by simpa using e)
    exact ⟨d, by simpa using h1, h2⟩
theorem gives_list {a : Addr} {xs : List V} {ds : List D} (h : SqL C.K F a xs) (r : Reps C F xs ds) : Gives C F (Itl C.K a) ds := by
  have hl := r.length
  refine ⟨fun i H hi s => ?_, fun H s => ?_, fun i H v H' hi s y => ?_⟩
  · obtain ⟨x, ex⟩ := len_idx hl hi
    exact ⟨xs, x, s.sqL h, ex⟩
  · exact ⟨xs, s.sqL h, by omega⟩
  · obtain ⟨rfl, q⟩ := y
    obtain ⟨d, e1, e2⟩ := reps_idx r (q xs (s.sqL h))
    exact ⟨d, e1, .inl ⟨rfl, e2⟩⟩
theorem gives_tup {a : Addr} {xs : List V} {ds : List D} (h : SqT C.K F a xs) (r : Reps C F xs ds) : Gives C F (Itt C.K a) ds := by
  have hl := r.length
  refine ⟨fun i H hi s => ?_, fun H s => ?_, fun i H v H' hi s y => ?_⟩
  · obtain ⟨x, ex⟩ := len_idx hl hi
    exact ⟨xs, x, s.sqT h, ex⟩
  · exact ⟨xs, s.sqT h, by omega⟩
  · obtain ⟨rfl, q⟩ := y
    obtain ⟨d, e1, e2⟩ := reps_idx r (q xs (s.sqT h))
    exact ⟨d, e1, .inl ⟨rfl, e2⟩⟩
theorem iter_l {pins : List (Addr × Obj)} {s : Shared} {tg : Expr} {E : Value → Shared → Prop} {R : It → Hp → Prop} {a : Addr} {xs : List V} (I : Inv X pins σ H s) (h : SqL X.K H a xs) (q : R (Itl X.K a) H) : wpAny (model X.prog X.w) X.A (pyIter (.ref a)) (PIE X pins σ tg R) E s := by
  obtain ⟨us, ru, is, _⟩ := I.list h
  refine wpAny_pyIter_list is.isList ⟨s.heap.objs.size, [s.heap.objs.size], _, _, H, rfl, I.kept (t' := s.toks) fun _ _ z => Heap.get?_push_of_some _ z, turn_list a _, ?_, fun c m => ?_, q⟩
  · exact ⟨_, Heap.get?_push_size _ rfl, rfl, rfl⟩
  · rw [List.mem_singleton.mp m]
    exact I.fpOk (Nat.le_refl _) (I.hok.fresh (Nat.le_refl _))
theorem iter_t {pins : List (Addr × Obj)} {s : Shared} {tg : Expr} {E : Value → Shared → Prop} {R : It → Hp → Prop} {a : Addr} {xs : List V} (I : Inv X pins σ H s) (h : SqT X.K H a xs) (q : R (Itt X.K a) H) : wpAny (model X.prog X.w) X.A (pyIter (.ref a)) (PIE X pins σ tg R) E s := by
  obtain ⟨us, ru, is, _⟩ := I.tuple h
  refine wpAny_pyIter_tuple (show s.heap.IsTuple a us.toArray from is) ⟨s.heap.objs.size, [s.heap.objs.size], _, _, H, rfl, I.kept (t' := s.toks) fun _ _ z => Heap.get?_push_of_some _ z, turn_tuple a _, ?_, fun c m => ?_, q⟩
  · exact ⟨_, Heap.get?_push_size _ rfl, rfl, rfl⟩
  · rw [List.mem_singleton.mp m]
    exact I.fpOk (Nat.le_refl _) (I.hok.fresh (Nat.le_refl _))
/-- a list or a tuple, walked -/
def rIt (K : PySem.W.Frag) (x : V) (H : Hp) (R : It → Hp → Prop) : Prop := ∃ a, x = .ref a ∧ ((∃ xs, SqL K H a xs) ∧ R (Itl K a) H ∨ (∃ xs, SqT K H a xs) ∧ R (Itt K a) H)
theorem pi_lt {tg l : Expr} {tl : TE} (hl : PE X l tl) : PI X tg l (fun σ H R => tl σ H fun x H1 => rIt X.K x H1 R) := ⟨fun pins s σ H R I h =>
  thn (hl.run pins s σ H _ I h) fun v s1 ⟨x, H1, I1, r1, a, e, q⟩ => by
    subst e
    cases r1
    rcases q with ⟨⟨xs, g⟩, q⟩ | ⟨⟨xs, g⟩, q⟩
    · exact iter_l I1 g q
    · exact iter_t I1 g q⟩
theorem kept1 {α β : Type} {R : Rl β α} {Q : β → Hp → Prop} {x : V} {b : B} {k : List D → M α} (S : Stt C F H σ ρ) (r : RB C σ F H x b A) (f : Fp σ F H ρ A) (h : tR C R W (A0 ++ A) F ρ (bind (kept [b]) k) σ H Q) :
    ∃ d F1, Stt C F1 H σ ρ ∧ Rep C F1 x d ∧ Sub F F1 ∧ tR C R W A0 F1 ρ (k [d]) σ H Q := by
  have rs : RBs C σ F H [x] [b] (A ++ []) := .cons r .nil
  obtain ⟨ds, F1, e, n, S1, rd, sb, h1⟩ := tR_kept S rs (by rw [List.append_nil]; exact f) (by rw [List.append_nil]; exact h)
  cases rd with
  | cons r1 t => cases t; exact ⟨_, F1, S1, r1, sb, h1⟩
theorem sim_items {tg l : Expr} {m : M B} (ha : SimE cl X l m) : SimI cl X tg l (items m) := fun W tk => PI.imp (pi_lt (ha W tk)) fun σ H R ⟨F, ρ, S, h⟩ =>
  tM_bind (R1 := RlB) S h fun x b A F1 H1 ρ1 T1 S1 r1 f1 n1 h1 => by
    obtain ⟨d, F2, S2, rd, sb, h2⟩ := kept1 S1 r1 f1 h1
    obtain ⟨ds, e, q⟩ := tR_end h2
    unfold dItems at e
    split at e
    · cases e
      cases rd with
      | tup g r => exact ⟨_, rfl, .inr ⟨⟨_, S2.sub.sqT g⟩, q _ [] F2 H1 Tr.refl S2 ⟨gives_tup g r, rfl⟩ Fp.nil New.nil⟩⟩
    · cases e
      cases rd with
      | lst g r => exact ⟨_, rfl, .inl ⟨⟨_, S2.sub.sqL g⟩, q _ [] F2 H1 Tr.refl S2 ⟨gives_list g r, rfl⟩ Fp.nil New.nil⟩⟩
    · cases e
/-! ### range -/
theorem gives_range {F : Hp} (lo : Int) (n : Nat) : Gives C F (Itr lo n) ((List.range n).map fun (i : Nat) => D.int (lo + i)) := by
  refine ⟨fun i H hi _ => ?_, fun H _ => ?_, fun i H v H' hi _ y => ?_⟩
  · show i < n
    simpa using hi
  · show n ≤ _
    simp
  · obtain ⟨rfl, rfl⟩ := y
    have hi : i < n := by simpa using hi
    exact ⟨.int (lo + i), by simp [hi], .inl ⟨rfl, .int _⟩⟩
theorem upto_eq (n : Nat) : upto n = (List.range n).map fun (i : Nat) => D.int (0 + i) := by
  unfold upto
  simp
theorem dec_and {p q : Prop} [Decidable p] [Decidable q] (h : (decide p && decide q) = true) : p ∧ q := by
  rw [Bool.and_eq_true] at h
  exact ⟨of_decide_eq_true h.1, of_decide_eq_true h.2⟩
theorem sim_range {tg a : Expr} {p pos : Pos} {m : M B} (b : Bn X "range") (ha : SimE cl X a m) (hs : starEach [a] X.env = [(false, eval a X.env)]) (he : starEach [a] X.env = (false, eval a X.env) :: starEach [] X.env) : SimI cl X tg (.Call (.Name "range" p) [a] [] pos) (itRange m) :=
  fun W tk => PI.imp (pi_range1 b.gl b.mg (pa_cons (ha W tk) pa_nil he) hs) fun σ H R ⟨F, ρ, S, h⟩ => one_bind S h fun x d F2 H2 ρ2 S2 v q => by
    cases d with
    | int n =>
      obtain ⟨hc, q⟩ := tR_if q
      obtain ⟨h1, h2⟩ := dec_and hc
      refine ⟨n, by rw [v.int], h2, h1, tR_ret q _ [] F2 H2 Tr.refl S2 ⟨?_, rfl⟩ Fp.nil New.nil⟩
      rw [upto_eq]
      exact gives_range 0 n.toNat
    | _ => exact tR_stuck q
theorem sim_range2 {tg a c : Expr} {p pos : Pos} {m mc : M B} (b : Bn X "range") (ha : SimE cl X a m) (hc : SimE cl X c mc) (hs : starEach [a, c] X.env = [(false, eval a X.env), (false, eval c X.env)]) (hs2 : starEach [c] X.env = [(false, eval c X.env)])
    (he : starEach [a, c] X.env = (false, eval a X.env) :: starEach [c] X.env) (he2 : starEach [c] X.env = (false, eval c X.env) :: starEach [] X.env) : SimI cl X tg (.Call (.Name "range" p) [a, c] [] pos) (itRange2 m mc) :=
  fun W tk => PI.imp (pi_range2 b.gl b.mg (pa_cons (ha W tk) (pa_cons (hc W tk) pa_nil he2) he) hs hs2) fun σ H R ⟨F, ρ, S, h⟩ => two_bind S h fun x y d e F2 H2 ρ2 S2 v w q => by
    cases d with
    | int l =>
      cases e with
      | int n =>
        obtain ⟨hc, q⟩ := tR_if q
        rw [Bool.and_eq_true, Bool.and_eq_true, Bool.and_eq_true] at hc
        have h1 := of_decide_eq_true hc.1.1.1
        have h2 := of_decide_eq_true hc.1.1.2
        have h3 := of_decide_eq_true hc.1.2
        have h4 := of_decide_eq_true hc.2
        exact ⟨l, n, by rw [v.int, w.int], ⟨h4, h3, h2, h1⟩, tR_ret q _ [] F2 H2 Tr.refl S2 ⟨gives_range l _, rfl⟩ Fp.nil New.nil⟩
      | _ => exact tR_stuck q
    | _ => exact tR_stuck q
/-! ### zip -/
theorem zipD_len : ∀ (xs ys : List D), (zipD xs ys).length = min xs.length ys.length
  | [], ys => by simp [zipD]
  | _ :: _, [] => by simp [zipD]
  | x :: xs, y :: ys => by simp [zipD, zipD_len xs ys]
theorem zipD_get : ∀ {xs ys : List D} {i : Nat} {x y : D}, xs[i]? = some x → ys[i]? = some y → (zipD xs ys)[i]? = some (.tup [x, y])
  | [], _, _, _, _, e, _ => by simp at e
  | _ :: _, [], _, _, _, _, e => by simp at e
  | a :: xs, b :: ys, 0, x, y, e1, e2 => by simp at e1 e2; subst e1; subst e2; rfl
  | a :: xs, b :: ys, i + 1, x, y, e1, e2 => zipD_get (xs := xs) (ys := ys) (i := i) (by simpa using e1) (by simpa using e2)
theorem gives_zip {F : Hp} {a b : Addr} {xs ys : List V} {ds es : List D} (h1 : SqL C.K F a xs) (h2 : SqL C.K F b ys) (r1 : Reps C F xs ds) (r2 : Reps C F ys es) : Gives C F (Itz C.K a b) (zipD ds es) := by
  have l1 := r1.length
  have l2 := r2.length
  refine ⟨fun i H hi s => ?_, fun H s => ?_, fun i H v H' hi s y => ?_⟩
  · rw [zipD_len] at hi
    obtain ⟨x, ex⟩ := len_idx (i := i) l1 (by omega)
    obtain ⟨z, ez⟩ := len_idx (i := i) l2 (by omega)
    exact ⟨xs, ys, x, z, s.sqL h1, s.sqL h2, ex, ez⟩
  · rw [zipD_len]
    exact ⟨xs, ys, s.sqL h1, s.sqL h2, by omega⟩
  · obtain ⟨T, x, z, e1, e2, e3, e4, e5⟩ := y
    obtain ⟨d, p1, p2⟩ := reps_idx r1 (e4 xs (s.sqL h1))
    obtain ⟨e, p3, p4⟩ := reps_idx r2 (e5 ys (s.sqL h2))
    exact ⟨_, zipD_get p1 p3, .inr ⟨T, [x, z], [d, e], e1, e2, e3, rfl, .cons p2 (.cons p4 .nil)⟩⟩
theorem gives_zipT {F : Hp} {a b : Addr} {xs ys : List V} {ds es : List D} (h1 : SqT C.K F a xs) (h2 : SqT C.K F b ys) (r1 : Reps C F xs ds) (r2 : Reps C F ys es) : Gives C F (RZ.ItzT C.K a b) (zipD ds es) := by
  have l1 := r1.length
  have l2 := r2.length
  refine ⟨fun i H hi s => ?_, fun H s => ?_, fun i H v H' hi s y => ?_⟩
  · rw [zipD_len] at hi
    obtain ⟨x, ex⟩ := len_idx (i := i) l1 (by omega)
    obtain ⟨z, ez⟩ := len_idx (i := i) l2 (by omega)
    exact ⟨xs, ys, x, z, s.sqT h1, s.sqT h2, ex, ez⟩
  · rw [zipD_len]
    exact ⟨xs, ys, s.sqT h1, s.sqT h2, by omega⟩
  · obtain ⟨T, x, z, e1, e2, e3, e4, e5⟩ := y
    obtain ⟨d, p1, p2⟩ := reps_idx r1 (e4 xs (s.sqT h1))
    obtain ⟨e, p3, p4⟩ := reps_idx r2 (e5 ys (s.sqT h2))
    exact ⟨_, zipD_get p1 p3, .inr ⟨T, [x, z], [d, e], e1, e2, e3, rfl, .cons p2 (.cons p4 .nil)⟩⟩
theorem kept2 {α β : Type} {R : Rl β α} {Q : β → Hp → Prop} {x y : V} {b c : B} {A' : List Addr} {k : List D → M α} (S : Stt C F H σ ρ) (r : RB C σ F H x b A) (r' : RB C σ F H y c A') (f : Fp σ F H ρ (A ++ A')) (h : tR C R W (A0 ++ (A ++ A')) F ρ (bind (kept [b, c]) k) σ H Q) :
    ∃ d e F1, Stt C F1 H σ ρ ∧ Rep C F1 x d ∧ Rep C F1 y e ∧ Sub F F1 ∧ tR C R W A0 F1 ρ (k [d, e]) σ H Q := by
  have rs : RBs C σ F H [x, y] [b, c] (A ++ (A' ++ [])) := .cons r (.cons r' .nil)
  obtain ⟨ds, F1, e, n, S1, rd, sb, h1⟩ := tR_kept S rs (by rw [List.append_nil]; exact f) (by rw [List.append_nil]; exact h)
  cases rd with
  | cons r1 t =>
    cases t with
    | cons r2 t => cases t; exact ⟨_, _, F1, S1, r1, r2, sb, h1⟩
theorem sim_zip {elts : List Expr} {kk : Nat} {tpos : Pos} {a c : Expr} {p pos : Pos} {m mc : M B} (b : Bn X "zip") (ha : SimE cl X a m) (hc : SimE cl X c mc) (hs : starEach [a, c] X.env = (false, eval a X.env) :: starEach [c] X.env) (he2 : starEach [c] X.env = (false, eval c X.env) :: starEach [] X.env)
    (hpl : (backTo pos (starEach [c] X.env)).any (·.1) = false) : SimI cl X (.Tuple elts kk tpos) (.Call (.Name "zip" p) [a, c] [] pos) (itZip m mc) :=
  fun W tk => PI.imp (RZ.pi_zipA b.gl b.mg (pa_cons (ha W tk) (pa_cons (hc W tk) pa_nil he2) hs) hs hpl) fun σ H R ⟨F, ρ, S, h⟩ => by
    refine tM_bind (R1 := RlB) S h fun x b A F1 H1 ρ1 T1 S1 r1 f1 n1 h1 => ?_
    refine tM_bind (R1 := RlB) S1 h1 fun y c A' F2 H2 ρ2 T2 S2 r2 f2 n2 h2 => ?_
    rw [List.append_assoc] at h2
    obtain ⟨d, e, F3, S3, rd, re, sb, h3⟩ := kept2 S2 (r1.mono (F' := F2) (H' := H2) T2.sub fun z m => f1.keep T2 m) r2 (f1.append T2 f2 n2) h2
    obtain ⟨zs, ez, q⟩ := tR_end h3
    unfold iZip2 at ez
    split at ez
    · cases ez
      cases rd with
      | tup g1 q1 => cases re with | tup g2 q2 => exact ⟨_, _, _, _, rfl, .inr ⟨S3.sub.sqT g1, S3.sub.sqT g2, q _ [] F3 H2 Tr.refl S3 ⟨gives_zipT g1 g2 q1 q2, rfl⟩ Fp.nil New.nil⟩⟩
    · cases ez
      cases rd with
      | lst g1 q1 => cases re with | lst g2 q2 => exact ⟨_, _, _, _, rfl, .inl ⟨S3.sub.sqL g1, S3.sub.sqL g2, q _ [] F3 H2 Tr.refl S3 ⟨gives_zip g1 g2 q1 q2, rfl⟩ Fp.nil New.nil⟩⟩
    · cases ez

/-! ### targets -/
structure SimG (C : Cs) (X : Cx) (tg : Expr) (t : Tg) : Prop where
  ex : ∃ g : TG, PG X tg g ∧ ∀ {σ : St} {F H : Hp} {ρ ρ1 : Env} {v : V} {d : D} {Q : St → Hp → Prop}, Stt C F H σ ρ → Rep C F v d → putTg ρ t d = some ρ1 →
    (∀ σ2, Stt C F H σ2 ρ1 → Tr [] σ F H ρ σ2 F H ρ1 → (∀ ks : List Nat, (∀ i ∈ t.slots, i ∈ ks) → wipe σ2 ks = wipe σ ks) → Q σ2 H) → g v σ H Q
theorem set_comm_none {σ : St} {i j : Nat} {v : Option V} : (σ.set i v).set j none = if i = j then σ.set j none else (σ.set j none).set i v := by
  by_cases e : i = j
  · subst e; rw [if_pos rfl, List.set_set]
  · rw [if_neg e, List.set_comm _ _ e]
theorem wipe_set {σ : St} {i : Nat} {v : Option V} : ∀ {ks : List Nat}, i ∈ ks → wipe (σ.set i v) ks = wipe σ ks
  | [], h => nomatch h
  | k :: ks, h => by
    have out : ∀ ks : List Nat, wipe (σ.set i v) ks = if i ∈ ks then wipe σ ks else (wipe σ ks).set i v := fun ks => by
      induction ks with
      | nil => simp [wipe]
      | cons k ks ih =>
        show (wipe (σ.set i v) ks).set k none = _
        rw [ih]
        by_cases m : i ∈ ks
        · rw [if_pos m, if_pos (List.mem_cons_of_mem _ m)]; rfl
        · rw [if_neg m, set_comm_none]
          by_cases e : i = k
          · subst e
            rw [if_pos rfl, if_pos List.mem_cons_self]; rfl
          · rw [if_neg e, if_neg (fun z => (List.mem_cons.mp z).elim e m)]; rfl
    rw [out, if_pos h]
theorem put_sh {i : Nat} {v : V} {d : D} (S : Stt C F H σ ρ) (r : Rep C F v d) (e : putS ρ i (.sh d) = some ρ1) : Stt C F H (σ.set i (some v)) ρ1 ∧ Tr [] σ F H ρ (σ.set i (some v)) F H ρ1 :=
  bind_slot (A := []) S e (fun o z => (nomatch z)) (.sh r) fun a z => (nomatch z)
theorem simG_one {i : Nat} {x : Str} {pos : Pos} (hN : X.N.Nodup) (hi : X.N[i]? = some x) (hx : Loc X.env.scope x) (hf : X.fn x = true ∨ X.env.scope.names.lookup x = some .local) : SimG C X (.Name x pos) (.one i) :=
  ⟨gName i, pg_name hN hi hx hf, fun {σ F H ρ ρ1 v d Q} S r e k => by
    obtain ⟨S1, T1⟩ := put_sh S r (show putS ρ i (.sh d) = some ρ1 from e)
    exact k _ S1 T1 fun ks h => wipe_set (h i (by simp [Tg.slots]))⟩
/-- names, one after another -/
def gSlots : List Nat → TGs
  | [] => gNil
  | i :: is => gCons (gName i) (gSlots is)
theorem pgs_one {i : Nat} {is : List Nat} {x : Str} {pos : Pos} {es : List Expr} (hN : X.N.Nodup) (hi : X.N[i]? = some x) (hx : Loc X.env.scope x) (hf : X.fn x = true ∨ X.env.scope.names.lookup x = some .local) (h : PGs X es (gSlots is))
    (hs : (assignEach (.Name x pos :: es) X.env).map (·.2) = assign (.Name x pos) X.env :: (assignEach es X.env).map (·.2)) : PGs X (.Name x pos :: es) (gSlots (i :: is)) := pgs_cons (pg_name hN hi hx hf) h hs
theorem slots_go {Q : St → Hp → Prop} : ∀ {is : List Nat} {vs : List V} {ds : List D} {σ : St} {ρ : Env}, Stt C F H σ ρ → Reps C F vs ds → putSs ρ is ds = some ρ1 →
    (∀ σ2, Stt C F H σ2 ρ1 → Tr [] σ F H ρ σ2 F H ρ1 → (∀ ks : List Nat, (∀ i ∈ is, i ∈ ks) → wipe σ2 ks = wipe σ ks) → Q σ2 H) → gSlots is vs σ H Q
  | [], _, _, σ, ρ, S, .nil, e, k => by
    cases e
    exact ⟨rfl, k _ S Tr.refl fun _ _ => rfl⟩
  | [], _, _, _, _, _, .cons _ _, e, _ => by cases e
  | _ :: _, _, _, _, _, _, .nil, e, _ => by cases e
  | i :: is, v :: vs, d :: ds, σ, ρ, S, .cons r t, e, k => by
    have e : (match putS ρ i (.sh d) with | some ρ2 => putSs ρ2 is ds | none => none) = some ρ1 := e
    split at e
    · rename_i ρ2 e2
      obtain ⟨S1, T1⟩ := put_sh S r e2
      refine ⟨v, vs, rfl, slots_go S1 t e fun σ2 S2 T2 w => k σ2 S2 (T1.trans (A1 := []) (fun _ z => nomatch z) T2) fun ks h => ?_⟩
      rw [w ks fun j m => h j (List.mem_cons_of_mem _ m), wipe_set (h i List.mem_cons_self)]
    · cases e
theorem simG_tup {is : List Nat} {es : List Expr} {kk : Nat} {pos : Pos} {n : Nat} (hc : X.calm = true) (h : PGs X es (gSlots is)) (hl : is.length = n) (hn : (assignEach es X.env).length = n) (hst : (assignEach es X.env).findIdx? (·.1) = none) (hK : C.K = X.K) : SimG C X (.Tuple es kk pos) (.tup is) :=
  ⟨_, pg_tup hc h hn hst, fun {σ F H ρ ρ1 v d Q} S r e k => by
    cases d with
    | tup ds =>
      have e : (if is.length = ds.length then putSs ρ is ds else none) = some ρ1 := e
      split at e
      · rename_i hl'
        cases r with
        | tup g rs => exact ⟨_, _, rfl, by rw [← hK]; exact S.sub.sqT g, by rw [rs.length, ← hl', hl], slots_go S rs e fun σ2 S2 T2 w => k σ2 S2 T2 fun ks hh => w ks hh⟩
      · cases e
    | _ => cases e⟩

/-! ### for, while -/
/-- the body of a loop, and what follows it -/
theorem loop_turn {body k : S} {D : Ends} (S : Stt C F H σ ρ) (h : tSR C W A0 F ρ (bind body (fun f => match f with | .nx => k | .ct => k | .bk => ret .nx | .rt b => ret (.rt b))) D σ H) {N : St → Hp → Prop}
    (hN : ∀ σ' F' H' ρ', Stt C F' H' σ' ρ' → Sub F F' → tSR C W [] F' ρ' k D σ' H' → N σ' H') : tS C W body { D with nx := N, ct := N, bk := D.nx } σ H := by
  obtain ⟨r, ρ', e, h⟩ := h
  refine ⟨F, ρ, S, ?_⟩
  have on : ∀ ρ1, k ρ1 = some (r, ρ') → ∀ σ1 F1 H1, Tr [] σ F H ρ σ1 F1 H1 ρ1 → Stt C F1 H1 σ1 ρ1 → N σ1 H1 := fun ρ1 e σ1 F1 H1 T1 S1 => by
    have T0 : Tr A0 σ F H ρ σ1 F1 H1 ρ1 := T1.hand fun _ z => nomatch z
    have nn : New A0 σ H ρ [] := fun _ z => nomatch z
    refine hN σ1 F1 H1 ρ1 S1 T1.sub ⟨r, ρ', e, ?_⟩
    cases r with
    | ok f =>
      cases f with
      | nx => exact fun σ' F' H' T' S' => h σ' F' H' (T0.trans nn (T'.hand fun _ z => nomatch z)) S'
      | bk => exact fun σ' F' H' T' S' => h σ' F' H' (T0.trans nn (T'.hand fun _ z => nomatch z)) S'
      | ct => exact fun σ' F' H' T' S' => h σ' F' H' (T0.trans nn (T'.hand fun _ z => nomatch z)) S'
      | rt b => exact fun v A σ' F' H' T' S' np rl fp nw => h v A σ' F' H' (T0.trans nn (T'.hand fun _ z => nomatch z)) S' np rl fp (New.trans T0 nn fun x z => (nw x z).imp id fun q => q.elim (fun z => nomatch z) .inr)
    | exc c p => exact fun cls d σ' F' H' T' S' x => h cls d σ' F' H' (T0.trans nn (T'.hand fun _ z => nomatch z)) S' x
  unfold bind at e
  split at e
  · cases e
  · rename_i c p ρ1 em
    cases e
    exact ⟨_, _, em, fun cls d σ' F' H' T' S' x => h cls d σ' F' H' (T'.hand fun _ z => nomatch z) S' x⟩
  · rename_i f ρ1 em
    refine ⟨_, _, em, ?_⟩
    cases f with
    | nx => exact fun σ1 F1 H1 T1 S1 => on ρ1 e σ1 F1 H1 T1 S1
    | ct => exact fun σ1 F1 H1 T1 S1 => on ρ1 e σ1 F1 H1 T1 S1
    | bk =>
      cases e
      exact fun σ1 F1 H1 T1 S1 => h σ1 F1 H1 (T1.hand fun _ z => nomatch z) S1
    | rt b =>
      cases e
      exact fun v A σ1 F1 H1 T1 S1 np rl fp nw => h v A σ1 F1 H1 (T1.hand fun _ z => nomatch z) S1 np rl fp fun x z => (nw x z).imp id fun q => q.elim (fun z => nomatch z) .inr
theorem sim_for {tg iter : Expr} {body : List Stmt} {pos : Pos} {t : Tg} {it : M (List D)} {mb : S} (hp : PassesOwn (model X.prog X.w) X.A X.env X.xe) (hc : X.calm = true) (hi : SimI cl X tg iter it) (hg : SimG (cs cl X) X tg t) (hb : SimB cl X body mb)
    (hs : ∀ x, foldedSetIterable iter X.env x = pure x) : SimS cl X (.For tg iter body [] pos) (sFor t it mb) := fun W tk => by
  obtain ⟨g, pg, hgo⟩ := hg.ex
  refine PS.imp (ps_for hp hc (hi W tk) pg (hb W tk) hs) fun D σ H ⟨F, ρ, S, h⟩ => ?_
  refine tSR_bind (R := RlI) S h fun J ds A F1 H1 ρ1 T1 S1 r1 f1 n1 q => ?_
  obtain ⟨gv, rfl⟩ := r1
  refine ⟨fun i m σ H => m = ds.length - i ∧ i ≤ ds.length ∧ ∃ F ρ, Stt (cs cl X) F H σ ρ ∧ Sub F1 F ∧ tSR (cs cl X) W [] F ρ (forGo t mb (ds.drop i)) D σ H, ⟨ds.length, by simp, Nat.zero_le _, F1, ρ1, S1, Sub.refl _, tSR_up q⟩, ?_⟩
  rintro i m σ H ⟨rfl, hi, F, ρ, S, sb, q⟩
  by_cases hlt : i < ds.length
  · refine .inr ⟨gv.goes i H hlt (sb.trans S.sub), fun σ' H' => ∃ F ρ, Stt (cs cl X) F H' σ' ρ ∧ Sub F1 F ∧ tSR (cs cl X) W [] F ρ (forGo t mb (ds.drop (i + 1))) D σ' H', fun σ' H' w => ⟨ds.length - (i + 1), by omega, rfl, hlt, w⟩, fun x H' y => ?_⟩
    obtain ⟨d, F2, ed, S2, T2, rd⟩ := gv.take hlt S sb y
    have q := tSR_from T2 (A1 := []) (fun _ z => nomatch z) rfl q
    rw [List.drop_eq_getElem_cons hlt] at q
    have ed' : ds[i] = d := Option.some.inj ((List.getElem?_eq_getElem hlt).symm.trans ed)
    rw [ed'] at q
    obtain ⟨r, ρ', e, h⟩ := q
    unfold forGo at e
    split at e
    · cases e
    · rename_i ρ3 ep
      refine hgo S2 rd ep fun σ2 S3 T3 _ => ?_
      have q : tSR (cs cl X) W [] F2 ρ (fun _ => bind mb (fun f => match f with | .nx => forGo t mb (ds.drop (i + 1)) | .ct => forGo t mb (ds.drop (i + 1)) | .bk => ret .nx | .rt b => ret (.rt b)) ρ3) D σ H' := ⟨r, ρ', e, h⟩
      have q : tSR (cs cl X) W [] F2 ρ3 (bind mb (fun f => match f with | .nx => forGo t mb (ds.drop (i + 1)) | .ct => forGo t mb (ds.drop (i + 1)) | .bk => ret .nx | .rt b => ret (.rt b))) D σ2 H' := by
        obtain ⟨r2, ρ'2, e2, h2⟩ := tSR_from (A1 := []) T3 (fun _ z => nomatch z) rfl q
        exact ⟨r2, ρ'2, e2, h2⟩
      exact loop_turn (A0 := []) S3 q fun σ' F' H'' ρ'' S4 s4 q4 => ⟨F', ρ'', S4, (sb.trans T2.sub).trans s4, q4⟩
  · have e : i = ds.length := by omega
    subst e
    rw [List.drop_length] at q
    exact .inl ⟨gv.stops H (sb.trans S.sub), tSR_nx q σ F H Tr.refl S⟩
theorem sim_while {c : Expr} {body : List Stmt} {pos : Pos} {t : M Bool} {mb : S} (hp : PassesOwn (model X.prog X.w) X.A X.env X.xe) (hc : SimT cl X c t) (hb : SimB cl X body mb) : SimS cl X (.While c body [] pos) (sWhile t mb) := fun W tk =>
  PS.imp (ps_while hp (hc W tk) (hb W tk)) fun D σ H ⟨F, ρ, S, h⟩ => by
    refine ⟨fun m σ H => ∃ F ρ, Stt (cs cl X) F H σ ρ ∧ tSR (cs cl X) W [] F ρ (whGo t mb m) D σ H, ⟨TURNS, F, ρ, S, h⟩, ?_⟩
    rintro m σ H ⟨F, ρ, S, q⟩
    cases m with
    | zero => exact tSR_stuck q
    | succ m =>
      refine tSR_bind (R := RlT) S q fun b b' A F1 H1 ρ1 T1 S1 r1 f1 n1 q => ?_
      obtain ⟨rfl, rfl⟩ := r1
      cases b with
      | false => exact iteF (tSR_nx q σ F1 H1 Tr.refl S1)
      | true => exact iteT ⟨fun σ' H' => ∃ F ρ, Stt (cs cl X) F H' σ' ρ ∧ tSR (cs cl X) W [] F ρ (whGo t mb m) D σ' H', fun σ' H' w => ⟨m, Nat.lt_succ_self m, w⟩, loop_turn S1 q fun σ' F' H'' ρ'' S4 s4 q4 => ⟨F', ρ'', S4, q4⟩⟩
end

/-! ### comprehensions -/
section
variable {cl : Nat → Addr} {X : Cx} {C : Cs} {σ : St} {F H F1 H1 : Hp} {ρ ρ1 : Env} {A A0 : List Addr} {is : List Nat}
theorem clr_len : ∀ {is : List Nat}, (clr ρ is).length = ρ.length
  | [] => rfl
  | i :: is => by show ((clr ρ is).set i none).length = _; rw [List.length_set, clr_len]
theorem clr_at {j : Nat} {b : SB} : ∀ {is : List Nat}, (clr ρ is).at j = some b ↔ j ∉ is ∧ ρ.at j = some b
  | [] => ⟨fun h => ⟨fun z => (nomatch z), h⟩, fun h => h.2⟩
  | i :: is => by
    constructor
    · intro h
      rcases at_set (show Env.at ((clr ρ is).set i none) j = some b from h) with ⟨_, e, _⟩ | ⟨n, e⟩
      · cases e
      · obtain ⟨m, e⟩ := clr_at.mp e
        exact ⟨fun z => (List.mem_cons.mp z).elim n m, e⟩
    · rintro ⟨m, e⟩
      show Env.at ((clr ρ is).set i none) j = some b
      rw [at_set_ne fun z => m (by rw [z]; exact List.mem_cons_self)]
      exact clr_at.mpr ⟨fun z => m (List.mem_cons_of_mem _ z), e⟩
theorem wipe_at {j : Nat} (h : j ∉ is) : (wipe σ is)[j]? = σ[j]? := wipe_out h
/-- the block's own names forgotten, none of them lent -/
theorem wipe_clr (S : Stt C F H σ ρ) (n : ∀ i ∈ is, ∀ o, ρ.at i ≠ some (.io o)) : Stt C F H (wipe σ is) (clr ρ is) ∧ Tr [] σ F H ρ (wipe σ is) F H (clr ρ is) := by
  have own : ∀ a, Owns (wipe σ is) (clr ρ is) a → Owns σ ρ a := fun a ⟨i, b, h1, h2, h3⟩ => by
    obtain ⟨m, e⟩ := clr_at.mp h1
    rw [wipe_at m] at h3
    exact ⟨i, b, e, h2, h3⟩
  refine ⟨⟨S.sub, by rw [clr_len, wipe_length]; exact S.len, fun i b e => ?_, fun i j b c a h1 h2 h3 h4 h5 h6 => ?_⟩, ⟨Sub.refl _, fun a o e _ _ => e, fun a _ _ _ z => z, fun a e => e, fun a q => .inl (own a q), fun i o e => ?_, fun i o e => ⟨o, (clr_at.mp e).2⟩⟩⟩
  · obtain ⟨m, e⟩ := clr_at.mp e
    rw [wipe_at m]
    exact S.sl i b e
  · obtain ⟨m, e⟩ := clr_at.mp h1
    obtain ⟨m', e'⟩ := clr_at.mp h3
    rw [wipe_at m] at h5
    rw [wipe_at m'] at h6
    exact S.dis i j b c a e h2 e' h4 h5 h6
  · have m : i ∉ is := fun m => n i m o e
    exact ⟨⟨o, clr_at.mpr ⟨m, e⟩⟩, wipe_at m⟩
theorem back_len {ρ1 : Env} : ∀ {is : List Nat}, (back ρ ρ1 is).length = ρ1.length
  | [] => rfl
  | i :: is => by show ((back ρ ρ1 is).set i _).length = _; rw [List.length_set, back_len]
theorem back_at {j : Nat} {b : SB} : ∀ {is : List Nat}, (∀ i ∈ is, i < ρ1.length) → ((back ρ ρ1 is).at j = some b ↔ (j ∈ is ∧ ρ.at j = some b) ∨ (j ∉ is ∧ ρ1.at j = some b))
  | [], _ => ⟨fun h => .inr ⟨fun z => (nomatch z), h⟩, fun h => h.elim (fun z => nomatch z.1) fun z => z.2⟩
  | i :: is, hl => by
    have ih := back_at (j := j) (b := b) (is := is) fun k m => hl k (List.mem_cons_of_mem _ m)
    have e0 : Env.at (back ρ ρ1 (i :: is)) j = Env.at ((back ρ ρ1 is).set i (ρ.at i)) j := rfl
    rw [e0]
    by_cases e : i = j
    · subst e
      rw [at_set_same (by rw [back_len]; exact hl i List.mem_cons_self)]
      exact ⟨fun h => .inl ⟨List.mem_cons_self, h⟩, fun h => h.elim (fun z => z.2) fun z => absurd List.mem_cons_self z.1⟩
    · rw [at_set_ne e, ih]
      refine ⟨fun h => h.imp (fun z => ⟨List.mem_cons_of_mem _ z.1, z.2⟩) fun z => ⟨fun m => (List.mem_cons.mp m).elim (fun q => e q.symm) z.1, z.2⟩, fun h => h.imp (fun z => ⟨(List.mem_cons.mp z.1).resolve_left fun q => e q.symm, z.2⟩) fun z => ⟨fun m => z.1 (List.mem_cons_of_mem _ m), z.2⟩⟩
theorem free_of (h : free ρ is = true) : ∀ i ∈ is, i < ρ.length ∧ (ρ.at i = none ∨ ∃ d, ρ.at i = some (.sh d)) := fun i m => by
  have := List.all_eq_true.mp h i m
  split at this
  · rename_i e; exact ⟨of_decide_eq_true this, .inl e⟩
  · rename_i d e; exact ⟨(get_of_at e).1, .inr ⟨d, e⟩⟩
  · cases this
/-- behind the block -/
theorem unwipe {F' H' : Hp} {ρ' : Env} (S : Stt C F H σ ρ) (h : free ρ is = true) (T : Tr [] (wipe σ is) F H (clr ρ is) (wipe σ is) F' H' (clr ρ' is)) (S' : Stt C F' H' (wipe σ is) (clr ρ' is)) :
    Tr [] σ F H ρ σ F' H' (back ρ ρ' is) ∧ Stt C F' H' σ (back ρ ρ' is) ∧ ∀ a, Owns σ (back ρ ρ' is) a → Owns (wipe σ is) (clr ρ' is) a := by
  have fr := free_of h
  have lenr : ρ'.length = ρ.length := by
    have := S'.len
    rw [clr_len, wipe_length] at this
    rw [this, S.len]
  have hl : ∀ i ∈ is, i < ρ'.length := fun i m => by rw [lenr]; exact (fr i m).1
  have noio : ∀ i ∈ is, ∀ b, ρ.at i = some b → b.obj = none := fun i m b e => by
    rcases (fr i m).2 with z | ⟨d, z⟩
    · rw [z] at e; cases e
    · rw [z] at e; cases e; rfl
  have look : ∀ i b, (back ρ ρ' is).at i = some b → (i ∈ is ∧ ρ.at i = some b) ∨ (i ∉ is ∧ (clr ρ' is).at i = some b) := fun i b e => ((back_at hl).mp e).imp id fun z => ⟨z.1, clr_at.mpr z⟩
  have obj : ∀ i b, (back ρ ρ' is).at i = some b → b.obj.isSome = true → i ∉ is ∧ (clr ρ' is).at i = some b := fun i b e o => by
    rcases look i b e with z | z
    · rw [noio i z.1 b z.2] at o; cases o
    · exact z
  have own' : ∀ a, Owns σ (back ρ ρ' is) a → Owns (wipe σ is) (clr ρ' is) a := fun a ⟨i, b, h1, h2, h3⟩ => by
    obtain ⟨m, e⟩ := obj i b h1 h2
    exact ⟨i, b, e, h2, by rw [wipe_at m]; exact h3⟩
  have own : ∀ a, Owns (wipe σ is) (clr ρ is) a ↔ Owns σ ρ a := fun a => ⟨fun ⟨i, b, h1, h2, h3⟩ => by
      obtain ⟨m, e⟩ := clr_at.mp h1
      rw [wipe_at m] at h3
      exact ⟨i, b, e, h2, h3⟩, fun ⟨i, b, h1, h2, h3⟩ => by
      have m : i ∉ is := fun m => by rw [noio i m b h1] at h2; cases h2
      exact ⟨i, b, clr_at.mpr ⟨m, h1⟩, h2, by rw [wipe_at m]; exact h3⟩⟩
  refine ⟨⟨T.sub, fun a o e n m => T.keep a o e (fun q => n ((own a).mp q)) m, fun a e n m z => T.nofz a e (fun q => n ((own a).mp q)) m z, T.there, fun a q => ?_, fun i o e => ?_, fun i o e => ?_⟩, ⟨S'.sub, by rw [back_len, lenr]; exact S.len, fun i b e => ?_, fun i j b c a h1 h2 h3 h4 h5 h6 => ?_⟩, own'⟩
  · exact (T.own a (own' a q)).imp (own a).mp id
  · have m : i ∉ is := fun m => by have := noio i m _ e; cases this
    obtain ⟨⟨o', h'⟩, _⟩ := T.io i o (clr_at.mpr ⟨m, e⟩)
    exact ⟨⟨o', (back_at hl).mpr (.inr ⟨m, (clr_at.mp h').2⟩)⟩, rfl⟩
  · obtain ⟨m, e⟩ := obj i _ e rfl
    obtain ⟨o', h'⟩ := T.oi i o e
    exact ⟨o', (clr_at.mp h').2⟩
  · rcases look i b e with ⟨m, e⟩ | ⟨m, e⟩
    · obtain ⟨v, e1, r1⟩ := S.sl i b e
      refine ⟨v, e1, ?_⟩
      have := noio i m b e
      cases r1 with
      | sh r => exact .sh (r.mono T.sub)
      | ow r g => cases this
      | io r g => cases this
    · obtain ⟨v, e1, r1⟩ := S'.sl i b e
      rw [wipe_at m] at e1
      exact ⟨v, e1, r1⟩
  · obtain ⟨m, e⟩ := obj i b h1 h2
    obtain ⟨m', e'⟩ := obj j c h3 h4
    exact S'.dis i j b c a e h2 e' h4 (by rw [wipe_at m]; exact h5) (by rw [wipe_at m']; exact h6)
/-- what a target's names hold is not lent -/
theorem putSs_at : ∀ {is : List Nat} {ds : List D} {ρ ρ1 : Env}, putSs ρ is ds = some ρ1 → ∀ i o, ρ1.at i = some (.io o) → i ∉ is ∧ ρ.at i = some (.io o)
  | [], [], ρ, ρ1, e, i, o, h => by cases e; exact ⟨fun z => (nomatch z), h⟩
  | [], _ :: _, _, _, e, _, _, _ => by cases e
  | _ :: _, [], _, _, e, _, _, _ => by cases e
  | k :: is, d :: ds, ρ, ρ1, e, i, o, h => by
    have e : (match putS ρ k (.sh d) with | some ρ2 => putSs ρ2 is ds | none => none) = some ρ1 := e
    split at e
    · rename_i ρ2 e2
      obtain ⟨m, h2⟩ := putSs_at e i o h
      obtain ⟨hl, _, rfl⟩ := put_at_set e2
      rcases at_set h2 with ⟨_, z, _⟩ | ⟨n, z⟩
      · cases z
      · exact ⟨fun q => (List.mem_cons.mp q).elim n m, z⟩
    · cases e
theorem putTg_at {t : Tg} {d : D} (e : putTg ρ t d = some ρ1) : ∀ i o, ρ1.at i = some (.io o) → i ∉ t.slots ∧ ρ.at i = some (.io o) := by
  cases t with
  | one k =>
    intro i o h
    obtain ⟨hl, _, rfl⟩ := put_at_set (show putS ρ k (.sh d) = some ρ1 from e)
    rcases at_set h with ⟨_, z, _⟩ | ⟨n, z⟩
    · cases z
    · exact ⟨fun q => n (by simpa [Tg.slots] using q), z⟩
  | tup is =>
    cases d with
    | tup ds =>
      have e : (if is.length = ds.length then putSs ρ is ds else none) = some ρ1 := e
      split at e
      · exact putSs_at e
      · cases e
    | _ => cases e
theorem wipe_wipe {ks : List Nat} : ∀ {is : List Nat}, (∀ i ∈ is, i ∈ ks) → wipe (wipe σ is) ks = wipe σ ks
  | [], _ => rfl
  | i :: is, h => by
    show wipe ((wipe σ is).set i none) ks = _
    rw [wipe_set (h i List.mem_cons_self), wipe_wipe fun j m => h j (List.mem_cons_of_mem _ m)]
/-- the new list of a comprehension, grown -/
theorem grow {p : Addr} {o : HO} (S : Stt C F H σ ρ) (f : F p = none) (n : ¬ Owns σ ρ p) (th : H p ≠ none) : Stt C F (upd H p o) σ ρ ∧ Tr [p] σ F H ρ σ F (upd H p o) ρ := by
  have ne : ∀ {a : Addr} {u : HO}, F a = some u → a ≠ p := fun e z => by rw [z, f] at e; cases e
  refine ⟨⟨fun a u e => by rw [upd_ne (ne e)]; exact S.sub _ _ e, S.len, fun i b e => ?_, S.dis⟩, ⟨Sub.refl _, fun a u e n1 m => ?_, fun a _ _ _ z => z, fun a e => ?_, fun a q => .inl q, fun i b q => ⟨⟨b, q⟩, rfl⟩, fun i b q => ⟨b, q⟩⟩⟩
  · obtain ⟨v, e1, r⟩ := S.sl i b e
    refine ⟨v, e1, ?_⟩
    have k : ∀ a, b.obj.isSome = true → v = .ref a → ∀ u, H a = some u → upd H p o a = some u := fun a ob ev u z => by
      subst ev
      rw [upd_ne fun q => n (by rw [← q]; exact ⟨i, b, e, ob, e1⟩)]; exact z
    cases r with
    | sh r => exact .sh r
    | ow r g => exact .ow (r.mono (Sub.refl _) (k _ rfl rfl)) g
    | io r g => exact .io (r.mono (Sub.refl _) (k _ rfl rfl)) g
  · rw [upd_ne fun q => m (by rw [q]; exact List.mem_cons_self)]; exact e
  · by_cases q : a = p
    · subst q; rw [upd_same]; simp
    · rw [upd_ne q]; exact e
theorem compGo_len {t : Tg} {c : M Bool} {e : M B} : ∀ {ds acc vs : List D} {ρ ρ' : Env}, compGo t c e ds acc ρ = some (.ok vs, ρ') → acc.length ≤ vs.length
  | [], acc, vs, ρ, ρ', h => by cases h; exact Nat.le_refl _
  | d :: ds, acc, vs, ρ, ρ', h => by
    unfold compGo at h
    split at h
    · cases h
    · obtain ⟨k, ρ2, _, h⟩ := bind_ok h
      cases k with
      | false => exact compGo_len h
      | true =>
        obtain ⟨x, ρ3, _, h⟩ := bind_ok h
        obtain ⟨v, ρ4, _, h⟩ := bind_ok h
        have := compGo_len h
        rw [List.length_append] at this
        omega
theorem kept_ok {bs : List B} {ds : List D} {ρ ρ' : Env} (h : kept bs ρ = some (.ok ds, ρ')) : ρ' = ρ ∧ bs.all noPl = true ∧ datsL ρ bs = some ds := by
  unfold kept at h
  split at h
  · rename_i n
    unfold dats at h
    split at h
    · cases h
    · rename_i e; cases h; exact ⟨rfl, n, e⟩
  · cases h
end
section
variable {cl : Nat → Addr} {X : Cx}
/-- the tests of a comprehension -/
def SimTs (cl : Nat → Addr) (X : Cx) (ifs : List Expr) (m : M Bool) : Prop := ∀ W, Takes X W → PTs X ifs (tM (cs cl X) RlT W m)
theorem PTs.imp {es : List Expr} {t t' : TT} (h : PTs X es t) (i : ∀ σ H Q, t' σ H Q → t σ H Q) : PTs X es t' := ⟨fun pins s σ H Q I q => h.run pins s σ H Q I (i σ H Q q)⟩
theorem simTs_nil : SimTs cl X [] yes := fun W _ => PTs.imp pts_nil fun σ H Q ⟨F, ρ, S, h⟩ => (tR_ret h).bool S
theorem simTs_one {e : Expr} {m : M Bool} (h : SimT cl X e m) : SimTs cl X [e] m := fun W tk => pts_one (h W tk)
abbrev blkX (X : Cx) (scope : Scope) (s : Shared) (H : Hp) (c : Addr) (cells : List (Str × Addr)) (fp : List Addr) : Cx := X.blk s H scope (compEnvC scope cells c X.env) fp
theorem no_takes {s : Shared} {H : Hp} {scope : Scope} {c : Addr} {cells : List (Str × Addr)} {fp : List Addr} : Takes (blkX X scope s H c cells fp) (fun _ _ _ _ => False) := takes0
theorem lc_read {C : Cs} {t : Tg} {it : M (List D)} {mc : M Bool} {me : M B} {g : TG} {W : WX} {σ : St} {H : Hp} {Q : VK} (hgo : ∀ {σ : St} {F H : Hp} {ρ ρ1 : Env} {v : V} {d : D} {Q : St → Hp → Prop}, Stt C F H σ ρ → Rep C F v d → putTg ρ t d = some ρ1 →
      (∀ σ2, Stt C F H σ2 ρ1 → Tr [] σ F H ρ σ2 F H ρ1 → (∀ ks : List Nat, (∀ i ∈ t.slots, i ∈ ks) → wipe σ2 ks = wipe σ ks) → Q σ2 H) → g v σ H Q) (h : tM C RlB W (mComp t it mc me) σ H Q) :
    tLc (tM C RlI W it) g (tM C RlT (fun _ _ _ _ => False) mc) (tM C RlB (fun _ _ _ _ => False) me) t.slots σ H Q := by
  obtain ⟨F, ρ, S, h⟩ := h
  refine tM_bind (R1 := RlI) S h fun J ds A F1 H1 ρ1 T1 S1 r1 f1 n1 q => ?_
  obtain ⟨gv, rfl⟩ := r1
  intro p hp
  obtain ⟨r, ρ', e, q⟩ := q
  have e : (if free ρ1 t.slots = true then match noExc (compGo t mc me ds []) ρ1 with
      | some (.ok vs, ρ2) => if vs.length ≤ LIM then some (Res.ok (B.ow (.lst vs)), back ρ1 ρ2 t.slots) else none
      | _ => none else none) = some (r, ρ') := e
  split at e
  rotate_left
  · cases e
  rename_i hfree
  split at e
  rotate_left
  · cases e
  rename_i vs ρe en
  split at e
  rotate_left
  · cases e
  rename_i hlen
  cases e
  -- all turns end well
  have en : compGo t mc me ds [] ρ1 = some (.ok vs, ρe) := by
    unfold noExc at en
    split at en
    · rename_i a ρa ea; cases en; exact ea
    · cases en
  have noio1 : ∀ i ∈ t.slots, ∀ o, ρ1.at i ≠ some (.io o) := fun i m o z => by
    rcases (free_of hfree i m).2 with q | ⟨d, q⟩
    · rw [q] at z; cases z
    · rw [q] at z; cases z
  obtain ⟨S1w, T1w⟩ := wipe_clr (is := t.slots) S1 noio1
  have Fp1 : F1 p = none := by
    cases z : F1 p with
    | none => rfl
    | some u => rw [S1.sub _ _ z] at hp; cases hp
  -- what holds ahead of turn i
  let Pv : Nat → Hp → Prop := fun i H => ∃ F ρ acc xs, Stt C F H (wipe σ t.slots) (clr ρ t.slots) ∧ Tr [] (wipe σ t.slots) F1 H1 (clr ρ1 t.slots) (wipe σ t.slots) F H (clr ρ t.slots) ∧ H p = some (.lst xs) ∧ F p = none ∧ ¬ Owns (wipe σ t.slots) (clr ρ t.slots) p ∧ Reps C F xs acc ∧
    compGo t mc me (ds.drop i) acc ρ = some (.ok vs, ρe)
  have notO : ¬ Owns (wipe σ t.slots) (clr ρ1 t.slots) p := fun z => S1w.own_some z hp
  have start : Pv 0 (upd H1 p (.lst [])) := by
    obtain ⟨Sn, Tn, fn, nn⟩ := new_own (o := .lst []) S1w hp
    exact ⟨F1, ρ1, [], [], Sn, Tn, upd_same, Fp1, notO, .nil, en⟩
  refine ⟨fun i m H => m = ds.length - i ∧ i ≤ ds.length ∧ Pv i H, ⟨ds.length, by simp, Nat.zero_le _, start⟩, ?_⟩
  rintro i m H ⟨rfl, hi, F, ρ, acc, xs, S2, T2, hpx, fpx, npx, rx, ec⟩
  by_cases hlt : i < ds.length
  · refine .inr ⟨gv.goes i H hlt (T2.sub.trans S2.sub), Pv (i + 1), fun H' w => ⟨ds.length - (i + 1), by omega, rfl, hlt, w⟩, fun x H' y => ?_⟩
    obtain ⟨d, F3, ed, S3, T3, rd⟩ := gv.take hlt S2 T2.sub y
    rw [List.drop_eq_getElem_cons hlt] at ec
    have ed' : ds[i] = d := Option.some.inj ((List.getElem?_eq_getElem hlt).symm.trans ed)
    rw [ed'] at ec
    unfold compGo at ec
    split at ec
    · cases ec
    rename_i ρ3 ep
    refine hgo S3 rd ep fun σ2 S4 T4 w => ?_
    have w : wipe σ2 t.slots = wipe σ t.slots := (w t.slots fun _ m => m).trans (wipe_wipe fun _ m => m)
    refine ⟨w, ?_⟩
    obtain ⟨k, ρ4, e4, ec⟩ := bind_ok ec
    have T24 : Tr [] (wipe σ t.slots) F H (clr ρ t.slots) σ2 F3 H' ρ3 := T3.trans (A1 := []) (fun _ z => nomatch z) T4
    have noio3 : ∀ i ∈ t.slots, ∀ o, ρ3.at i ≠ some (.io o) := fun i m o z => (putTg_at ep i o z).1 m
    -- the state behind an expression of the block
    have close : ∀ {F5 H5 ρ5}, Stt C F5 H5 σ2 ρ5 → Tr [] σ2 F3 H' ρ3 σ2 F5 H5 ρ5 → Stt C F5 H5 (wipe σ t.slots) (clr ρ5 t.slots) ∧ Tr [] (wipe σ t.slots) F H (clr ρ t.slots) (wipe σ t.slots) F5 H5 (clr ρ5 t.slots) := fun {F5 H5 ρ5} S5 T5 => by
      obtain ⟨S6, T6⟩ := wipe_clr (is := t.slots) S5 fun i m o z => by
        obtain ⟨o', z'⟩ := T5.oi i o z
        exact noio3 i m o' z'
      rw [w] at S6 T6
      exact ⟨S6, (T24.trans (A1 := []) (fun _ z => nomatch z) T5).trans (A1 := []) (fun _ z => nomatch z) T6⟩
    have stay : ∀ {F5 H5 ρ5}, Tr [] (wipe σ t.slots) F H (clr ρ t.slots) (wipe σ t.slots) F5 H5 (clr ρ5 t.slots) → H5 p = some (.lst xs) ∧ F5 p = none ∧ ¬ Owns (wipe σ t.slots) (clr ρ5 t.slots) p := fun {F5 H5 ρ5} T5 =>
      ⟨T5.keep p _ hpx npx (fun z => nomatch z), T5.nofz p (by rw [hpx]; simp) npx (fun z => nomatch z) fpx, fun z => by
        rcases T5.own p z with z | z | z
        · exact npx z
        · exact nomatch z
        · rw [hpx] at z; cases z⟩
    refine ⟨F3, ρ3, S4, .ok k, ρ4, e4, fun b A F4 H4 T5 S5 rl f5 n5 => ?_⟩
    obtain ⟨rfl, rfl⟩ := rl
    cases b with
    | false =>
      refine iteF ?_
      obtain ⟨S6, T6⟩ := close S5 T5
      obtain ⟨q1, q2, q3⟩ := stay T6
      exact ⟨F4, ρ4, acc, xs, S6, T2.trans (A1 := []) (fun _ z => nomatch z) T6, q1, q2, q3, rx.mono T6.sub, ec⟩
    | true =>
      refine iteT ?_
      obtain ⟨x5, ρ5, e5, ec⟩ := bind_ok ec
      obtain ⟨v5, ρ6, e6, ec⟩ := bind_ok ec
      obtain ⟨rfl, n6, e6⟩ := kept_ok e6
      refine ⟨F4, ρ4, S5, .ok x5, ρ6, e5, fun y A F5 H5 T6 S6 rb f6 n6' => ?_⟩
      obtain ⟨S7, T7⟩ := share S6 f6
      have T57 : Tr [] σ2 F3 H' ρ3 σ2 (addF F5 H5 A) H5 ρ6 := (T5.trans (A1 := []) (fun _ z => nomatch z) T6).trans (New.trans T5 (A1 := []) (fun _ z => nomatch z) n6') T7
      obtain ⟨S8, T8⟩ := close S7 T57
      obtain ⟨q1, q2, q3⟩ := stay T8
      have dv : ∃ d5, v5 = [d5] ∧ x5.dat ρ6 = some d5 := by
        have e6 : (match x5.dat ρ6, datsL ρ6 [] with | some d, some ds => some (d :: ds) | _, _ => none) = some v5 := e6
        split at e6
        · rename_i h1 h2; cases e6; cases h2; exact ⟨_, rfl, h1⟩
        · cases e6
      obtain ⟨d5, rfl, e7⟩ := dv
      have np5 : noPl x5 = true := by simpa using n6
      have ry : Rep C (addF F5 H5 A) y d5 := rb.in_ (sub_addF f6) (fun a m o z => by rw [addF_in m]; exact z) np5 e7
      have hl : xs.length < sizeLine := by
        have h1 := compGo_len ec
        rw [List.length_append] at h1
        have h2 := rx.length
        rw [← lim_eq]
        have : ([d5] : List D).length = 1 := rfl
        omega
      obtain ⟨S9, T9⟩ := grow (o := .lst (xs ++ [y])) S8 q2 q3 (by rw [q1]; simp)
      have T0 := T2.trans (A1 := []) (fun _ z => nomatch z) T8
      exact ⟨xs, q1, hl, addF F5 H5 A, ρ6, acc ++ [d5], xs ++ [y], S9, T0.trans (A1 := [p]) (fun a m => by rw [List.mem_singleton.mp m]; exact .inr (.inr hp)) T9, upd_same, q2, q3, (rx.mono T8.sub).append (.cons ry .nil), ec⟩
  · have e : i = ds.length := by omega
    subst e
    refine .inl ⟨gv.stops H (T2.sub.trans S2.sub), ?_⟩
    rw [List.drop_length] at ec
    cases ec
    obtain ⟨Te, Se, ow⟩ := unwipe (is := t.slots) S1 hfree T2 S2
    exact q (.ref p) [p] F H (Te.hand fun _ z => nomatch z) Se (.ow (.lst hpx rx)) ⟨by simp, fun a m => by rw [List.mem_singleton.mp m]; exact fpx, fun a m z => by rw [List.mem_singleton.mp m] at z; exact npx (ow _ z), fun a m => by rw [List.mem_singleton.mp m, hpx]; simp⟩ fun a m => by rw [List.mem_singleton.mp m]; exact .inr (.inr hp)
/-- [e for t in it if c] -/
theorem sim_comp {elt tg iter : Expr} {ifs : List Expr} {scope : Scope} {own : List (Str × Nat)} {pos : Pos} {t : Tg} {it : M (List D)} {mc : M Bool} {me : M B} (hc : X.calm = true) (hN : X.N.Nodup) (hi : SimI cl X tg iter it) (ok : BlkOk X.N X.env.scope scope own) (ho : own.map (·.2) = t.slots)
    (hg : ∃ g : TG, (∀ s H c cells fp, PG (blkX X scope s H c cells fp) tg g) ∧ ∀ {σ : St} {F H : Hp} {ρ ρ1 : Env} {v : V} {d : D} {Q : St → Hp → Prop}, Stt (cs cl X) F H σ ρ → Rep (cs cl X) F v d → putTg ρ t d = some ρ1 →
      (∀ σ2, Stt (cs cl X) F H σ2 ρ1 → Tr [] σ F H ρ σ2 F H ρ1 → (∀ ks : List Nat, (∀ i ∈ t.slots, i ∈ ks) → wipe σ2 ks = wipe σ ks) → Q σ2 H) → g v σ H Q)
    (ht : ∀ s H c cells fp, SimTs cl (blkX X scope s H c cells fp) ifs mc) (he : ∀ s H c cells fp, SimE cl (blkX X scope s H c cells fp) elt me) (hs : ∀ x, foldedSetIterable iter X.env x = pure x) : SimE cl X (.ListComp elt [⟨tg, iter, ifs, 0⟩] scope pos) (mComp t it mc me) := fun W tk => by
  obtain ⟨g, pg, hgo⟩ := hg
  refine PE.imp (pe_lc (own := own) (tt := tM (cs cl X) RlT (fun _ _ _ _ => False) mc) (te := tM (cs cl X) RlB (fun _ _ _ _ => False) me) hc hN (hi W tk) ok pg (fun s H c cells fp => ht s H c cells fp _ no_takes) (fun s H c cells fp => he s H c cells fp _ no_takes) hs) fun σ H Q h => ?_
  rw [ho]
  exact lc_read hgo h
end
end WF

set_option Elab.async false
set_option linter.all false
set_option maxRecDepth 100000
set_option maxHeartbeats 4000000
/-! WFM: more statements: several names, places set, append, raise, try. -/
namespace WF
open PySem PySem.Spec PyProof.Rows L2
section
variable {cl : Nat → Addr} {X : Cx} {C : Cs} {σ : St} {F H : Hp} {ρ ρ1 : Env} {A A0 : List Addr} {W : WX} {G : Ends}
theorem ownB_pure {x : B} {r : Res SB} {ρ' : Env} (e : ownB x ρ = some (r, ρ')) : ρ' = ρ ∧ ∃ b, r = .ok b := by
  cases x with
  | pl i => cases e
  | sh d => cases e; exact ⟨rfl, _, rfl⟩
  | ow o => cases e; exact ⟨rfl, _, rfl⟩
  | tp bs => exact lift_pure e
theorem set_core {i : Nat} {m : M B} (h : tS C W (sSet i m) G σ H) : tM C RlB W m σ H fun x H1 => gName i x σ H1 G.nx := by
  obtain ⟨F, ρ, S, h⟩ := h
  refine tSR_bind (R := RlB) S h fun v a A F1 H1 ρ1 T S1 rl fp nw q => ?_
  obtain ⟨b, eb, q⟩ := tSR_step q fun _ _ => ownB_pure
  obtain ⟨_, F2, S2, T2, r, nio, f⟩ := own_rel S1 rl fp eb
  exact bindS_go (A0 := A) S2 (tSR_from (T2.hand fun z m => by rw [List.nil_append]; exact m) (fun z m => .inr (.inl (by rw [List.nil_append]; exact m))) rfl q) nio r f
/-- x = [e for t in it if c] -/
theorem sim_setLc {i : Nat} {y : Str} {py : Pos} {elt tg iter : Expr} {ifs : List Expr} {scope : Scope} {own : List (Str × Nat)} {pos spos : Pos} {t : Tg} {it : M (List D)} {mc : M Bool} {me : M B} (hc : X.calm = true) (hN : X.N.Nodup) (hy : X.N[i]? = some y) (hyl : X.env.scope.names.lookup y = some .local)
    (hsw : swapsWith (.ListComp elt [⟨tg, iter, ifs, 0⟩] scope pos) (some (.Name y py)) spos.line X.env = pure true) (hi : SimI cl X tg iter it) (ok : BlkOk X.N X.env.scope scope own) (ho : own.map (·.2) = t.slots)
    (hg : ∃ g : TG, (∀ s H c cells fp, PG (blkX X scope s H c cells fp) tg g) ∧ ∀ {σ : St} {F H : Hp} {ρ ρ1 : Env} {v : V} {d : D} {Q : St → Hp → Prop}, Stt (cs cl X) F H σ ρ → Rep (cs cl X) F v d → putTg ρ t d = some ρ1 →
      (∀ σ2, Stt (cs cl X) F H σ2 ρ1 → Tr [] σ F H ρ σ2 F H ρ1 → (∀ ks : List Nat, (∀ i ∈ t.slots, i ∈ ks) → wipe σ2 ks = wipe σ ks) → Q σ2 H) → g v σ H Q)
    (ht : ∀ s H c cells fp, SimTs cl (blkX X scope s H c cells fp) ifs mc) (he : ∀ s H c cells fp, SimE cl (blkX X scope s H c cells fp) elt me) (hs : ∀ x, foldedSetIterable iter X.env x = pure x) :
    SimS cl X (.Assign [.Name y py] (.ListComp elt [⟨tg, iter, ifs, 0⟩] scope pos) spos) (sSet i (mComp t it mc me)) := fun W tk => by
  obtain ⟨g, pg, hgo⟩ := hg
  refine PS.imp (ps_setLc (own := own) (tt := tM (cs cl X) RlT (fun _ _ _ _ => False) mc) (te := tM (cs cl X) RlB (fun _ _ _ _ => False) me) hc hN hy hyl hsw (hi W tk) ok pg (fun s H c cells fp => ht s H c cells fp _ no_takes) (fun s H c cells fp => he s H c cells fp _ no_takes) hs) fun D σ H h => ?_
  show tLc _ _ _ _ _ σ H _
  rw [ho]
  exact lc_read hgo (set_core h)
/-! ### a name's own object changed -/
theorem put_own {i : Nat} {a : Addr} {u : HO} {c : SB} {o o' : O} (S : Stt C F H σ ρ) (hc : ρ.at i = some c) (ho : c.obj = some o) (hs : σ[i]? = some (some (.ref a))) (f : F a = none) (th : H a ≠ none) (r : ROb C F (upd H a u) a o') :
    Stt C F (upd H a u) σ (ρ.set i (some (c.put o'))) ∧ Tr [] σ F H ρ σ F (upd H a u) (ρ.set i (some (c.put o'))) := by
  have ow : Owns σ ρ a := ⟨i, c, hc, by rw [ho]; rfl, hs⟩
  have il := (get_of_at hc).1
  have obj : (c.put o').obj.isSome = true := by cases c <;> first | (cases ho; done) | rfl
  have sl : ∀ {j : Nat} {b : SB}, Env.at (ρ.set i (some (c.put o'))) j = some b → (j = i ∧ b = c.put o') ∨ (j ≠ i ∧ ρ.at j = some b) := fun {j b} e => by
    rcases at_set e with ⟨rfl, e1, _⟩ | z
    · cases e1; exact .inl ⟨rfl, rfl⟩
    · exact .inr z
  have ownB : ∀ x, Owns σ (ρ.set i (some (c.put o'))) x → Owns σ ρ x := fun x ⟨j, b, h1, h2, h3⟩ => by
    rcases sl h1 with ⟨rfl, rfl⟩ | ⟨n, e⟩
    · exact ⟨j, c, hc, by rw [ho]; rfl, h3⟩
    · exact ⟨j, b, e, h2, h3⟩
  have ne : ∀ {x : Addr} {w : HO}, F x = some w → x ≠ a := fun e z => by rw [z, f] at e; cases e
  refine ⟨⟨fun x w e => by rw [upd_ne (ne e)]; exact S.sub _ _ e, by rw [List.length_set]; exact S.len, fun j b e => ?_, fun j k b d x h1 h2 h3 h4 h5 h6 => ?_⟩, ⟨Sub.refl _, fun x w e n _ => ?_, fun _ _ _ _ z => z, fun x e => ?_, fun x q => .inl (ownB x q), fun j w e => ?_, fun j w e => ?_⟩⟩
  · rcases sl e with ⟨rfl, rfl⟩ | ⟨n, e⟩
    · refine ⟨_, hs, ?_⟩
      cases c with
      | sh d => cases ho
      | ow o0 => exact .ow r f
      | io o0 => exact .io r f
    · obtain ⟨v, e1, q⟩ := S.sl j b e
      refine ⟨v, e1, ?_⟩
      have k : ∀ x, v = .ref x → b.obj.isSome = true → ∀ w, H x = some w → upd H a u x = some w := fun x ev ob w z => by
        subst ev
        rw [upd_ne fun q => n (by rw [q] at e1; exact S.dis j i b c a e ob hc (by rw [ho]; rfl) e1 hs)]; exact z
      cases q with
      | sh q => exact .sh q
      | ow q g => exact .ow (q.mono (Sub.refl _) (k _ rfl rfl)) g
      | io q g => exact .io (q.mono (Sub.refl _) (k _ rfl rfl)) g
  · have back : ∀ {j : Nat} {b : SB}, Env.at (ρ.set i (some (c.put o'))) j = some b → b.obj.isSome = true → ∃ b0, ρ.at j = some b0 ∧ b0.obj.isSome = true := fun {j b} e ob => by
      rcases sl e with ⟨rfl, rfl⟩ | ⟨n, e⟩
      · exact ⟨c, hc, by rw [ho]; rfl⟩
      · exact ⟨b, e, ob⟩
    obtain ⟨b0, q1, q2⟩ := back h1 h2
    obtain ⟨d0, q3, q4⟩ := back h3 h4
    exact S.dis j k b0 d0 x q1 q2 q3 q4 h5 h6
  · rw [upd_ne fun q => n (by rw [q]; exact ow)]; exact e
  · by_cases q : x = a
    · subst q; rw [upd_same]; simp
    · rw [upd_ne q]; exact e
  · by_cases q : i = j
    · subst q
      rw [hc] at e
      cases e
      exact ⟨⟨o', by rw [at_set_same il]; rfl⟩, rfl⟩
    · exact ⟨⟨w, by rw [at_set_ne q]; exact e⟩, rfl⟩
  · rcases sl e with ⟨rfl, q⟩ | ⟨n, q⟩
    · cases c with
      | sh d => cases ho
      | ow o0 => cases q
      | io o0 => exact ⟨o0, hc⟩
    · exact ⟨w, q⟩
theorem has_pure {i : Nat} {r : Res O} {ρ' : Env} (e : mHas i ρ = some (r, ρ')) : ρ' = ρ ∧ ∃ o, r = .ok o := by
  unfold mHas at e
  split at e
  · split at e
    · cases e; exact ⟨rfl, _, rfl⟩
    · cases e
  · cases e
theorem has_of {i : Nat} {o : O} (S : Stt C F H σ ρ) (e : mHas i ρ = some (.ok o, ρ)) : ∃ a, σ[i]? = some (some (.ref a)) ∧ ROb C F H a o ∧ F a = none := by
  unfold mHas at e
  split at e
  · rename_i c hc
    split at e
    · rename_i o' ho
      cases e
      obtain ⟨v, e1, r⟩ := S.sl i c hc
      cases r with
      | sh r => cases ho
      | ow r f => cases ho; exact ⟨_, e1, r, f⟩
      | io r f => cases ho; exact ⟨_, e1, r, f⟩
    · cases e
  · cases e
theorem putO_ok {i : Nat} {f : O → Option O} {r : Res Unit} {ρ' : Env} (e : putO i f ρ = some (r, ρ')) : ∃ c o o1, ρ.at i = some c ∧ c.obj = some o ∧ f o = some o1 ∧ r = .ok () ∧ ρ' = ρ.set i (some (c.put o1)) := by
  unfold putO at e
  split at e
  · rename_i c hc
    split at e
    · rename_i o ho
      split at e
      · rename_i o1 h1
        cases e
        exact ⟨c, o, o1, hc, ho, h1, rfl, rfl⟩
      · cases e
    · cases e
  · cases e
/-- what is behind a change of a name's object -/
theorem put_go {i : Nat} {f : O → Option O} {a : Addr} {k : S} (S : Stt C F H σ ρ) (hs : σ[i]? = some (some (.ref a))) (h : tSR C W A0 F ρ (bind (putO i f) fun _ => k) G σ H) :
    ∃ o o1, ROb C F H a o ∧ F a = none ∧ f o = some o1 ∧ ∀ u, ROb C F (upd H a u) a o1 → ∃ ρ', Stt C F (upd H a u) σ ρ' ∧ Tr [] σ F H ρ σ F (upd H a u) ρ' ∧ tSR C W A0 F ρ' k G σ (upd H a u) := by
  obtain ⟨r, ρ', e, h⟩ := h
  unfold bind at e
  split at e
  · cases e
  · rename_i em
    obtain ⟨_, _, _, _, _, _, z, _⟩ := putO_ok em
    cases z
  · rename_i x ρ2 em
    obtain ⟨c, o, o1, hc, ho, hf, _, rfl⟩ := putO_ok em
    obtain ⟨v, e1, r1⟩ := S.sl i c hc
    rw [hs] at e1
    cases e1
    have rr : ROb C F H a o ∧ F a = none := by
      cases r1 with
      | sh q => cases ho
      | ow q g => cases ho; exact ⟨q, g⟩
      | io q g => cases ho; exact ⟨q, g⟩
    refine ⟨o, o1, rr.1, rr.2, hf, fun u ru => ?_⟩
    obtain ⟨w, hw⟩ := rr.1.some
    obtain ⟨S1, T1⟩ := put_own S hc ho hs rr.2 (by rw [hw]; simp) ru
    refine ⟨_, S1, T1, ?_⟩
    have q : tSR C W A0 F ρ (fun _ => k (ρ.set i (some (c.put o1)))) G σ H := ⟨r, ρ', e, h⟩
    obtain ⟨r2, ρ2, e2, h2⟩ := tSR_from (A1 := A0) (T1.hand fun _ z => nomatch z) (fun _ m => .inr (.inl m)) rfl q
    exact ⟨r2, ρ2, e2, h2⟩
theorem keyS_inv {k : D} (h : keyS k = true) : ∃ t, k = .str t := by
  cases k with
  | str t => exact ⟨t, rfl⟩
  | _ => cases h
theorem keyOf_str {k : D} (h : keyOf false k = true) : ∃ t, k = .str t := keyS_inv h
theorem reps_set {F : Hp} : ∀ {xs : List V} {ds : List D}, Reps C F xs ds → ∀ (j : Nat) {v : V} {d : D}, Rep C F v d → Reps C F (xs.set j v) (ds.set j d)
  | _, _, .nil, _, _, _, _ => .nil
  | _, _, .cons _ t, 0, _, _, r => .cons r t
  | _, _, .cons q t, j + 1, _, _, r => .cons q (reps_set t j r)
theorem tSR_kept2 {b c : B} {x y : V} {A A' : List Addr} {k : List D → S} (S : Stt C F H σ ρ) (r : RB C σ F H x b A) (r' : RB C σ F H y c A') (f : Fp σ F H ρ (A ++ A')) (h : tSR C W (A ++ A') F ρ (bind (kept [b, c]) k) G σ H) :
    ∃ d e F1, Stt C F1 H σ ρ ∧ Tr (A ++ A') σ F H ρ σ F1 H ρ ∧ Rep C F1 x d ∧ Rep C F1 y e ∧ tSR C W [] F1 ρ (k [d, e]) G σ H := by
  obtain ⟨ds, ek, h⟩ := tSR_step h fun r ρ' e => by
    unfold kept at e
    split at e
    · exact dats_pure e
    · cases e
  obtain ⟨_, n, ed⟩ := kept_ok ek
  obtain ⟨S1, T1⟩ := share S f
  have rs : RBs C σ F H [x, y] [b, c] (A ++ (A' ++ [])) := .cons r (.cons r' .nil)
  have rp := rs.in_ (sub_addF f) (fun a m o q => by rw [addF_in (by simpa using m)]; exact q) n ed
  cases rp with
  | cons r1 t =>
    cases t with
    | cons r2 t =>
      cases t
      exact ⟨_, _, _, S1, T1, r1, r2, tSR_from T1 (A1 := []) (fun _ z => nomatch z) rfl h⟩
theorem tSR_hand {m : S} {A1 : List Addr} (h : tSR C W A1 F ρ m G σ H) (n : New A0 σ H ρ A1) : True := trivial
/-! a dict with tuples as keys is written -/
theorem dkT_ok {P : Program} {w : World} {K : PySem.W.Frag} {cl : Nat → Addr} {H : Hp} {h : Heap} {a : Addr} {xs : List XT} {ys : List YT} (r : RelT xs ys) (d : h.DictOfH (nestedKind P w) a ys) (l : xs.length ≤ sizeLine) (n : (a == sysModules) = false) :
    ObjOk P w H h a (dkT ⟨P, w, K, cl⟩ a xs) := by
  obtain ⟨o, es, ep, h1, h2, h3, h4, h5, h6⟩ := d
  have nd : (xs.map (·.1)).Nodup := by rw [← relT_fst r]; exact h6
  refine ⟨⟨ys, r, o, es, ep, h1, h2, h3, h4, l, n, nd⟩, ⟨o, h1⟩, fun g1 g2 ⟨ys, r, o, es, ep, h1, q⟩ k => ⟨ys, r, o, es, ep, k o h1, q⟩⟩
def rSetT (C : Cs) : TSet := fun o i v H Q => ∃ (a b : Addr) (F : Hp) (xs : List XT) (kvs : List (D × D)) (k : D), o = .ref a ∧ i = .ref b ∧ H a = some (dkT C a xs) ∧ RepT C F xs kvs ∧ Sub F H ∧ Rep C H (.ref b) k ∧ keyT k = true ∧ kvs.length < LIM ∧
  Q (upd H a (dkT C a (storedX xs (nk k) b v)))
theorem set_dicT (hu : Hu X) : PSet X (rSetT (cs cl X)) := by
  intro pins s σ H o i v ov iv u Q I ro ri rv h
  obtain ⟨a, b, F, xs, kvs, k, rfl, rfl, e, r, sub, rk, hk, hl, q⟩ := h
  cases ro
  cases ri
  obtain ⟨ys, rel, dd, _, hd, _⟩ := dk_at I e r sub
  have lx : xs.length < sizeLine := by rw [r.length, ← lim_eq]; exact hl
  have ly : ys.length ≤ sizeLine := by have := rel.length; omega
  refine wpAny_setItem_heap (hsz := ly) (hu8 hu) (key_is I rk hk) dd fun h' dd' hs => ?_
  have he : ∃ o, h'.get? a = some o := let ⟨o, _, _, ho, _⟩ := dd'; ⟨o, ho⟩
  refine ⟨_, I.write (o := dkT (cs cl X) a (storedX xs (nk k) b v)) (by rw [e]; exact True.intro) (.inl rfl) (fun c o n q => hs.extBut c o n q) he (dkT_ok (relT_stored rel (nk k) b rv) dd' ?_ hd), q⟩
  have := stored_length xs (nk k) b v
  omega
/-- x[k] = e: a list, a dict of texts -/
theorem sim_ixset {i : Nat} {x : Str} {k e : Expr} {mk me : M B} {p p2 pos : Pos} (hu : Hu X) (hN : X.N[i]? = some x) (hv : Vis X.env.scope x) (hd : (x == ("__debug__" : Str)) = false) (hcd : (x == ("__classdict__" : Str)) = false) (ha : SimE cl X e me) (hk : SimE cl X k mk)
    (hs : swapsWithSole [.Subscript (.Name x p) k p2] e pos.line X.env = pure false) (hw : swappedStores [.Subscript (.Name x p) k p2] e X.env = pure none) (h1 : (assignEach [.Subscript (.Name x p) k p2] X.env).map (·.2) = [assign (.Subscript (.Name x p) k p2) X.env])
    (hx : ∀ v, assign (.Subscript (.Name x p) k p2) X.env v = (do
      let ov ← holding [v] (eval (.Name x p) X.env)
      let iv ← holding [v, ov] (eval k X.env)
      standAt p2
      holding [v, ov, iv] (setItem ov iv v)
      release [v, ov, iv] [])) : SimS cl X (.Assign [.Subscript (.Name x p) k p2] e pos) (sIxSet i mk me) := fun W tk => by
  have hset : PSet X (fun o i v H Q => rSetL o i v H Q ∨ (∃ a H', o = .ref a ∧ DPut H a i v H' ∧ Q H') ∨ rSetT (cs cl X) o i v H Q) := by
    intro pins s σ H o i v ov iv u Q I ro ri rv h
    rcases h with h | ⟨a, H', rfl, g, q⟩ | h
    · exact set_list pins s σ H o i v ov iv u Q I ro ri rv h
    · obtain rfl : ov = Value.ref a := ro
      exact d_setItem (by have : X.A.units + 65 < cLine := hu; omega) I g ri rv fun s' I' => ⟨H', I', q⟩
    · exact set_dicT hu pins s σ H o i v ov iv u Q I ro ri rv h
  refine PS.imp (ps_asg (ha W tk) (pg_sub (pe_var hN hv hd hcd) (hk W tk) hset hx) hs hw h1) fun D σ H ⟨F, ρ, S, h⟩ => ?_
  refine tSR_bind (R := RlB) S h fun v b A F1 H1 ρ1 T1 S1 r1 f1 n1 q => ?_
  obtain ⟨o, eo, q⟩ := tSR_step q fun _ _ => has_pure
  obtain ⟨a, es, ro, fo⟩ := has_of S1 eo
  refine ⟨.ref a, es, ?_⟩
  refine tSR_bind (R := RlB) S1 q fun y c A' F2 H2 ρ2 T2 S2 r2 f2 n2 q => ?_
  rw [List.nil_append] at q
  obtain ⟨d, g, F3, S3, T3, rd, rg, q⟩ := tSR_kept2 S2 (r1.mono (F' := F2) (H' := H2) T2.sub fun z m => f1.keep T2 m) r2 (f1.append T2 f2 n2) q
  obtain ⟨o2, o3, ro2, fo2, hf, go⟩ := put_go (i := i) S3 es q
  have fin : ∀ u, ROb (cs cl X) F3 (upd H2 a u) a o3 → D.nx σ (upd H2 a u) := fun u ru => by
    obtain ⟨ρ', S4, T4, q4⟩ := go u ru
    exact tSR_nx q4 σ F3 _ Tr.refl S4
  unfold setAt at hf
  split at hf
  · split at hf
    · rename_i j
      split at hf
      · rename_i hj
        cases hf
        obtain ⟨h0, hj⟩ := dec_and hj
        cases rg
        cases ro2 with
        | @lst xs ds hH rx =>
          refine .inl ⟨a, xs, j, j.toNat, rfl, rfl, hH, ?_, fin _ (.lst upd_same (reps_set rx _ rd))⟩
          unfold ixN
          rw [rx.length, if_pos h0, if_pos (by omega)]
      · cases hf
    · cases hf
  · rename_i kvs
    split at hf
    · rename_i hl
      split at hf
      · rename_i hk
        cases hf
        obtain ⟨t, rfl⟩ := keyOf_str hk
        cases rg with
        | str _ ot =>
          cases ro2 with
          | @dicS xs _ hH rx =>
            exact .inr (.inl ⟨a, _, rfl, DPut.k (k := Sum.inr (mkS t)) hH (by rw [rx.length, ← lim_eq]; exact hl), fin _ (.dicS upd_same (repS_put rx ot rd))⟩)
      · cases hf
    · cases hf
  · rename_i kvs
    split at hf
    · rename_i hl
      split at hf
      · rename_i hk
        cases hf
        obtain ⟨kb, rfl⟩ := keyT_ref hk rg
        cases ro2 with
        | @dicT xs _ hH rx =>
          exact .inr (.inr ⟨a, kb, F3, xs, kvs, _, rfl, rfl, hH, rx, S3.sub, rg.mono S3.sub, hk, hl, fin _ (.dicT upd_same (repT_stored rx hk rg rd))⟩)
      · cases hf
    · cases hf
  · cases hf

/-! ### append -/
theorem tR_put {i : Nat} {f : O → Option O} {a : Addr} {α β : Type} {R : Rl β α} {Q : β → Hp → Prop} {k : M α} (S : Stt C F H σ ρ) (hs : σ[i]? = some (some (.ref a))) (h : tR C R W A0 F ρ (bind (putO i f) fun _ => k) σ H Q) :
    ∃ o o1, ROb C F H a o ∧ F a = none ∧ f o = some o1 ∧ ∀ u, ROb C F (upd H a u) a o1 → ∃ ρ', Stt C F (upd H a u) σ ρ' ∧ Tr [] σ F H ρ σ F (upd H a u) ρ' ∧ tR C R W A0 F ρ' k σ (upd H a u) Q := by
  obtain ⟨r, ρ', e, h⟩ := h
  unfold bind at e
  split at e
  · cases e
  · rename_i em
    obtain ⟨_, _, _, _, _, _, z, _⟩ := putO_ok em
    cases z
  · rename_i x ρ2 em
    obtain ⟨c, o, o1, hc, ho, hf, _, rfl⟩ := putO_ok em
    obtain ⟨v, e1, r1⟩ := S.sl i c hc
    rw [hs] at e1
    cases e1
    have rr : ROb C F H a o ∧ F a = none := by
      cases r1 with
      | sh q => cases ho
      | ow q g => cases ho; exact ⟨q, g⟩
      | io q g => cases ho; exact ⟨q, g⟩
    refine ⟨o, o1, rr.1, rr.2, hf, fun u ru => ?_⟩
    obtain ⟨w, hw⟩ := rr.1.some
    obtain ⟨S1, T1⟩ := put_own S hc ho hs rr.2 (by rw [hw]; simp) ru
    refine ⟨_, S1, T1, r, ρ', e, ?_⟩
    have T0 : Tr A0 σ F H ρ σ F (upd H a u) (ρ.set i (some (c.put o1))) := T1.hand fun _ z => nomatch z
    have nn : New A0 σ H ρ A0 := fun _ m => .inr (.inl m)
    cases r with
    | ok b => exact fun v A F' H' T' S' rl fp nw => h v A F' H' (T0.trans nn (T'.hand fun _ m => List.mem_append_right _ m)) S' rl fp (New.trans T0 nn fun x z => (nw x z).imp id fun q => q.imp (List.mem_append_right _) id)
    | exc c p => exact fun cls d F' H' T' S' x => h cls d F' H' (T0.trans nn (T'.hand fun _ m => List.mem_append_right _ m)) S' x
theorem sim_app {i : Nat} {x : Str} {e : Expr} {me : M B} {p ap cp : Pos} (hN : X.N[i]? = some x) (hv : Vis X.env.scope x) (hd : (x == ("__debug__" : Str)) = false) (hcd : (x == ("__classdict__" : Str)) = false) (ha : SimE cl X e me)
    (hbase : attributeBase (.Name x p) "append" X.env (eval (.Name x p) X.env) = eval (.Name x p) X.env)
    (hfew : ((backTo cp (starEach [e] X.env)).all (fun x => !x.1) && (backToKw cp (keywordEach [] X.env)).all (fun x => x.1.isSome) && decide (([e] : List Expr).length + ([] : List Keyword).length + (if ([] : List Keyword).isEmpty then 0 else 1) < 30)) = true)
    (hline : (ap.endLine == cp.line) = true) (hs : starEach [e] X.env = (false, eval e X.env) :: starEach [] X.env) (hplain : (backTo cp (starEach [] X.env)).any (·.1) = false) : SimE cl X (.Call (.Attribute (.Name x p) "append" ap) [e] [] cp) (mApp i me) := fun W tk =>
  PE.imp (pe_bm PySem.F.plainAttrs_list PySem.F.slot_list_append PySem.F.type_list_append mt_append (pe_var hN hv hd hcd) (pa_cons (ha W tk) pa_nil hs) hbase hfew hline hs hplain) fun σ H Q ⟨F, ρ, S, h⟩ => by
    obtain ⟨o, eo, h⟩ := tR_step h fun _ _ => has_pure
    obtain ⟨a, es, ro, fo⟩ := has_of S eo
    obtain ⟨hl, h⟩ := tR_if h
    cases ro with
    | @lst xs ds hH rx =>
      refine ⟨.ref a, es, .inl ⟨rfl, xs, .inl (.inl hH)⟩, ?_⟩
      refine tM_bind (R1 := RlB) S h fun v b A F1 H1 ρ1 T1 S1 r1 f1 n1 q => ?_
      obtain ⟨d, F2, S2, rd, sb, q⟩ := kept1 S1 r1 f1 q
      obtain ⟨o, o1, ro2, fo2, hf, go⟩ := tR_put S2 es q
      unfold addAt at hf
      split at hf
      · split at hf
        · rename_i xs' hlen
          cases hf
          cases ro2 with
          | @lst ys _ hY ry =>
            refine ⟨a, ys, v, rfl, rfl, hY, by rw [ry.length, ← lim_eq]; exact hlen, ?_⟩
            obtain ⟨ρ', S3, T3, q⟩ := go (.lst (ys ++ [v])) (.lst upd_same (ry.append (.cons rd .nil)))
            exact (tR_ret q).data S3 .non
        · cases hf
      · cases hf
    | dicS h r => cases hl
    | dicT h r => cases hl
    | ins h r => cases hl
/-! ### several names -/
theorem own_rel2 {v : V} {x : B} {b : SB} {ρ2 : Env} (S : Stt C F H σ ρ) (rl : RB C σ F H v x A) (fp : Fp σ F H ρ A) (e : ownB x ρ = some (.ok b, ρ2)) :
    ρ2 = ρ ∧ ∃ F1, Stt C F1 H σ ρ ∧ Tr A σ F H ρ σ F1 H ρ ∧ RSB C F1 H v b ∧ (∀ o, b ≠ .io o) ∧ (∀ a, b.obj.isSome = true → v = .ref a → ¬ Owns σ ρ a ∧ a ∈ A ∧ H a ≠ none) ∧ ∀ a, a ∉ A → F1 a = F a := by
  cases x with
  | tp bs =>
    obtain ⟨z, _⟩ := lift_pure e
    subst z
    have e := lift_ok e
    obtain ⟨ds, e1, rfl⟩ := Option.map_eq_some_iff.mp e
    obtain ⟨S1, T1⟩ := share S fp
    cases rl with
    | tp q r =>
      exact ⟨rfl, _, S1, T1, .sh (.tup ((sub_addF fp).sqT q) (rtp_in r (sub_addF fp) (fun a m o q => by rw [addF_in m]; exact q) e1)), fun o z => (nomatch z), fun a z => (nomatch z), fun a m => addF_out m⟩
  | sh d =>
    cases e
    cases rl with
    | sh r => exact ⟨rfl, F, S, Tr.refl, .sh r, fun o z => (nomatch z), fun a z => (nomatch z), fun a _ => rfl⟩
  | ow o =>
    cases e
    cases rl with
    | ow r => exact ⟨rfl, F, S, Tr.refl, .ow r (fp.nf _ (by simp)), fun o z => (nomatch z), fun a _ z => by cases z; exact ⟨fp.no _ (by simp), by simp, fp.th _ (by simp)⟩, fun a _ => rfl⟩
  | pl i => cases e
/-- the bindings that values are given: their objects A are new -/
inductive RWs (C : Cs) (F H : Hp) : List V → List SB → List Addr → Prop
  | nil : RWs C F H [] [] []
  | sh {v : V} {d : D} {vs : List V} {bs : List SB} {A : List Addr} : Rep C F v d → RWs C F H vs bs A → RWs C F H (v :: vs) (.sh d :: bs) A
  | ow {a : Addr} {o : O} {vs : List V} {bs : List SB} {A : List Addr} : ROb C F H a o → RWs C F H vs bs A → RWs C F H (.ref a :: vs) (.ow o :: bs) (a :: A)
theorem RWs.of_tp {xs : List V} {bs : List SB} (r : RTp C F H xs bs A) : RWs C F H xs bs A := by
  induction r with
  | nil => exact .nil
  | sh r t ih => exact .sh r ih
  | ow r t ih => exact .ow r ih
theorem RWs.of_reps : ∀ {xs : List V} {ds : List D}, Reps C F xs ds → RWs C F H xs (ds.map SB.sh) []
  | _, _, .nil => .nil
  | _, _, .cons r t => .sh r (RWs.of_reps t)
theorem RWs.mono {F' H' : Hp} {xs : List V} {bs : List SB} (h : RWs C F H xs bs A) (s : Sub F F') (k : ∀ a ∈ A, ∀ o, H a = some o → H' a = some o) : RWs C F' H' xs bs A := by
  induction h with
  | nil => exact .nil
  | sh r t ih => exact .sh (r.mono s) (ih k)
  | ow r t ih => exact .ow (r.mono s (k _ List.mem_cons_self)) (ih fun a m => k a (List.mem_cons_of_mem _ m))
/-- names bound one after another -/
theorem bindSs_go {G : Ends} : ∀ {is : List Nat} {vs : List V} {bs : List SB} {A : List Addr} {σ : St} {ρ : Env}, Stt C F H σ ρ → RWs C F H vs bs A → Fp σ F H ρ A → tSR C W A F ρ (bindSs is bs) G σ H → gSlots is vs σ H G.nx
  | [], _, _, _, σ, ρ, S, .nil, fp, h => ⟨rfl, tSR_nx h σ F H Tr.refl S⟩
  | [], _, _, _, _, _, _, .sh _ _, _, h => tSR_stuck h
  | [], _, _, _, _, _, _, .ow _ _, _, h => tSR_stuck h
  | _ :: _, _, _, _, _, _, _, .nil, _, h => tSR_stuck h
  | i :: is, v :: vs, _, A, σ, ρ, S, .sh (d := d) (bs := bs) r t, fp, h => by
    have h : tSR C W A F ρ (sSeq (bindS i (.sh d)) (bindSs is bs)) G σ H := h
    obtain ⟨r', ρ', e, h⟩ := h
    unfold sSeq bind bindS at e
    cases ep : putS ρ i (.sh d) with
    | none => rw [ep] at e; cases e
    | some ρ2 =>
      rw [ep] at e
      obtain ⟨S1, T1⟩ := put_sh S r ep
      have q : tSR C W A F ρ (fun _ => bindSs is bs ρ2) G σ H := ⟨r', ρ', e, h⟩
      obtain ⟨r2, ρ2', e2, h2⟩ := tSR_from (A1 := A) (T1.hand fun _ z => nomatch z) (fun _ m => .inr (.inl m)) rfl q
      exact ⟨v, vs, rfl, bindSs_go S1 t (fp.tr T1) ⟨r2, ρ2', e2, h2⟩⟩
  | i :: is, _, _, _, σ, ρ, S, .ow (a := a) (o := o) (vs := vs) (bs := bs) (A := A) r t, fp, h => by
    have h : tSR C W (a :: A) F ρ (sSeq (bindS i (.ow o)) (bindSs is bs)) G σ H := h
    obtain ⟨r', ρ', e, h⟩ := h
    unfold sSeq bind bindS at e
    cases ep : putS ρ i (.ow o) with
    | none => rw [ep] at e; cases e
    | some ρ2 =>
      rw [ep] at e
      obtain ⟨nd1, nd2⟩ := List.nodup_cons.mp fp.nd
      obtain ⟨S1, T1⟩ := bind_slot (A := [a]) S ep (fun o z => (nomatch z)) (.ow r (fp.nf a List.mem_cons_self)) fun x _ z => by
        cases z; exact ⟨fp.no a List.mem_cons_self, List.mem_cons_self, fp.th a List.mem_cons_self⟩
      have q : tSR C W (a :: A) F ρ (fun _ => bindSs is bs ρ2) G σ H := ⟨r', ρ', e, h⟩
      obtain ⟨r2, ρ2', e2, h2⟩ := tSR_from (A1 := A) (T1.hand fun x m => by rw [List.mem_singleton.mp m]; exact List.mem_cons_self) (fun x m => .inr (.inl (List.mem_cons_of_mem _ m))) rfl q
      refine ⟨.ref a, vs, rfl, bindSs_go S1 t ⟨nd2, fun x m => fp.nf x (List.mem_cons_of_mem _ m), fun x m z => ?_, fun x m => fp.th x (List.mem_cons_of_mem _ m)⟩ ⟨r2, ρ2', e2, h2⟩⟩
      rcases T1.own x z with z | z | z
      · exact fp.no x (List.mem_cons_of_mem _ m) z
      · rw [List.mem_singleton.mp z] at m; exact nd1 m
      · exact fp.th x (List.mem_cons_of_mem _ m) z
/-- what several expressions give, as bindings -/
theorem ownBs_rel : ∀ {vs : List V} {bs : List B} {A : List Addr} {F : Hp} {sbs : List SB} {ρ2 : Env}, Stt C F H σ ρ → RBs C σ F H vs bs A → Fp σ F H ρ A → ownBs bs ρ = some (.ok sbs, ρ2) →
    ρ2 = ρ ∧ ∃ F1 A1, Stt C F1 H σ ρ ∧ Tr A σ F H ρ σ F1 H ρ ∧ RWs C F1 H vs sbs A1 ∧ Fp σ F1 H ρ A1 ∧ (∀ a ∈ A1, a ∈ A) ∧ ∀ a, a ∉ A → F1 a = F a
  | _, _, _, F, _, _, S, .nil, fp, e => by
    cases e
    exact ⟨rfl, F, [], S, Tr.refl, .nil, Fp.nil, fun a m => m, fun _ _ => rfl⟩
  | _, _, _, F, _, _, S, .cons (v := v) (b := b) (vs := vs) (bs := bs) (A := A) (A' := A') r t, fp, e => by
    obtain ⟨x, ρ3, e1, e'⟩ := bind_ok e
    obtain ⟨hρ, F1, S1, T1, r1, nio, f1, o1⟩ := own_rel2 S r fp.left e1
    rw [hρ] at e'
    obtain ⟨xs, ρ4, e2, e''⟩ := bind_ok e'
    cases e''
    obtain ⟨n1, n2, n3⟩ := List.nodup_append.mp fp.nd
    have fpr : Fp σ F1 H ρ A' := ⟨n2, fun a m => by rw [o1 a fun q => n3 a q a m rfl]; exact fp.right.nf a m, fp.right.no, fp.right.th⟩
    obtain ⟨hρ2, F2, A2, S2, T2, r2, f2, i2, o2⟩ := ownBs_rel S1 (t.mono T1.sub fun a _ o z => z) fpr e2
    have TT : Tr (A ++ A') σ F H ρ σ F2 H ρ := (T1.hand fun a m => List.mem_append_left _ m).trans (A1 := []) (fun _ z => nomatch z) (T2.hand fun a m => List.mem_append_left _ (List.mem_append_right _ m))
    have oo : ∀ a, a ∉ A ++ A' → F2 a = F a := fun a m => (o2 a fun q => m (List.mem_append_right _ q)).trans (o1 a fun q => m (List.mem_append_left _ q))
    cases r1 with
    | sh r1 => exact ⟨hρ2, F2, A2, S2, TT, .sh (r1.mono T2.sub) r2, f2, fun a m => List.mem_append_right _ (i2 a m), oo⟩
    | @ow a o r1 g1 =>
      obtain ⟨q1, q2, q3⟩ := f1 _ rfl rfl
      have na : a ∉ A' := fun m => n3 a q2 a m rfl
      refine ⟨hρ2, F2, a :: A2, S2, TT, .ow (r1.mono T2.sub fun _ z => z) r2, ⟨List.nodup_cons.mpr ⟨fun m => na (i2 a m), f2.nd⟩, fun x m => ?_, fun x m => ?_, fun x m => ?_⟩, fun x m => ?_, oo⟩
      · rcases List.mem_cons.mp m with rfl | m
        · rw [o2 x na]; exact g1
        · exact f2.nf x m
      · rcases List.mem_cons.mp m with rfl | m
        · exact q1
        · exact f2.no x m
      · rcases List.mem_cons.mp m with rfl | m
        · exact q3
        · exact f2.th x m
      · rcases List.mem_cons.mp m with rfl | m
        · exact List.mem_append_left _ q2
        · exact List.mem_append_right _ (i2 x m)
    | io r1 g1 => exact absurd rfl (nio _)
theorem bind_cases {α β : Type} {m : M α} {k : α → M β} {ρ : Env} {r : Res β} {ρ' : Env} (h : bind m k ρ = some (r, ρ')) : (∃ c p, m ρ = some (.exc c p, ρ') ∧ r = .exc c p) ∨ ∃ a ρ1, m ρ = some (.ok a, ρ1) ∧ k a ρ1 = some (r, ρ') := by
  unfold bind at h
  split at h
  · cases h
  · cases h; exact .inl ⟨_, _, by assumption, rfl⟩
  · exact .inr ⟨_, _, by assumption, h⟩
theorem ownBs_pure : ∀ {bs : List B} {ρ : Env} {r : Res (List SB)} {ρ' : Env}, ownBs bs ρ = some (r, ρ') → ρ' = ρ ∧ ∃ b, r = .ok b
  | [], ρ, r, ρ', e => by cases e; exact ⟨rfl, _, rfl⟩
  | b :: bs, ρ, r, ρ', e => by
    rcases bind_cases e with ⟨c, p, h, _⟩ | ⟨x, ρ1, h, e'⟩
    · obtain ⟨_, _, z⟩ := ownB_pure h
      cases z
    · obtain ⟨h1, _⟩ := ownB_pure h
      rcases bind_cases e' with ⟨c, p, h', _⟩ | ⟨xs, ρ2, h', e''⟩
      · obtain ⟨_, _, z⟩ := ownBs_pure h'
        cases z
      · obtain ⟨h3, _⟩ := ownBs_pure h'
        cases e''
        exact ⟨h3.trans h1, _, rfl⟩
/-- the values of a parallel assignment, then the names -/
theorem par_core {is : List Nat} {ms : M (List B)} {G : Ends} (h : tS C W (sPar is ms) G σ H) : tM C RlL W ms σ H fun vs H1 => ∃ F ρ A sbs, Stt C F H1 σ ρ ∧ RWs C F H1 vs sbs A ∧ Fp σ F H1 ρ A ∧ tSR C W A F ρ (bindSs is sbs) G σ H1 := by
  obtain ⟨F, ρ, S, h⟩ := h
  refine tSR_bind (R := RlL) S h fun vs bs A F1 H1 ρ1 T S1 rl fp nw q => ?_
  obtain ⟨sbs, eb, q⟩ := tSR_step q fun _ _ => ownBs_pure
  obtain ⟨_, F2, A2, S2, T2, r2, f2, i2, _⟩ := ownBs_rel S1 rl fp eb
  exact ⟨F2, ρ1, A2, sbs, S2, r2, f2, tSR_from (A1 := A2) (T2.hand fun z m => by rw [List.nil_append]; exact m) (fun z m => .inr (.inl (by rw [List.nil_append]; exact i2 z m))) rfl q⟩
theorem sim_par {i j : Nat} {x y : Str} {a b : Expr} {ms : M (List B)} {px py pt pos : Pos} {kt k2 pt2} (hc : X.calm = true) (hN : X.N.Nodup) (hi : X.N[i]? = some x) (hj : X.N[j]? = some y) (hij : i ≠ j) (hx : X.env.scope.names.lookup x = some .local) (hy : X.env.scope.names.lookup y = some .local)
    (ha : SimA cl X [a, b] ms) (hw : swappedStores [.Tuple [.Name x px, .Name y py] kt pt] (.Tuple [a, b] k2 pt2) X.env = pure (some [x, y])) (hs : swapsWithSole [.Tuple [.Name x px, .Name y py] kt pt] (.Tuple [a, b] k2 pt2) pos.line X.env = pure false) :
    SimS cl X (.Assign [.Tuple [.Name x px, .Name y py] kt pt] (.Tuple [a, b] k2 pt2) pos) (sPar [i, j] ms) := fun W tk => PS.imp (ps_par hc hN hi hj hij hx hy (ha W tk) hw hs) fun D σ H ⟨F, ρ, S, h⟩ => by
    obtain ⟨F0, ρ0, S0, r0⟩ := par_core ⟨F, ρ, S, h⟩
    refine ⟨F0, ρ0, S0, tR_mono r0 fun vs H1 ⟨F1, ρ1, A, sbs, S1, rw1, f1, q⟩ => ?_⟩
    obtain ⟨v, r, rfl, w, r2, rfl, rfl, q⟩ := bindSs_go S1 rw1 f1 q
    exact ⟨v, w, rfl, q⟩
/-- the same where a name is a cell: the tuple is made -/
theorem sim_parT {is : List Nat} {ts es : List Expr} {ms : M (List B)} {pt pos : Pos} {kt k2 pt2} {n : Nat} (hc : X.calm = true) (hl : is.length = n) (hlt : n ≤ 1000) (hg : PGs X ts (gSlots is)) (hn : (assignEach ts X.env).length = n) (hst : (assignEach ts X.env).findIdx? (·.1) = none)
    (ha : SimA cl X es ms) (hs : swapsWithSole [.Tuple ts kt pt] (.Tuple es k2 pt2) pos.line X.env = pure false) (hw : swappedStores [.Tuple ts kt pt] (.Tuple es k2 pt2) X.env = pure none) (h1 : (assignEach [.Tuple ts kt pt] X.env).map (·.2) = [assign (.Tuple ts kt pt) X.env]) :
    SimS cl X (.Assign [.Tuple ts kt pt] (.Tuple es k2 pt2) pos) (sPar is ms) := fun W tk => PS.imp (ps_asg (pe_tup (ha W tk)) (pg_tup hc hg hn hst) hs hw h1) fun D σ H ⟨F, ρ, S, h⟩ => by
    obtain ⟨F0, ρ0, S0, r0⟩ := par_core ⟨F, ρ, S, h⟩
    refine ⟨F0, ρ0, S0, tR_mono r0 fun vs H1 ⟨F1, ρ1, A, sbs, S1, rw1, f1, q⟩ => ?_⟩
    have lens : ∀ {is : List Nat} {vs : List V} {σ : St} {H : Hp} {Q : St → Hp → Prop}, gSlots is vs σ H Q → vs.length = is.length := fun {is} => by
      induction is with
      | nil => intro vs σ H Q h; obtain ⟨e, _⟩ := h; rw [e]; rfl
      | cons i is ih => intro vs σ H Q h; obtain ⟨v, r, rfl, h⟩ := h; simp [ih h]
    have hlen := lens (bindSs_go S1 rw1 f1 q)
    refine ⟨by rw [hlen, hl, sizeLine_eq]; omega, fun p hp => ⟨p, vs, rfl, .inl (.inl upd_same), by rw [hlen, hl], ?_⟩⟩
    obtain ⟨S2, T2, f2, n2⟩ := new_own (o := .tup vs) S1 hp
    have f3 := f1.tr T2
    exact bindSs_go S2 (rw1.mono T2.sub fun a m => f1.keep T2 m) f3 (tSR_from (A1 := A) (T2.hand fun _ z => nomatch z) (fun _ m => .inr (.inl m)) rfl q)
/-- a, b = e -/
theorem sim_unp {is : List Nat} {ts : List Expr} {e : Expr} {m : M B} {pt pos : Pos} {kt} {n : Nat} (hc : X.calm = true) (hl : is.length = n) (hg : PGs X ts (gSlots is)) (hn : (assignEach ts X.env).length = n) (hst : (assignEach ts X.env).findIdx? (·.1) = none)
    (ha : SimE cl X e m) (hs : swapsWithSole [.Tuple ts kt pt] e pos.line X.env = pure false) (hw : swappedStores [.Tuple ts kt pt] e X.env = pure none) (h1 : (assignEach [.Tuple ts kt pt] X.env).map (·.2) = [assign (.Tuple ts kt pt) X.env]) :
    SimS cl X (.Assign [.Tuple ts kt pt] e pos) (sUnp is m) := fun W tk => PS.imp (ps_asg (ha W tk) (pg_tup hc hg hn hst) hs hw h1) fun D σ H ⟨F, ρ, S, h⟩ => by
    refine tSR_bind (R := RlB) S h fun v b A F1 H1 ρ1 T S1 rl fp nw q => ?_
    have lens : ∀ {is : List Nat} {vs : List V} {σ : St} {H : Hp} {Q : St → Hp → Prop}, gSlots is vs σ H Q → vs.length = is.length := fun {is} => by
      induction is with
      | nil => intro vs σ H Q h; obtain ⟨e, _⟩ := h; rw [e]; rfl
      | cons i is ih => intro vs σ H Q h; obtain ⟨v, r, rfl, h⟩ := h; simp [ih h]
    have other : tSR (cs cl X) W ([] ++ A) F1 ρ1 (bind (kept [b]) fun ds => match ds with | [.tup vs] => bindSs is (vs.map SB.sh) | _ => stuck) D σ H1 → gTup X.K n (gSlots is) v σ H1 D.nx := fun q => by
      obtain ⟨ds, ek, q⟩ := tSR_step q fun r ρ' e => by
        unfold kept at e
        split at e
        · exact dats_pure e
        · cases e
      obtain ⟨_, nn, ed⟩ := kept_ok ek
      obtain ⟨S2, T2⟩ := share S1 fp
      have rs : RBs (cs cl X) σ F1 H1 [v] [b] (A ++ []) := .cons rl .nil
      have rp := rs.in_ (sub_addF fp) (fun a m o q => by rw [addF_in (by simpa using m)]; exact q) nn ed
      cases rp with
      | @cons _ _ d _ r1 t =>
        cases t
        cases d with
        | tup vs =>
          cases r1 with
          | tup g r =>
            have h := bindSs_go (A := []) S2 (RWs.of_reps r) Fp.nil (tSR_from (A1 := []) (T2.hand fun a m => by rw [List.nil_append]; exact m) (fun _ z => nomatch z) rfl q)
            exact ⟨_, _, rfl, S2.sub.sqT g, by rw [lens h, hl], h⟩
        | _ => exact tSR_stuck q
    cases b with
    | sh d => exact other q
    | ow o => exact other q
    | pl i => exact other q
    | tp bs =>
      cases rl with
      | tp g r =>
        have h := bindSs_go S1 (RWs.of_tp r) fp q
        exact ⟨_, _, rfl, S1.sub.sqT g, by rw [lens h, hl], h⟩
/-! ### errors -/
theorem sim_raise {e : Expr} {pos : Pos} {c : Nat} (hc : X.calm = true) (he : PMk X e (fun _ H Q => Q (.ref (cl c)) none H)) : SimS cl X (.Raise (some e) none pos) (sRaise c) := fun W tk => PS.imp (ps_raise hc tk he) fun D σ H ⟨F, ρ, S, r, ρ', e, h⟩ => by
  cases e
  exact h _ _ σ F H Tr.refl S ⟨rfl, rfl⟩
/-- the clauses of a try -/
inductive SimH (cl : Nat → Addr) (X : Cx) (n : Nat) : List ExceptHandler → List ((Nat → Bool) × WF.S) → Prop
  | nil : SimH cl X n [] []
  | cons {x : Str} {c : Value} {b₀ : Stmt} {suite : List Stmt} {np pos' : Pos} {hds : List ExceptHandler} {l : List ((Nat → Bool) × WF.S)} {t : Nat → Bool} {s : WF.S} (hc : Names X x c) (ht : ∀ k, k < n → PySem.W.exmOne X.K (.ref (cl k)) c = some (t k))
      (hsu : ∀ a pn, SimB cl (X.suite a pn) (b₀ :: suite) s) (r : SimH cl X n hds l) : SimH cl X n (.ExceptHandler (some (.Name x np)) none (b₀ :: suite) pos' :: hds) ((t, s) :: l)
inductive HdR (cl : Nat → Addr) (X : Cx) (n : Nat) : List ((Nat → Bool) × WF.S) → List (Value × (Addr → Value → Option Addr → TS)) → Prop
  | nil : HdR cl X n [] []
  | cons {c : Value} {t : Nat → Bool} {s : WF.S} {l l'} (ht : ∀ k, k < n → PySem.W.exmOne X.K (.ref (cl k)) c = some (t k)) (r : HdR cl X n l l') : HdR cl X n ((t, s) :: l) ((c, fun _ _ _ => tS (cs cl X) (fun _ _ _ _ => False) s) :: l')
theorem SimH.ok {n : Nat} {hds : List ExceptHandler} {l : List ((Nat → Bool) × WF.S)} (h : SimH cl X n hds l) : ∃ l', HdR cl X n l l' ∧ HdsOk X hds l' := by
  induction h with
  | nil => exact ⟨[], .nil, .nil⟩
  | cons hc ht hsu r ih =>
    obtain ⟨l', h1, h2⟩ := ih
    exact ⟨_, .cons ht h1, .cons hc (fun a oe cls d pn _ _ => hsu a _ _ takes0) h2⟩
/-- what a statement's outcome asks -/
def OutS (C : Cs) (W : WX) (F : Hp) (ρ : Env) (G : Ends) (σ : St) (H : Hp) (r : Res Fl) (ρ' : Env) : Prop := match r with
  | .ok .nx => ∀ σ' F' H', Tr [] σ F H ρ σ' F' H' ρ' → Stt C F' H' σ' ρ' → G.nx σ' H'
  | .ok .bk => ∀ σ' F' H', Tr [] σ F H ρ σ' F' H' ρ' → Stt C F' H' σ' ρ' → G.bk σ' H'
  | .ok .ct => ∀ σ' F' H', Tr [] σ F H ρ σ' F' H' ρ' → Stt C F' H' σ' ρ' → G.ct σ' H'
  | .ok (.rt b) => ∀ v A σ' F' H', Tr [] σ F H ρ σ' F' H' ρ' → Stt C F' H' σ' ρ' → noPl b = true → RB C σ' F' H' v b A → Fp σ' F' H' ρ' A → New [] σ H ρ A → G.rt v H'
  | .exc c p => ∀ cls d σ' F' H', Tr [] σ F H ρ σ' F' H' ρ' → Stt C F' H' σ' ρ' → REx C F' c p cls d H' → W cls d σ' H'
theorem outS_of {m : WF.S} (h : tSR C W [] F ρ m G σ H) : ∃ r ρ', m ρ = some (r, ρ') ∧ OutS C W F ρ G σ H r ρ' := h
theorem OutS.of {m : WF.S} {r : Res Fl} {ρ' : Env} (e : m ρ = some (r, ρ')) (h : OutS C W F ρ G σ H r ρ') : tSR C W [] F ρ m G σ H := ⟨r, ρ', e, h⟩
theorem OutS.late {r : Res Fl} {ρ' ρ1 : Env} {σ1 : St} {F1 H1 : Hp} (h : OutS C W F ρ G σ H r ρ') (T1 : Tr [] σ F H ρ σ1 F1 H1 ρ1) : OutS C W F1 ρ1 G σ1 H1 r ρ' := by
  cases r with
  | ok f =>
    cases f with
    | nx => exact fun σ' F' H' T' S' => h σ' F' H' (T1.trans0 T') S'
    | bk => exact fun σ' F' H' T' S' => h σ' F' H' (T1.trans0 T') S'
    | ct => exact fun σ' F' H' T' S' => h σ' F' H' (T1.trans0 T') S'
    | rt b => exact fun v A σ' F' H' T' S' np rl fp nw => h v A σ' F' H' (T1.trans0 T') S' np rl fp (New.trans T1 (A1 := []) (fun _ z => nomatch z) nw)
  | exc c p => exact fun cls d σ' F' H' T' S' x => h cls d σ' F' H' (T1.trans0 T') S' x
theorem OutS.ends {r : Fl} {ρ' : Env} {W' : WX} (h : OutS C W F ρ G σ H (.ok r) ρ') : OutS C W' F ρ G σ H (.ok r) ρ' := by
  cases r <;> exact h
theorem try_go {n c : Nat} {p : Option (Txt × D)} {cls : Value} {d : Option Addr} {r : Res Fl} {ρ' : Env} {σ1 : St} {F1 H1 : Hp} (hcn : c < n) (T1 : Tr [] σ F H ρ σ1 F1 H1 ρ1) (S1 : Stt (cs cl X) F1 H1 σ1 ρ1) (x : REx (cs cl X) F1 c p cls d H1) (h : OutS (cs cl X) W F ρ G σ H r ρ') {l l'} (hr : HdR cl X n l l') :
    tryGo c p l ρ1 = some (r, ρ') → wMany X.K W G l' cls d σ1 H1 := by
  induction hr with
  | nil =>
    intro e
    cases e
    exact h cls d σ1 F1 H1 T1 S1 x
  | @cons c' t s l l' ht hr ih =>
    intro e
    obtain ⟨rfl, x2⟩ := id x
    refine ⟨t c, ht c hcn, fun tc a ha => ?_, fun tc => ?_⟩
    · have e : (if t c then noExc s else tryGo c p l) ρ1 = some (r, ρ') := e
      rw [if_pos tc] at e
      unfold noExc at e
      split at e
      · rename_i f ρ2 es
        cases e
        exact ⟨F1, ρ1, S1, OutS.of es (h.late T1).ends⟩
      · cases e
    · have e : (if t c then noExc s else tryGo c p l) ρ1 = some (r, ρ') := e
      rw [if_neg (by rw [tc]; exact Bool.false_ne_true)] at e
      exact ih e
theorem sim_try {body : List Stmt} {h₀ : ExceptHandler} {hds : List ExceptHandler} {pos : Pos} {n : Nat} {mb : WF.S} {l : List ((Nat → Bool) × WF.S)} (hs : X.stack = X.env :: X.outer) (hf : X.env.frame = some X.env.locals)
    (hb : ∀ pn xe, PassesOwn (model X.prog X.w) X.A X.env xe → SimB cl (X.tr pn xe) body mb) (hh : SimH cl X n (h₀ :: hds) l) : SimS cl X (.Try body (h₀ :: hds) [] [] pos) (sTry n mb l) := fun W tk => by
  obtain ⟨l', hr, ok⟩ := hh.ok
  refine PS.imp (ps_try_many (tb := fun W => tS (cs cl X) W mb) hs hf tk (fun W pn xe tk' po => hb pn xe po W tk') ok) fun D σ H ⟨F, ρ, S, h⟩ => ?_
  obtain ⟨r, ρ', e, h⟩ := outS_of h
  refine ⟨F, ρ, S, ?_⟩
  unfold sTry at e
  split at e
  · rename_i c p ρ1 em
    split at e
    · rename_i hcn
      exact OutS.of em fun cls d σ1 F1 H1 T1 S1 x => try_go hcn T1 S1 x h hr e
    · cases e
  · rename_i f ρ1 em
    cases e
    exact OutS.of em h.ends
  · cases e
end
end WF

set_option Elab.async false
set_option linter.all false
set_option maxRecDepth 100000
set_option maxHeartbeats 4000000
/-! WFN: the rules in short forms, for a program that prints them. -/
namespace WF
open PySem PySem.Spec PyProof.Rows L2

/-- a name that is nothing special -/
structure Nm (x : Str) : Prop where
  d : (x == ("__debug__" : Str)) = false
  c : (x == ("__classdict__" : Str)) = false
def nmB (x : Str) : Bool := !(x == ("__debug__" : Str)) && !(x == ("__classdict__" : Str))
theorem nm_of {x : Str} (h : nmB x = true) : Nm x := by
  unfold nmB at h
  rw [Bool.and_eq_true, Bool.not_eq_true', Bool.not_eq_true'] at h
  exact ⟨h.1, h.2⟩
def plainE : Expr → Bool
  | .Starred _ _ => false
  | _ => true
theorem star_cons {e : Expr} {es : List Expr} {env : PySem.Env} (h : plainE e = true) : starEach (e :: es) env = (false, eval e env) :: starEach es env := by
  cases e <;> first | rfl | cases h
def allP : List Expr → Bool
  | [] => true
  | e :: es => plainE e && allP es
theorem star_any {pos : Pos} {env : PySem.Env} : ∀ {es : List Expr}, allP es = true → (backTo pos (starEach es env)).any (·.1) = false
  | [], _ => rfl
  | e :: es, h => by
    have h : (plainE e && allP es) = true := h
    rw [Bool.and_eq_true] at h
    rw [star_cons h.1]
    have ih := star_any (pos := pos) (env := env) h.2
    unfold backTo at ih ⊢
    rw [List.any_map] at ih
    rw [List.any_map, List.any_cons, ih]
    rfl
section
variable {cl : Nat → Addr} {X : Cx} {C : Cs} {σ : St} {F H : Hp} {ρ ρ1 : Env} {A A0 : List Addr} {W : WX}
theorem e_P (i : Nat) {x : Str} {pos : Pos} (hN : X.N[i]? = some x) (hv : Vis X.env.scope x) (n : Nm x) : SimE cl X (.Name x pos) (mP i) := sim_P hN hv n.d n.c
theorem e_V (i : Nat) {x : Str} {pos : Pos} (hN : X.N[i]? = some x) (hv : Vis X.env.scope x) (n : Nm x) : SimE cl X (.Name x pos) (mV i) := sim_V hN hv n.d n.c
/-- a name given away -/
theorem e_M (i : Nat) {x : Str} {pos : Pos} (hN : X.N[i]? = some x) (hv : Vis X.env.scope x) (n : Nm x) : SimE cl X (.Name x pos) (mMv i) :=
  fun W _ => PE.imp (pe_var hN hv n.d n.c) fun σ H Q ⟨F, ρ, S, r, ρ', e, h⟩ => by
    unfold mMv at e
    split at e
    · rename_i d hd
      cases e
      obtain ⟨v, e1, r1⟩ := S.sl i _ hd
      cases r1 with
      | sh r1 => exact ⟨v, e1, h v [] F H Tr.refl S (.sh r1) Fp.nil New.nil⟩
    · rename_i o hd
      cases e
      obtain ⟨v, e1, r1⟩ := S.sl i _ hd
      cases r1 with
      | @ow a _ r1 f =>
        have own : Owns σ ρ a := ⟨i, _, hd, rfl, e1⟩
        have un : ∀ x, Owns σ (ρ.set i none) x → Owns σ ρ x := fun x q => owns_unset (fun b z => by cases z) q
        have na : ¬ Owns σ (ρ.set i none) a := fun ⟨j, b, h1, h2, h3⟩ => by
          rcases at_set h1 with ⟨_, z, _⟩ | ⟨nj, z⟩
          · cases z
          · exact nj (S.dis j i b _ a z h2 hd rfl h3 e1)
        obtain ⟨u, hu⟩ := r1.some
        refine ⟨_, e1, h (.ref a) [a] F H ⟨Sub.refl _, fun _ _ z _ _ => z, fun _ _ _ _ z => z, fun _ z => z, fun x q => .inl (un x q), fun j w z => ?_, fun j w z => ?_⟩ ⟨S.sub, by rw [List.length_set]; exact S.len, fun j b z => ?_, fun j k b c x h1 h2 h3 h4 h5 h6 => ?_⟩ (.ow r1)
          ⟨by simp, fun x m => by rw [List.mem_singleton.mp m]; exact f, fun x m => by rw [List.mem_singleton.mp m]; exact na, fun x m => by rw [List.mem_singleton.mp m, hu]; simp⟩ fun x m => by rw [List.mem_singleton.mp m]; exact .inl own⟩
        · by_cases q : i = j
          · subst q; rw [hd] at z; cases z
          · exact ⟨⟨w, by rw [at_set_ne q]; exact z⟩, rfl⟩
        · rcases at_set z with ⟨_, q, _⟩ | ⟨_, q⟩
          · cases q
          · exact ⟨w, q⟩
        · rcases at_set z with ⟨_, q, _⟩ | ⟨_, q⟩
          · cases q
          · exact S.sl j b q
        · rcases at_set h1 with ⟨_, q, _⟩ | ⟨_, q⟩
          · cases q
          · rcases at_set h3 with ⟨_, p, _⟩ | ⟨_, p⟩
            · cases p
            · exact S.dis j k b c x q h2 p h4 h5 h6
    · cases e
/-! ### constants -/
def cstC : Const → Option D
  | .none => some .non
  | .bool b => some (.bl b)
  | .int i => some (.int i)
  | .str x => if okTb x.cps.toList then some (.str x.cps.toList) else none
  | _ => none
def cstU : Const → Option D
  | .int i => some (.int (-i))
  | _ => none
mutual
/-- the data of an expression of constants -/
def cst : Expr → Option D
  | .Constant c _ _ => cstC c
  | .UnaryOp .USub (.Constant c _ _) _ => cstU c
  | .Tuple es _ _ => if es.length ≤ 1000 then (cstL es).map D.tup else none
  | _ => none
def cstL : List Expr → Option (List D)
  | [] => some []
  | e :: es => match cst e, cstL es with
    | some d, some ds => some (d :: ds)
    | _, _ => none
end
theorem cst_plain {e : Expr} {d : D} (h : cst e = some d) : plainE e = true := by
  cases e <;> first | rfl | (unfold cst at h; cases h)
theorem mTup_const {ds : List D} (h : ds.length ≤ 1000) : mTup (ret (ds.map B.sh)) = mK (.tup ds) := by
  funext ρ
  have k : ∀ ds : List D, datsL ρ (ds.map B.sh) = some ds := fun ds => by
    induction ds with
    | nil => rfl
    | cons d ds ih => show (match (B.sh d).dat ρ, datsL ρ (ds.map B.sh) with | some d, some ds => some (d :: ds) | _, _ => none) = _; rw [ih]; rfl
  have n : (ds.map B.sh).all noPl = true := by
    rw [List.all_eq_true]
    intro b m
    obtain ⟨d, _, rfl⟩ := List.mem_map.mp m
    rfl
  have f : few (ds.map B.sh) = true := by
    unfold few
    rw [List.length_map]
    exact decide_eq_true h
  show (if few (ds.map B.sh) then bind (kept (ds.map B.sh)) fun ds => ret (B.sh (.tup ds)) else stuck) ρ = _
  rw [f, if_pos rfl]
  have e : kept (ds.map B.sh) ρ = some (.ok ds, ρ) := by
    unfold kept
    rw [n, if_pos rfl]
    show (match datsL ρ (ds.map B.sh) with | none => none | some ds => some (Res.ok ds, ρ)) = _
    rw [k]
  unfold bind
  rw [e]
  rfl
theorem mCons_const {d : D} {ds : List D} : mCons (mK d) (ret (ds.map B.sh)) = ret ((d :: ds).map B.sh) := rfl
mutual
theorem sim_cst : ∀ {e : Expr} {d : D}, cst e = some d → SimE cl X e (mK d)
  | .Constant c i p, d, h => by
    unfold cst at h
    cases c with
    | none => cases h; exact sim_non
    | bool b => cases h; exact sim_bl
    | int i => cases h; exact sim_int
    | str x =>
      have h : (if okTb x.cps.toList then some (D.str x.cps.toList) else none) = some d := h
      by_cases ho : okTb x.cps.toList = true
      · rw [if_pos ho] at h; cases h; exact sim_str rfl ho
      · rw [if_neg ho] at h; cases h
    | _ => cases h
  | .UnaryOp .USub (.Constant c i p) p2, d, h => by
    cases c with
    | int i =>
      unfold cst at h
      cases h
      have : mNeg (mK (.int i)) = mK (.int (-i)) := rfl
      rw [← this]
      exact sim_neg sim_int
    | _ => unfold cst at h; cases h
  | .Tuple es k p, d, h => by
    unfold cst at h
    split at h
    · rename_i hl
      obtain ⟨ds, e, rfl⟩ := Option.map_eq_some_iff.mp h
      have hs : SimA cl X es (ret (ds.map B.sh)) := sim_cstL e
      rw [← mTup_const (by rw [cstL_len e]; exact hl)]
      exact sim_tup hs
    · cases h
theorem sim_cstL : ∀ {es : List Expr} {ds : List D}, cstL es = some ds → SimA cl X es (ret (ds.map B.sh))
  | [], _, h => by cases h; exact sim_nil
  | e :: es, ds, h => by
    unfold cstL at h
    split at h
    · rename_i d ds' h1 h2
      cases h
      rw [← mCons_const]
      exact sim_cons (sim_cst h1) (sim_cstL h2) (star_cons (cst_plain h1))
    · cases h
theorem cstL_len : ∀ {es : List Expr} {ds : List D}, cstL es = some ds → ds.length = es.length
  | [], _, h => by cases h; rfl
  | e :: es, ds, h => by
    unfold cstL at h
    split at h
    · rename_i d ds' h1 h2
      cases h
      rw [List.length_cons, List.length_cons, cstL_len h2]
    · cases h
end
/-! ### arguments -/
theorem a_c {e : Expr} {es : List Expr} {m : M B} {ms : M (List B)} (ha : SimE cl X e m) (hr : SimA cl X es ms) (hs : plainE e = true := by rfl) : SimA cl X (e :: es) (mCons m ms) := sim_cons ha hr (star_cons hs)
theorem a_n : SimA cl X [] mNil := sim_nil
/-! ### built-ins -/
theorem e_len {e : Expr} {p pos : Pos} {m : M B} (b : Bn X "len") (ha : SimE cl X e m) (hs : plainE e = true := by rfl) : SimE cl X (.Call (.Name "len" p) [e] [] pos) (mLen m) := sim_len b ha (star_cons hs)
theorem e_int {e : Expr} {p pos : Pos} {m : M B} (b : Bn X "int") (ha : SimE cl X e m) (hs : plainE e = true := by rfl) : SimE cl X (.Call (.Name "int" p) [e] [] pos) (mInt m) := sim_int1 b ha (star_cons hs)
theorem e_tuple {e : Expr} {p pos : Pos} {m : M B} (b : Bn X "tuple") (ha : SimE cl X e m) (hs : plainE e = true := by rfl) : SimE cl X (.Call (.Name "tuple" p) [e] [] pos) (mTuple m) := sim_tuple b ha (star_cons hs)
theorem e_all {e : Expr} {p pos : Pos} {m : M B} (b : Bn X "all") (hc : X.calm = true) (ha : SimE cl X e m) (hs : plainE e = true := by rfl) : SimE cl X (.Call (.Name "all" p) [e] [] pos) (mAll m) := sim_all b hc ha (star_cons hs)
theorem e_any {e : Expr} {p pos : Pos} {m : M B} (b : Bn X "any") (hc : X.calm = true) (ha : SimE cl X e m) (hs : plainE e = true := by rfl) : SimE cl X (.Call (.Name "any" p) [e] [] pos) (mAny m) := sim_any b hc ha (star_cons hs)
theorem e_isBool {e : Expr} {p p2 pos : Pos} {m : M B} (b : Bn X "isinstance") (bt : Bn X "bool") (ha : SimE cl X e m) (hs : plainE e = true := by rfl) : SimE cl X (.Call (.Name "isinstance" p) [e, .Name "bool" p2] [] pos) (mIsA .bool m) := sim_isA .bool rfl b bt (by decide +kernel) (by decide +kernel) (by decide +kernel) ha (star_cons hs) (star_cons rfl) (star_any rfl)
theorem e_isInt {e : Expr} {p p2 pos : Pos} {m : M B} (b : Bn X "isinstance") (bt : Bn X "int") (ha : SimE cl X e m) (hs : plainE e = true := by rfl) : SimE cl X (.Call (.Name "isinstance" p) [e, .Name "int" p2] [] pos) (mIsA .int m) := sim_isA .int rfl b bt (by decide +kernel) (by decide +kernel) (by decide +kernel) ha (star_cons hs) (star_cons rfl) (star_any rfl)
theorem e_isStr {e : Expr} {p p2 pos : Pos} {m : M B} (b : Bn X "isinstance") (bt : Bn X "str") (ha : SimE cl X e m) (hs : plainE e = true := by rfl) : SimE cl X (.Call (.Name "isinstance" p) [e, .Name "str" p2] [] pos) (mIsA .str m) := sim_isA .str rfl b bt (by decide +kernel) (by decide +kernel) (by decide +kernel) ha (star_cons hs) (star_cons rfl) (star_any rfl)
theorem e_isTup {e : Expr} {p p2 pos : Pos} {m : M B} (b : Bn X "isinstance") (bt : Bn X "tuple") (ha : SimE cl X e m) (hs : plainE e = true := by rfl) : SimE cl X (.Call (.Name "isinstance" p) [e, .Name "tuple" p2] [] pos) (mIsA .tuple m) := sim_isA .tuple rfl b bt (by decide +kernel) (by decide +kernel) (by decide +kernel) ha (star_cons hs) (star_cons rfl) (star_any rfl)
theorem i_range {tg a : Expr} {p pos : Pos} {m : M B} (b : Bn X "range") (ha : SimE cl X a m) (hs : plainE a = true := by rfl) : SimI cl X tg (.Call (.Name "range" p) [a] [] pos) (itRange m) := sim_range b ha (star_cons hs) (star_cons hs)
theorem i_range2 {tg a c : Expr} {p pos : Pos} {m mc : M B} (b : Bn X "range") (ha : SimE cl X a m) (hc : SimE cl X c mc) (hs : plainE a = true := by rfl) (hs2 : plainE c = true := by rfl) : SimI cl X tg (.Call (.Name "range" p) [a, c] [] pos) (itRange2 m mc) :=
  sim_range2 b ha hc (by rw [star_cons hs, star_cons hs2]; rfl) (star_cons hs2) (star_cons hs) (star_cons hs2)
theorem i_zip {elts : List Expr} {kk : Nat} {tpos : Pos} {a c : Expr} {p pos : Pos} {m mc : M B} (b : Bn X "zip") (ha : SimE cl X a m) (hc : SimE cl X c mc) (hs : plainE a = true := by rfl) (hs2 : plainE c = true := by rfl) : SimI cl X (.Tuple elts kk tpos) (.Call (.Name "zip" p) [a, c] [] pos) (itZip m mc) :=
  sim_zip b ha hc (star_cons hs) (star_cons hs2) (star_any (es := [c]) (by show (plainE c && true) = true; rw [hs2]; rfl))
/-! ### calls -/
theorem e_call {f : Fn} {fa : Addr} {fd : FuncData} {k : Nat} {ps : List Str} {x : Str} {p pos : Pos} {e : Expr} {es : List Expr} {args : M (List B)} (Fk : FnOk X.prog X.w X.K X.mg X.base (L2.CX X.prog X.w) k fa fd ps (FSp (cs cl X) f)) (hr : Room k X.A) (hm : X.mg x = some (.ref fa))
    (hk : PySem.W.keepIn X.K (.ref fa) = true) (hb : Binds X.K fd ps []) (n : Nm x) (ha : SimA cl X (e :: es) args) (hg : Gl X x) (hs : plainE e = true := by rfl) (hp : allP es = true := by rfl) : SimE cl X (.Call (.Name x p) (e :: es) [] pos) (mCall f args) :=
  sim_call Fk hr hm hk hb ha hg n.d (star_cons hs) (star_any hp)
end
end WF

set_option Elab.async false
set_option linter.all false
set_option maxRecDepth 100000
set_option maxHeartbeats 4000000
/-! WFR: enumerate of a tuple; split; list; sorted. -/
namespace WF
open PySem PySem.Spec PyProof.Rows L2
/-! ### enumerate -/
set_option maxHeartbeats 1000000 in
theorem enum_new {v : Value} {o : Obj} {Hh : Heap → Prop} (B : Begins v o Hh) : Meets (Builtin.«enumerate.__new__» ⟨[.type "enumerate", v], []⟩) (fun _ R s => Hh s.heap ∧
      R (.ok (.ret (.ref (s.heap.push o).objs.size))) { s with heap := (s.heap.push o).push { cls := .type "enumerate", data := .fields #[.none, .bool false, .ref s.heap.objs.size, rawInt 0, .none, .none] } }) :=
  .of_wp fun prog w A R s hh => by
    obtain ⟨hp, g, d, tk, os⟩ := s
    obtain ⟨k1, hR⟩ := hh
    have sb := sub_enumerate
    have it : ∀ {A' : Around} {E : Value → Shared → Prop} {Q : Value → Shared → Prop}, Q (.ref hp.objs.size) ⟨hp.push o, g, d, tk, os⟩ → wpAny (model prog w) A' (pyIter v) Q E ⟨hp, g, d, tk, os⟩ :=
      fun q => B.iter prog w _ _ ⟨hp, g, d, tk, os⟩ _ k1 q
    wp_walk using it
    refine wpAny_stack_any fun st => wpAny_pure ?_
    split
    · rename_i c _ _ _ _ _
      cases (c == Value.type "enumerate") <;> (wp_walk using it; exact ⟨_, rfl, hR⟩)
    · wp_walk using it
      exact ⟨_, rfl, hR⟩
theorem enum_call {prog : Program} {w : World} {A : Around} {E : Value → Shared → Prop} {s : Shared} {v : Value} {o : Obj} {Hh : Heap → Prop} {Q : Value → Shared → Prop} (B : Begins v o Hh) (k1 : Hh s.heap)
    (h : ∀ h', IsEnum h' (s.heap.objs.size + 1) s.heap.objs.size 0 .none → h'.get? s.heap.objs.size = some o → h'.objs.size = s.heap.objs.size + 2 → (∀ b u, s.heap.get? b = some u → h'.get? b = some u) → Q (.ref (s.heap.objs.size + 1)) { s with heap := h' }) :
    wpAny (model prog w) A (call (.type "enumerate") [v]) Q E s := by
  refine callType_new F.called_enumerate (by decide) (F.typeCall_enumerate_1 _) (F.newCall_enumerate_1 _) (fun obj => F.args_object_init_2 obj _) F.entry_enumerate_new (enum_new B) ⟨k1, ?_⟩
  have sz : (s.heap.push o).objs.size = s.heap.objs.size + 1 := Heap.size_push ..
  show _ ∧ _
  rw [sz]
  have he := Heap.get?_push_size (s.heap.push o) (o := { cls := .type "enumerate", data := .fields #[.none, .bool false, .ref s.heap.objs.size, rawInt 0, .none, .none] }) rfl
  rw [sz] at he
  exact ⟨⟨_, he, rfl⟩, h _ he (Heap.get?_push_of_some _ (Heap.get?_push_size _ B.free)) (by rw [Heap.size_push, sz]) fun b u x => Heap.get?_push_of_some _ (Heap.get?_push_of_some _ x)⟩
/-- the tuple at a as it stands, numbered -/
def ItE (K : PySem.W.Frag) (a : Addr) : It :=
  ⟨fun i H => ∃ (xs : List V) (x : V), SqT K H a xs ∧ xs[i]? = some x, fun i H v H' => ∃ (T : Addr) (x : V), v = .ref T ∧ H T = none ∧ H' = upd H T (.tup [.int (i : Nat), x]) ∧ ∀ xs, SqT K H a xs → xs[i]? = some x, fun i H => ∃ xs : List V, SqT K H a xs ∧ xs.length = i⟩
theorem turn_enumT {P : Program} {w : World} {K : PySem.W.Frag} {elts : List Expr} {kk : Nat} {tpos : Pos} (a e it : Addr) (ha : a < it) (hae : a < e) :
    Turn P w K (.Tuple elts kk tpos) (ItE K a) [e, it] e (fun i h => (∃ old, IsEnum h e it ((i : Nat) : Int) old) ∧ h.IsTupleIter it a i ∧ e ≠ it) where
  mem := by simp
  obj := fun i h st b hb => by
    obtain ⟨⟨old, he⟩, ⟨o, ho, hc, hd⟩, _⟩ := st
    rcases (show b = e ∨ b = it by simpa using hb) with rfl | rfl
    · exact ⟨_, he, fun v z => nomatch z⟩
    · exact ⟨o, ho, fun v z => by rw [hd] at z; cases z⟩
  keep := fun i h h' st k => by
    obtain ⟨⟨old, he⟩, hi, ne⟩ := st
    exact ⟨⟨old, k e (by simp) _ he⟩, hi.at fun o q => k it (by simp) o q, ne⟩
  item := by
    intro X hP hw hK hc i pins s σ H E I hf st hg
    subst hP hw hK
    obtain ⟨⟨old, he⟩, hi, ne⟩ := st
    obtain ⟨xs, x, hq, hx⟩ := hg
    obtain ⟨us, rv, pt, _⟩ := I.tuple hq
    obtain ⟨u, hu, ru⟩ := rv.get hx
    have le : e < s.heap.objs.size := Heap.lt_size he
    have li : it < s.heap.objs.size := by obtain ⟨_, q, _⟩ := hi; exact Heap.lt_size q
    have pt' : s.heap.IsTuple a us.toArray := pt
    have hlt : i < us.toArray.size := by
      have := (List.getElem?_eq_some_iff.mp hu).1
      simpa using this
    refine wpAny_pyNext_enum_itemD (Draws.tuple (A := X.A.in1) (by show X.A.handled = none; exact I.ok.hd hc) it a (Nat.ne_of_lt ha) us.toArray) he ⟨hi, pt'⟩ hlt ne (by simp [ne, Nat.ne_of_gt hae]) fun x' h' tk hx' ho' st' hT sz kk' => ?_
    have ex : x' = u := by
      have h1 : us.toArray[i]? = some x' := hx'
      have h2 : us.toArray[i]? = some u := by simpa using hu
      rw [h2] at h1
      exact (Option.some.inj h1).symm
    subst ex
    refine ⟨_, rfl, wpAny_letOwnedTupleGo_enum (s := { s with heap := h', toks := tk + 1 }) ho' fun h2 he2 sb => ?_⟩
    have hT2 : h2.get? s.heap.objs.size = some { cls := .type "tuple", data := .seq #[.int i tk, x'] } := (sb.2 _ (Nat.ne_of_gt le)).trans hT
    have ob : ObjOk X.prog X.w (upd H s.heap.objs.size (.tup [.int (i : Nat), x])) h2 s.heap.objs.size (.tup [.int (i : Nat), x]) := ⟨by show 2 ≤ sizeLine; decide, [.int i tk, x'], .cons ⟨_, rfl⟩ (.cons ru .nil), ⟨_, hT2, rfl, _, rfl⟩⟩
    have I2 : Inv X pins σ (upd H s.heap.objs.size (.tup [.int (i : Nat), x])) { s with heap := h2, toks := tk + 1 } :=
      I.turnedNew (ch := [e, it]) (fun b u hb q => (sb.2 b fun z => hb (by simp [z])).trans (kk' b u (fun z => hb (by simp [z])) (fun z => hb (by simp [z])) q)) hf (Nat.le_refl _) ob
    refine ⟨.ref s.heap.objs.size, _, I2, rfl, ⟨_, x, rfl, I.hok.fresh (Nat.le_refl _), rfl, fun ys hy => by rw [I.tuple_inj hy hq]; exact hx⟩, ⟨⟨x', ?_⟩, st'.1.at fun o q => (sb.2 it (Ne.symm ne)).trans q, ne⟩, fun b hb => ?_⟩
    · rw [show ((i + 1 : Nat) : Int) = (i : Int) + 1 by omega]; exact he2
    · have lb : b < s.heap.objs.size := by
        rcases (show b = e ∨ b = it by simpa using hb) with rfl | rfl
        · exact le
        · exact li
      rw [upd_ne (Nat.ne_of_lt lb)]
      exact (hf b hb).1
  done := by
    intro X hP hw hK hc i pins s σ H E I hf st hg
    subst hP hw hK
    obtain ⟨⟨old, he⟩, hi, ne⟩ := st
    obtain ⟨xs, hq, hx⟩ := hg
    obtain ⟨us, rv, pt, _⟩ := I.tuple hq
    obtain ⟨f0, f1, f2, f3, f4, f5⟩ := hf it (by simp)
    have hl := rv.length
    have pt' : s.heap.IsTuple a us.toArray := pt
    have en : i = us.toArray.size := by rw [List.size_toArray]; omega
    subst en
    exact wpAny_pyNext_enum_endD (Draws.tuple (A := X.A.in1) (by show X.A.handled = none; exact I.ok.hd hc) it a (Nat.ne_of_lt ha) us.toArray) he ⟨hi, pt'⟩ fun h' eb => ⟨rfl, I.turned (t' := s.toks) (fun b o hb q => eb b o hb q) f0 f1 f3 f4 f5⟩
  self := fun A i s Q E st h => let ⟨⟨_, he⟩, _⟩ := st; wpAny_pyIter_enum he h

section
variable {cl : Nat → Addr} {X : Cx} {C : Cs} {σ : St} {F H : Hp} {ρ ρ1 : Env} {A A0 : List Addr} {W : WX}
def iEnumA (K : PySem.W.Frag) (ta : TA) : TI := fun σ H R => ta σ H fun vs H1 => ∃ a xs, vs = [.ref a] ∧ ((SqL K H1 a xs ∧ R (Ite K a) H1) ∨ (SqT K H1 a xs ∧ R (ItE K a) H1))
theorem pi_enumA {e : Expr} {ta : TA} {p pos tpos : Pos} {elts : List Expr} {kk : Nat} (hg : Gl X "enumerate") (hm : X.mg "enumerate" = none) (ha : PA X [e] ta) (hs : starEach [e] X.env = [(false, eval e X.env)]) : PI X (.Tuple elts kk tpos) (.Call (.Name "enumerate" p) [e] [] pos) (iEnumA X.K ta) := by
  refine ⟨fun pins s σ H R I h => ?_⟩
  refine Call_ (ld_blt I hg hm boot_enumerate (PyProof.Rows.callWith_type1 (thn (ha.run pos pins s σ H _ I h) fun us s1 hh => ?_) hs rfl))
  obtain ⟨vs, H1, I1, r1, a, xs, ex, q⟩ := hh
  subst ex
  obtain ⟨u, rfl, ru⟩ := vals1 r1
  obtain rfl : u = Value.ref a := ru
  have fresh2 : ∀ b ∈ [s1.heap.objs.size + 1, s1.heap.objs.size], FpOk X pins H1 b := fun b hb => by
    have le : s1.heap.objs.size ≤ b := by
      rcases (show b = s1.heap.objs.size + 1 ∨ b = s1.heap.objs.size by simpa using hb) with rfl | rfl
      · exact Nat.le_succ _
      · exact Nat.le_refl _
    exact I1.fpOk le (I1.hok.fresh le)
  rcases q with ⟨hq, q⟩ | ⟨hq, q⟩
  · obtain ⟨us, rv, pl, _⟩ := I1.list hq
    refine enum_call (begins_list a us.toArray) pl.isList fun h' he ho sz kk => wpAny_pyIter_enum he ?_
    exact ⟨_, _, _, _, H1, rfl, I1.kept (t' := s1.toks) kk, turn_enum a (s1.heap.objs.size + 1) s1.heap.objs.size, ⟨⟨.none, he⟩, ⟨_, ho, rfl, rfl⟩, Nat.succ_ne_self _⟩, fresh2, q⟩
  · obtain ⟨us, rv, pt, _⟩ := I1.tuple hq
    have pt' : s1.heap.IsTuple a us.toArray := pt
    obtain ⟨oa, hoa, _⟩ := id pt'
    have la : a < s1.heap.objs.size := Heap.lt_size hoa
    refine enum_call (begins_tuple a us.toArray) pt' fun h' he ho sz kk => wpAny_pyIter_enum he ?_
    exact ⟨_, _, _, _, H1, rfl, I1.kept (t' := s1.toks) kk, turn_enumT a (s1.heap.objs.size + 1) s1.heap.objs.size la (Nat.lt_succ_of_lt la), ⟨⟨.none, he⟩, ⟨_, ho, rfl, rfl⟩, Nat.succ_ne_self _⟩, fresh2, q⟩
theorem upto_get {n i : Nat} (h : i < n) : (upto n)[i]? = some (.int (i : Nat)) := by
  unfold upto
  simp [h]
theorem enumD_len (xs : List D) : (zipD (upto xs.length) xs).length = xs.length := by
  rw [zipD_len]
  unfold upto
  simp
theorem gives_enum {F : Hp} {a : Addr} {xs : List V} {ds : List D} (h : SqL C.K F a xs) (r : Reps C F xs ds) : Gives C F (Ite C.K a) (zipD (upto ds.length) ds) := by
  have l1 := r.length
  refine ⟨fun i H hi s => ?_, fun H s => ?_, fun i H v H' hi s y => ?_⟩
  · rw [enumD_len] at hi
    obtain ⟨x, ex⟩ := len_idx (i := i) l1 hi
    exact ⟨xs, x, s.sqL h, ex⟩
  · rw [enumD_len]
    exact ⟨xs, s.sqL h, by omega⟩
  · rw [enumD_len] at hi
    obtain ⟨T, x, e1, e2, e3, e4⟩ := y
    obtain ⟨d, p1, p2⟩ := reps_idx r (e4 xs (s.sqL h))
    exact ⟨_, zipD_get (upto_get hi) p1, .inr ⟨T, [.int (i : Nat), x], [.int (i : Nat), d], e1, e2, e3, rfl, .cons (.int _) (.cons p2 .nil)⟩⟩
theorem gives_enumT {F : Hp} {a : Addr} {xs : List V} {ds : List D} (h : SqT C.K F a xs) (r : Reps C F xs ds) : Gives C F (ItE C.K a) (zipD (upto ds.length) ds) := by
  have l1 := r.length
  refine ⟨fun i H hi s => ?_, fun H s => ?_, fun i H v H' hi s y => ?_⟩
  · rw [enumD_len] at hi
    obtain ⟨x, ex⟩ := len_idx (i := i) l1 hi
    exact ⟨xs, x, s.sqT h, ex⟩
  · rw [enumD_len]
    exact ⟨xs, s.sqT h, by omega⟩
  · rw [enumD_len] at hi
    obtain ⟨T, x, e1, e2, e3, e4⟩ := y
    obtain ⟨d, p1, p2⟩ := reps_idx r (e4 xs (s.sqT h))
    exact ⟨_, zipD_get (upto_get hi) p1, .inr ⟨T, [.int (i : Nat), x], [.int (i : Nat), d], e1, e2, e3, rfl, .cons (.int _) (.cons p2 .nil)⟩⟩
theorem i_enum {elts : List Expr} {kk : Nat} {tpos : Pos} {a : Expr} {p pos : Pos} {m : M B} (b : Bn X "enumerate") (ha : SimE cl X a m) (hs : plainE a = true := by rfl) : SimI cl X (.Tuple elts kk tpos) (.Call (.Name "enumerate" p) [a] [] pos) (itEnum m) := fun W tk =>
  PI.imp (pi_enumA b.gl b.mg (pa_cons (ha W tk) pa_nil (star_cons hs)) (star_cons hs)) fun σ H R ⟨F, ρ, S, h⟩ => by
    refine tM_bind (R1 := RlB) S h fun x b A F1 H1 ρ1 T1 S1 r1 f1 n1 h1 => ?_
    obtain ⟨d, F2, S2, rd, sb, h2⟩ := kept1 S1 r1 f1 h1
    obtain ⟨ds, e, q⟩ := tR_end h2
    cases d with
    | tup xs =>
      cases e
      cases rd with
      | tup g r => exact ⟨_, _, rfl, .inr ⟨S2.sub.sqT g, q _ [] F2 H1 Tr.refl S2 ⟨gives_enumT g r, rfl⟩ Fp.nil New.nil⟩⟩
    | lst xs =>
      cases e
      cases rd with
      | lst g r => exact ⟨_, _, rfl, .inl ⟨S2.sub.sqL g, q _ [] F2 H1 Tr.refl S2 ⟨gives_enum g r, rfl⟩ Fp.nil New.nil⟩⟩
    | _ => cases e
/-! ### list(x) -/
theorem reps_keys {F : Hp} : ∀ {xs : List (Key × V)} {kvs : List (D × D)}, RepS C F xs kvs → Reps C F (xs.map fun kv => kV kv.1) (kvs.map (·.1))
  | _, _, .nil => .nil
  | _, _, .cons o r z => .cons (.str _ o) (reps_keys z)
theorem call_listX (hc : X.calm = true) : CallR X (.type "list") (fun xs H Q => (∃ p ys, xs = [.ref p] ∧ (SqL X.K H p ys ∨ SqT X.K H p ys) ∧ ∀ l, H l = none → Q (.ref l) (upd H l (.lst ys))) ∨
    ∃ (a : Addr) (kvs : List (Key × V)), xs = [.ref a] ∧ Rd H a (.dK kvs) ∧ ∀ p, H p = none → Q (.ref p) (upd H p (.lst (kvs.map fun kv => kV kv.1)))) :=
  fun pins s σ H xs us Q I r h => h.elim (call_list_of pins s σ H xs us Q I r) (call_listD hc pins s σ H xs us Q I r)
theorem od_list : Od1 C (fun xs H Q => (∃ p ys, xs = [.ref p] ∧ (SqL C.K H p ys ∨ SqT C.K H p ys) ∧ ∀ l, H l = none → Q (.ref l) (upd H l (.lst ys))) ∨
    ∃ (a : Addr) (kvs : List (Key × V)), xs = [.ref a] ∧ Rd H a (.dK kvs) ∧ ∀ p, H p = none → Q (.ref p) (upd H p (.lst (kvs.map fun kv => kV kv.1)))) iList := by
  intro σ F H ρ A0 x d b Q S v e q
  unfold iList at e
  split at e
  · cases e
    obtain ⟨a, xs, rfl, g, r⟩ := v.tup
    exact .inl ⟨a, xs, rfl, .inr (S.sub.sqT g), fun l hl => q.lst S r hl⟩
  · cases e
    obtain ⟨a, xs, rfl, g, r⟩ := v.lst S.sub
    exact .inl ⟨a, xs, rfl, .inl g, fun l hl => q.lst S r hl⟩
  · cases e
    obtain ⟨a, xs, rfl, g, r⟩ := v.dicS S.sub
    exact .inr ⟨a, xs, rfl, .inl g, fun l hl => q.lst S (reps_keys r) hl⟩
  · cases e
theorem e_list {e : Expr} {p pos : Pos} {m : M B} (hc : X.calm = true) (b : Bn X "list") (ha : SimE cl X e m) (hs : plainE e = true := by rfl) : SimE cl X (.Call (.Name "list" p) [e] [] pos) (mList m) :=
  sim_c1 (call_listX hc) od_list b.gl b.mg (by decide +kernel) ha (by decide) (by decide) (star_cons hs)
/-! ### split -/
theorem splitT_ne (c : Nat) : ∀ x : Txt, ∃ y r, splitT c x = y :: r
  | [] => ⟨_, _, rfl⟩
  | a :: x => by
    unfold splitT
    by_cases h : a = c
    · rw [if_pos h]; exact ⟨_, _, rfl⟩
    · rw [if_neg h]
      obtain ⟨y, r, e⟩ := splitT_ne c x
      rw [e]
      exact ⟨_, _, rfl⟩
theorem spl_one (c : Nat) : ∀ (x acc : Txt) {y : Txt} {r : List Txt}, splitT c x = y :: r → TL.spl [c] 0 acc x = (acc ++ y) :: r
  | [], acc, y, r, h => by
    cases h
    rw [TL.spl_nil, List.append_nil]
  | a :: x, acc, y, r, h => by
    unfold splitT at h
    by_cases e : a = c
    · rw [if_pos e] at h
      cases h
      subst e
      rw [TL.spl_hit (by simp [TL.pre])]
      obtain ⟨y, r, e⟩ := splitT_ne a x
      have := spl_one a x [] e
      rw [show ([a] : List Nat).length - 1 = 0 from rfl, this, e, List.append_nil]
      rfl
    · rw [if_neg e] at h
      obtain ⟨y', r', e'⟩ := splitT_ne c x
      rw [e'] at h
      cases h
      rw [TL.spl_miss (by simp [TL.pre, e]), spl_one c x _ e', List.append_assoc]
      rfl
theorem splitT_ok (c : Nat) : ∀ {x : Txt}, ∀ y ∈ splitT c x, (∀ z ∈ y, z ∈ x) ∧ y.length ≤ x.length
  | [], y, m => by
    have : y = [] := by simpa [splitT] using m
    subst this
    exact ⟨fun z m => (nomatch m), Nat.le_refl _⟩
  | a :: x, y, m => by
    unfold splitT at m
    by_cases e : a = c
    · rw [if_pos e] at m
      rcases List.mem_cons.mp m with rfl | m
      · exact ⟨fun z m => (nomatch m), Nat.zero_le _⟩
      · obtain ⟨h1, h2⟩ := splitT_ok c y m
        exact ⟨fun z m => List.mem_cons_of_mem _ (h1 z m), by rw [List.length_cons]; omega⟩
    · rw [if_neg e] at m
      obtain ⟨y', r', e'⟩ := splitT_ne c x
      rw [e'] at m
      rcases List.mem_cons.mp m with rfl | m
      · obtain ⟨h1, h2⟩ := splitT_ok c y' (by rw [e']; exact List.mem_cons_self)
        refine ⟨fun z m => ?_, by rw [List.length_cons, List.length_cons]; omega⟩
        rcases List.mem_cons.mp m with rfl | m
        · exact List.mem_cons_self
        · exact List.mem_cons_of_mem _ (h1 z m)
      · obtain ⟨h1, h2⟩ := splitT_ok c y (by rw [e']; exact List.mem_cons_of_mem _ m)
        exact ⟨fun z m => List.mem_cons_of_mem _ (h1 z m), by rw [List.length_cons]; omega⟩
theorem reps_strs {F : Hp} : ∀ {ts : List Txt}, (∀ t ∈ ts, okT t) → Reps C F ((ts.map mkS).map V.str) (ts.map D.str)
  | [], _ => .nil
  | t :: ts, h => .cons (.str t (h t List.mem_cons_self)) (reps_strs fun u m => h u (List.mem_cons_of_mem _ m))
theorem split_eq {s : Txt} {c : Nat} (hc : c < 256) : Txt.split (mkS s) (mkS [c]) = (splitT c s).map mkS := by
  obtain ⟨y, r, e⟩ := splitT_ne c s
  have h := SX.split_S (a := s) (b := [c]) (by simp) (by simp [hc])
  have e2 := spl_one c s [] e
  rw [List.nil_append] at e2
  rw [e, ← e2]
  exact h
theorem e_split {o e : Expr} {ap cp : Pos} {mo me : M B} (ho : SimE cl X o mo) (ha : SimE cl X e me) (hs : plainE e = true := by rfl) (hbase : attributeBase o "split" X.env (eval o X.env) = eval o X.env := by rfl) (hline : (ap.endLine == cp.line) = true := by rfl) : SimE cl X (.Call (.Attribute o "split" ap) [e] [] cp) (mSplit mo me) := fun W tk =>
  PE.imp (pe_m1 F.slot_str_split F.type_str_split mt_split (ho W tk) (ha W tk) (star_cons hs) hbase hline) fun σ H Q ⟨F, ρ, S, h⟩ => by
    refine tM_bind (R1 := RlB) S h fun x b A F1 H1 ρ1 T1 S1 r1 f1 n1 h1 => ?_
    cases b with
    | sh d =>
      cases d with
      | str s =>
        cases r1 with
        | sh r1 =>
          cases r1 with
          | str _ o1 =>
            refine ⟨⟨_, rfl⟩, one_bind S1 h1 fun y e F2 H2 ρ2 S2 w q => ?_⟩
            obtain ⟨b, eb, q⟩ := tR_end q
            unfold iSplit at eb
            split at eb
            · rename_i s' c es
              cases es
              split at eb
              · rename_i hh
                cases eb
                obtain ⟨h1, h2⟩ := dec_and hh
                obtain ⟨rfl, o2⟩ := w.str
                refine ⟨mkS s, mkS [c], rfl, rfl, by rw [mkS_len]; rfl, by rw [mkS_len, ← lim_eq]; exact h1, fun p hp => ?_⟩
                rw [split_eq h2]
                exact q.lst S2 (reps_strs fun t m => by
                  obtain ⟨k1, k2⟩ := splitT_ok c t m
                  exact ⟨fun z mz => o1.1 z (k1 z mz), Nat.le_trans k2 o1.2⟩) hp
              · cases eb
            · cases eb
      | _ => exact tR_stuck h1
    | _ => exact tR_stuck h1
/-! ### sorted -/
mutual
theorem toks_py : ∀ d : D, PySem.W.keyToks (toPy d) = D.toks d
  | .non => rfl
  | .bl _ => rfl
  | .int _ => rfl
  | .str s => by show [Sum.inr (mkS s).cps.toList] = [Sum.inr s]; rw [mkS_get]
  | .tup xs => by show PySem.W.keyToksAll (toPys xs) = D.toksL xs; exact toksL_py xs
  | .lst xs => by show PySem.W.keyToksAll (toPys xs) = D.toksL xs; exact toksL_py xs
  | .dic _ _ => rfl
theorem toksL_py : ∀ ds : List D, PySem.W.keyToksAll (toPys ds) = D.toksL ds
  | [] => rfl
  | d :: ds => by show Sum.inl 1 :: (PySem.W.keyToks (toPy d) ++ PySem.W.keyToksAll (toPys ds)) = Sum.inl 1 :: (D.toks d ++ D.toksL ds); rw [toks_py d, toksL_py ds]
end
mutual
theorem like_py : ∀ d e : D, D.like d e = true → PySem.W.alike (toPy d) (toPy e) = true
  | .non, e, h => by cases e <;> first | rfl | cases h
  | .bl _, e, h => by cases e <;> first | rfl | cases h
  | .int _, e, h => by cases e <;> first | rfl | cases h
  | .str _, e, h => by cases e <;> first | rfl | cases h
  | .tup xs, e, h => by
    cases e with
    | tup ys => show PySem.W.alikeAll (toPys xs) (toPys ys) = true; exact likeL_py xs ys h
    | _ => cases h
  | .lst xs, e, h => by
    cases e with
    | lst ys => show PySem.W.alikeAll (toPys xs) (toPys ys) = true; exact likeL_py xs ys h
    | _ => cases h
  | .dic _ _, e, h => by cases e <;> cases h
theorem likeL_py : ∀ ds es : List D, D.likeL ds es = true → PySem.W.alikeAll (toPys ds) (toPys es) = true
  | [], [], _ => rfl
  | [], _ :: _, _ => rfl
  | _ :: _, [], _ => rfl
  | d :: ds, e :: es, h => by
    have h : (D.like d e && D.likeL ds es) = true := h
    rw [Bool.and_eq_true] at h
    show (PySem.W.alike (toPy d) (toPy e) && PySem.W.alikeAll (toPys ds) (toPys es)) = true
    rw [like_py d e h.1, likeL_py ds es h.2]
    rfl
end
theorem lex_py : ∀ a b : List (Int ⊕ Txt), PyProof.Rows.lexLt PyProof.Rows.itemOrd a b = lexD a b
  | [], [] => rfl
  | [], _ :: _ => rfl
  | _ :: _, [] => rfl
  | x :: r, y :: t => by
    have ih := lex_py r t
    have e : ∀ p q : Int ⊕ Txt, PyProof.Rows.itemLt p q = tokLt p q := fun p q => by cases p <;> cases q <;> rfl
    show (PyProof.Rows.itemLt x y || (!PyProof.Rows.itemLt y x && PyProof.Rows.lexLt PyProof.Rows.itemOrd r t)) = (tokLt x y || (!tokLt y x && lexD r t))
    rw [e, e, ih]
theorem le_py : (PySem.W.dataLe false toPy : D → D → Bool) = leD := by
  funext x y
  rw [PySem.W.dataLe_eq]
  show (!PySem.W.dataLt (toPy y) (toPy x)) = !lexD y.toks x.toks
  unfold PySem.W.dataLt
  rw [lex_py, toks_py, toks_py]
theorem each_of {Hh : Hp} {s : Shared} {pins : List (Addr × Obj)} (I : Inv X pins σ H s) (S : Sub F H) : ∀ {xs : List V} {ds : List D} {us : List Value}, Vals xs us → Reps (cs cl X) F xs ds → D.deps ds ≤ 60 →
    PySem.W.EachIs (fun u d => ∃ x, RelV x u ∧ Rep (cs cl X) F x d) us ds ∧ PySem.W.EachIs (fun u d => ∃ as, Reads s.heap u (toPy d) as) us ds
  | _, _, _, .nil, .nil, _ => ⟨.nil, .nil⟩
  | _, d :: ds, _, .cons rv t, .cons r q, h => by
    have h' : max (D.dep d) (D.deps ds) ≤ 60 := h
    obtain ⟨h1, h2⟩ := each_of (Hh := Hh) I S t q (by omega)
    obtain ⟨as, ra⟩ := Dp.reads I (toPy d) _ _ (dp_py (r.mono S) (by omega)) rv
    exact ⟨.cons ⟨_, rv, r⟩ h1, .cons ⟨as, ra⟩ h2⟩
theorem each_back : ∀ {us : List Value} {ds : List D}, PySem.W.EachIs (fun u d => ∃ x, RelV x u ∧ Rep C F x d) us ds → ∃ xs, Vals xs us ∧ Reps C F xs ds
  | _, _, .nil => ⟨[], .nil, .nil⟩
  | _, _, .cons ⟨x, rv, r⟩ t => by
    obtain ⟨xs, h1, h2⟩ := each_back t
    exact ⟨x :: xs, .cons rv h1, .cons r h2⟩
theorem depth_of {ds : List D} (h : D.deps ds ≤ 60) : ∀ d ∈ ds, (toPy d).depth ≤ 60 := by
  induction ds with
  | nil => intro d m; cases m
  | cons x ds ih =>
    have h' : max (D.dep x) (D.deps ds) ≤ 60 := h
    intro d m
    rcases List.mem_cons.mp m with rfl | m
    · rw [dep_py d (by omega)]; omega
    · exact ih (by omega) d m
theorem sortable_of {ds : List D} (h : (ds.all isTupC || ds.all isOther) = true) (nd : D.deps ds ≤ 60) : PySem.W.Sortable (ds.map toPy) := by
  rw [Bool.or_eq_true] at h
  rcases h with h | h
  · refine .inl fun p m => ?_
    obtain ⟨d, md, rfl⟩ := List.mem_map.mp m
    have := List.all_eq_true.mp h d md
    cases d with
    | tup xs =>
      cases xs with
      | nil => cases this
      | cons x r => exact ⟨toPy x, toPys r, rfl⟩
    | _ => cases this
  · refine .inr fun p m => ?_
    obtain ⟨d, md, rfl⟩ := List.mem_map.mp m
    have := List.all_eq_true.mp h d md
    cases d <;> first | (cases this; done) | exact ⟨by simp [toPy], by simp [toPy]⟩
def rSortD (cl : Nat → Addr) (X : Cx) : List V → Hp → VK → Prop := fun vs H Q => ∃ (a : Addr) (F : Hp) (xs : List V) (ds : List D), vs = [.ref a] ∧ SqL X.K H a xs ∧ Sub F H ∧ Reps (cs cl X) F xs ds ∧ canSort ds = true ∧
  ∀ ys p, Reps (cs cl X) F ys (ds.mergeSort leD) → H p = none → Q (.ref p) (upd H p (.lst ys))
theorem cr_sortD (hu : Hu X) : CallR X (.builtin "sorted") (rSortD cl X) := by
  intro pins s σ H vs us Q I r h
  obtain ⟨a, F, xs, ds, rfl, g, sb, rs, hc, q⟩ := h
  obtain ⟨u, rfl, ru⟩ := vals1 r
  obtain rfl : u = Value.ref a := ru
  obtain ⟨its, rv, pl, hz⟩ := I.list g
  unfold canSort at hc
  rw [Bool.and_eq_true, Bool.and_eq_true] at hc
  obtain ⟨⟨h1, h2⟩, h3⟩ := hc
  have h3 := of_decide_eq_true h3
  obtain ⟨e1, e2⟩ := each_of (Hh := H) I sb rv rs h3
  have hl : ds.length = its.length := by rw [← rs.length, rv.length]
  have hz : its.length ≤ sizeLine := by rw [← rv.length]; exact hz
  refine PySem.W.sorted_data (enc := toPy) pl.isList e1 e2 (fun p mp p' mp' => ?_) (sortable_of h2 h3) (by rw [hl]; exact hz) (fun d md => ?_) fun out hlen ho => ?_
  · obtain ⟨d, md, rfl⟩ := List.mem_map.mp mp
    obtain ⟨d', md', rfl⟩ := List.mem_map.mp mp'
    exact like_py d d' (List.all_eq_true.mp (List.all_eq_true.mp h1 d md) d' md')
  · have := depth_of h3 d md
    have hu' : X.A.units + 65 < cLine := hu
    omega
  · rw [le_py] at ho
    obtain ⟨ys, v1, r1⟩ := each_back ho
    obtain ⟨n, hn⟩ := sortedAll_at s.heap its out.toArray
    have hy : ys.length ≤ sizeLine := by rw [v1.length, hlen, hl]; exact hz
    exact ⟨.ref (s.heap.objs.size + 1), upd H (s.heap.objs.size + 1) (.lst ys), I.laid (t' := s.toks) (fun b o z => sortedAll_old z) (Nat.le_succ _) ⟨hy, out, n, v1, hn⟩, rfl, q ys _ r1 (I.hok.fresh (Nat.le_succ _))⟩
/-! sorted of a dict of texts -/
theorem mkS_back (x : Str) : mkS x.cps.toList = x := by cases x; simp [mkS]
theorem cps_mkS (t : Txt) : (mkS t).cps.toList = t := by simp [mkS]
theorem sortedS_pw : ∀ {ys : List Str}, sortedS ys = true → ys.Pairwise fun a b => a.cps.toList ≤ b.cps.toList := by
  have go : ∀ (ys : List Str) (x : Str), risingS x ys = true → (x :: ys).Pairwise fun a b => a.cps.toList ≤ b.cps.toList := by
    intro ys
    induction ys with
    | nil => intro x _; exact List.pairwise_singleton _ _
    | cons y r ih =>
      intro x h
      have h : (!ltCps y.cps.toList x.cps.toList && risingS y r) = true := h
      rw [Bool.and_eq_true, Bool.not_eq_true', ltCps_eq, decide_eq_false_iff_not] at h
      have t := ih y h.2
      refine List.pairwise_cons.mpr ⟨fun z m => ?_, t⟩
      have hxy : x.cps.toList ≤ y.cps.toList := h.1
      rcases List.mem_cons.mp m with rfl | m
      · exact hxy
      · exact List.le_trans hxy (List.rel_of_pairwise_cons t m)
  intro ys h
  cases ys with
  | nil => exact List.Pairwise.nil
  | cons x r => exact go r x h
theorem strL_keys {F : Hp} : ∀ {xs : List (Key × V)} {kvs : List (D × D)}, RepS C F xs kvs → ∃ ts : List Txt, strL (kvs.map (·.1)) = some ts ∧ xs.map (·.1) = (ts.map mkS).map Sum.inr ∧ ∀ t ∈ ts, okT t
  | _, _, .nil => ⟨[], rfl, rfl, fun _ m => nomatch m⟩
  | _, _, .cons (s := s) o r z => by
    obtain ⟨ts, e1, e2, e3⟩ := strL_keys z
    refine ⟨s :: ts, ?_, ?_, fun t m => ?_⟩
    · show (strL (List.map (fun p : D × D => p.1) _)).map _ = _
      rw [e1]; rfl
    · rw [List.map_cons, e2]; rfl
    · rcases List.mem_cons.mp m with rfl | m
      · exact o
      · exact e3 t m
theorem sort_uniq {ts : List Txt} {ys : List Str} (p : ys.Perm (ts.map mkS)) (h : sortedS ys = true) : ys = (ts.mergeSort leS).map mkS := by
  have q1 : (ys.map fun y => y.cps.toList).Perm ts := by
    have := p.map fun y => y.cps.toList
    rw [List.map_map] at this
    have e : ((fun y : Str => y.cps.toList) ∘ mkS) = id := funext fun t => cps_mkS t
    rw [e, List.map_id] at this
    exact this
  have q2 : (ys.map fun y => y.cps.toList).Pairwise (· ≤ ·) := List.pairwise_map.mpr (sortedS_pw h)
  have q3 : (ts.mergeSort leS).Pairwise (· ≤ ·) := by
    have := List.pairwise_mergeSort (le := leS) (fun a b c h1 h2 => decide_eq_true (List.le_trans (of_decide_eq_true h1) (of_decide_eq_true h2))) (fun a b => by
      unfold leS
      rcases List.le_total a b with h | h
      · rw [decide_eq_true h]; rfl
      · rw [decide_eq_true h, Bool.or_true]) ts
    exact this.imp fun h => of_decide_eq_true h
  have e := List.Perm.eq_of_pairwise (le := fun a b : Txt => a ≤ b) (fun a b _ _ h h' => List.le_antisymm h h') q2 q3 (q1.trans (List.mergeSort_perm ts leS).symm)
  rw [← e, List.map_map]
  have e2 : (mkS ∘ fun y : Str => y.cps.toList) = id := funext fun t => mkS_back t
  rw [e2, List.map_id]
theorem reps_str {F : Hp} : ∀ {ts : List Txt}, (∀ t ∈ ts, okT t) → Reps C F ((ts.map mkS).map V.str) (ts.map D.str)
  | [], _ => .nil
  | t :: ts, h => .cons (.str t (h t List.mem_cons_self)) (reps_str fun u m => h u (List.mem_cons_of_mem _ m))
abbrev rSortX (cl : Nat → Addr) (X : Cx) : List V → Hp → VK → Prop := fun vs H Q => rSortD cl X vs H Q ∨ ∃ (a : Addr) (kvs : List (Key × V)) (ks : List Str), vs = [.ref a] ∧ Rd H a (.dK kvs) ∧ kvs.map (·.1) = ks.map Sum.inr ∧ ks.length < 64 ∧
    ∀ ys p, ys.Perm ks → sortedS ys = true → H p = none → Q (.ref p) (upd H p (.lst (ys.map V.str)))
theorem e_sorted {e : Expr} {p pos : Pos} {m : M B} (hc : X.calm = true) (b : Bn X "sorted") (hu : Hu X) (ha : SimE cl X e m) (hs : plainE e = true := by rfl) : SimE cl X (.Call (.Name "sorted" p) [e] [] pos) (mSorted m) := by
  have cr : CallR X (.builtin "sorted") (rSortX cl X) := fun pins s σ H xs us Q I r h => h.elim (cr_sortD hu pins s σ H xs us Q I r) (call_sortedD hc pins s σ H xs us Q I r)
  refine sim_b1 cr ?_ b.gl b.mg (by decide +kernel) ha (by decide) (by decide) (star_cons hs)
  intro σ F H ρ A0 x d b Q S v e q
  unfold iSorted at e
  split at e
  · split at e
    · rename_i xs hc
      cases e
      obtain ⟨a, vs, rfl, g, r⟩ := v.lst S.sub
      exact .inl ⟨a, F, vs, xs, rfl, g, S.sub, r, hc, fun ys p ry hp => q.lst S ry hp⟩
    · cases e
  · rename_i kvs
    obtain ⟨a, xs, rfl, g, r⟩ := v.dicS S.sub
    obtain ⟨ts, e1, e2, e3⟩ := strL_keys r
    rw [e1] at e
    dsimp only at e
    split at e
    · rename_i hl
      cases e
      refine .inr ⟨a, xs, ts.map mkS, rfl, .inl g, e2, by rw [List.length_map]; exact hl, fun ys p hp hs hn => ?_⟩
      rw [sort_uniq hp hs]
      exact q.lst S (reps_str fun t m => e3 t ((List.mergeSort_perm ts leS).mem_iff.mp m)) hn
    · cases e
  · cases e
end
end WF

set_option Elab.async false
set_option linter.all false
set_option maxRecDepth 100000
set_option maxHeartbeats 4000000
/-! WFS: more rules in short forms. -/
namespace WF
open PySem PySem.Spec PyProof.Rows L2
section
variable {cl : Nat → Addr} {X : Cx} {C : Cs} {σ : St} {F H : Hp} {ρ ρ1 : Env} {A A0 : List Addr} {W : WX}
theorem hu_room {k : Nat} {A : Around} (hr : Room k A) : A.units + 65 < cLine := by have := hr.un; omega
theorem e_isLst {e : Expr} {p p2 pos : Pos} {m : M B} (b : Bn X "isinstance") (bt : Bn X "list") (ha : SimE cl X e m) (hs : plainE e = true := by rfl) : SimE cl X (.Call (.Name "isinstance" p) [e, .Name "list" p2] [] pos) (mIsA .list m) := sim_isA .list rfl b bt (by decide +kernel) (by decide +kernel) (by decide +kernel) ha (star_cons hs) (star_cons rfl) (star_any rfl)
theorem fn_none {P : Program} {w : World} {K : PySem.W.Frag} {mg : Str → Option Value} {base : Heap} {CX : CXT} {k : Nat} {f : Addr} {fd : FuncData} {ps : List Str} : FnOk P w K mg base CX k f fd ps (FSp C fun _ => none) :=
  ⟨fun vs H Q E h => (by obtain ⟨_, _, _, _, e, _⟩ := h; cases e), fun A outer s H args us vs Q E hr e0 hb r h => (by obtain ⟨_, _, _, _, e, _⟩ := h; cases e)⟩
theorem e_call0 {f : Fn} {fa : Addr} {fd : FuncData} {k : Nat} {ps : List Str} {x : Str} {p pos : Pos} (Fk : FnOk X.prog X.w X.K X.mg X.base (L2.CX X.prog X.w) k fa fd ps (FSp (cs cl X) f)) (hr : Room k X.A) (hm : X.mg x = some (.ref fa))
    (hk : PySem.W.keepIn X.K (.ref fa) = true) (hb : Binds X.K fd ps []) (n : Nm x) (hg : Gl X x) : SimE cl X (.Call (.Name x p) [] [] pos) (mCall f mNil) := fun W tk =>
  PE.imp (t := fun σ H Q => FSp (cs cl X) f [] H Q (WE W σ)) ⟨fun pins s σ H Q I h => wpAny_Call_Name_kw (ld_glob I hg hm (PySem.W.callWith_K0 I.kIn hk (run_fnS (us := []) Fk hr hb (passAt tk σ) I .nil h)) n.d)⟩ fun σ H Q h => by
    obtain ⟨F, ρ, S, h⟩ := call_sp h
    exact tR_ret h [] [] F H Tr.refl S .nil Fp.nil New.nil
/-- a comprehension's target -/
theorem tg_one {i : Nat} {tg : Expr} {bx : Shared → Hp → Addr → List (Str × Addr) → List Addr → Cx} (h : ∀ s H c cells fp, PG (bx s H c cells fp) tg (gName i)) : ∃ g : TG, (∀ s H c cells fp, PG (bx s H c cells fp) tg g) ∧ ∀ {σ : St} {F H : Hp} {ρ ρ1 : Env} {v : V} {d : D} {Q : St → Hp → Prop}, Stt C F H σ ρ → Rep C F v d → putTg ρ (.one i) d = some ρ1 →
      (∀ σ2, Stt C F H σ2 ρ1 → Tr [] σ F H ρ σ2 F H ρ1 → (∀ ks : List Nat, (∀ j ∈ (Tg.one i).slots, j ∈ ks) → wipe σ2 ks = wipe σ ks) → Q σ2 H) → g v σ H Q :=
  ⟨gName i, h, fun {σ F H ρ ρ1 v d Q} S r e k => by
    obtain ⟨S1, T1⟩ := put_sh S r (show putS ρ i (.sh d) = some ρ1 from e)
    exact k _ S1 T1 fun ks h => wipe_set (h i (by simp [Tg.slots]))⟩
theorem tg_tup {is : List Nat} {tg : Expr} {bx : Shared → Hp → Addr → List (Str × Addr) → List Addr → Cx} (n : Nat) (hl : is.length = n) (h : ∀ s H c cells fp, PG (bx s H c cells fp) tg (gTup C.K n (gSlots is))) : ∃ g : TG, (∀ s H c cells fp, PG (bx s H c cells fp) tg g) ∧ ∀ {σ : St} {F H : Hp} {ρ ρ1 : Env} {v : V} {d : D} {Q : St → Hp → Prop}, Stt C F H σ ρ → Rep C F v d → putTg ρ (.tup is) d = some ρ1 →
      (∀ σ2, Stt C F H σ2 ρ1 → Tr [] σ F H ρ σ2 F H ρ1 → (∀ ks : List Nat, (∀ j ∈ (Tg.tup is).slots, j ∈ ks) → wipe σ2 ks = wipe σ ks) → Q σ2 H) → g v σ H Q :=
  ⟨_, h, fun {σ F H ρ ρ1 v d Q} S r e k => by
    cases d with
    | tup ds =>
      have e : (if is.length = ds.length then putSs ρ is ds else none) = some ρ1 := e
      split at e
      · rename_i hl'
        cases r with
        | tup g rs => exact ⟨_, _, rfl, S.sub.sqT g, by rw [rs.length, ← hl', hl], slots_go S rs e fun σ2 S2 T2 w => k σ2 S2 T2 fun ks hh => w ks hh⟩
      · cases e
    | _ => cases e⟩
theorem sim_break {pos : Pos} : SimS cl X (.Break pos) sBreak := fun W _ => PS.imp ps_break fun D σ H ⟨F, ρ, S, r, ρ', e, h⟩ => by
  cases e
  exact h σ F H Tr.refl S
theorem sim_cont {pos : Pos} : SimS cl X (.Continue pos) sCont := fun W _ => PS.imp ps_continue fun D σ H ⟨F, ρ, S, r, ρ', e, h⟩ => by
  cases e
  exact h σ F H Tr.refl S
end
section
variable {cl : Nat → Addr} {C : Cs} {K : PySem.W.Frag} {mg : Str → Option Value}
theorem exm_ok {c S : Addr} {b : Bool} (h1 : PySem.W.subIn K (.ref S) (.type "BaseException") = some true) (h2 : PySem.W.isClsIn K S = true) (h3 : PySem.W.typeIn K (.ref S) = some (.type "type")) (h4 : PySem.W.subIn K (.ref c) (.ref S) = some b) : PySem.W.exmOne K (.ref c) (.ref S) = some b := by
  have e1 : (PySem.W.subIn K (.ref S) (.type "BaseException") == some true) = true := by rw [h1]; rfl
  have h2' : (PySem.W.clsIn K S).isSome = true := h2
  have e2 : ((PySem.W.clsIn K S).isSome && PySem.W.typeIn K (.ref S) == some (.type "type")) = true := by rw [h2', h3]; rfl
  unfold PySem.W.exmOne PySem.W.kitCls
  rw [if_pos e1]
  exact (if_pos e2).trans h4
theorem rep_tup {a : Addr} {xs : List V} {ds : List D} {its : Array Value} {n : Nat} {od : Option Addr} {sl : Array (Option Value)} (hC : C.K = K) (l : K.lookup a = some ⟨.type "tuple", od, .seq its n, sl⟩) (hz : its.size ≤ 1000) (r : Vals xs its.toList) (rs : Reps C (fun _ => none) xs ds) : Rep C (fun _ => none) (.ref a) (.tup ds) :=
  .tup (.inr ⟨_, its, n, by rw [hC]; exact l, rfl, rfl, by rw [sizeLine_eq]; omega, r⟩) rs
theorem rep_str {s : Txt} (h : okTb s = true) {F : Hp} : Rep C F (.str (mkS s)) (.str s) := .str s (okT_of h)
theorem g_const {X : Cx} {x : Str} {v : V} {u : Value} {d : D} {pos : Pos} (hm : mg x = some u) (r : RelV v u) (rp : ∀ C : Cs, C.K = K → Rep C (fun _ => none) v d) (n : Nm x) (hK : X.K = K) (hM : X.mg = mg) (hg : Gl X x) : SimE cl X (.Name x pos) (mK d) :=
  sim_G hg (by rw [hM]; exact hm) r (rp _ hK) n.d
theorem rv_str (s : Txt) {x : Str} {tk : Tok} (h : mkS s = x) : RelV (.str (mkS s)) (.str x tk) := ⟨tk, by rw [h]⟩
theorem rv_int (i : Int) {tk : Tok} : RelV (.int i) (.int i tk) := ⟨tk, rfl⟩
theorem rv_bl (b : Bool) : RelV (.bl b) (.bool b) := rfl
theorem rv_non : RelV .non .none := rfl
theorem rv_ref (a : Addr) : RelV (.ref a) (.ref a) := rfl
/-- the law's promise -/
def spLaw (K : PySem.W.Frag) : Sp := fun vs H Q _ => ∃ (a : Addr) (ns : List Int), vs = [.ref a] ∧ SqL K H a (ns.map V.int) ∧ ns.length ≤ 63 ∧ ∀ H', Q (.bl true) H'
theorem reps_ints {C : Cs} {F : Hp} : ∀ ns : List Int, Reps C F (ns.map V.int) (ns.map D.int)
  | [] => .nil
  | _ :: ns => .cons (.int _) (reps_ints ns)
/-- the mirror of the law is true of every script -/
def Keeps (f : Fn) : Prop := ∀ ns : List Int, ns.length ≤ 63 → ∃ os, f [.sh (.lst (ns.map D.int))] = some (.ok (.sh (.bl true)), os)
theorem law_imp {P : Program} {w : World} {base : Heap} {k : Nat} {fa : Addr} {fd : FuncData} {ps : List Str} {f : Fn} (hf : Keeps f) (h : FnOk P w K mg base (L2.CX P w) k fa fd ps (FSp ⟨P, w, K, cl⟩ f)) : FnOk P w K mg base (L2.CX P w) k fa fd ps (spLaw K) :=
  h.imp fun vs H Q E ⟨a, ns, ev, hs, hl, hq⟩ => by
    subst ev
    obtain ⟨os, e⟩ := hf ns hl
    refine ⟨H, [.sh (.lst (ns.map D.int))], _, os, e, ⟨Sub.refl _, rfl, fun i b h => ?_, fun i j b c x h1 h2 => ?_⟩, fun v A F' H' T S np rb fp nw => ?_⟩
    · cases i with
      | zero => cases h; exact ⟨_, rfl, .sh (.lst hs (reps_ints ns))⟩
      | succ i => cases i <;> cases h
    · cases i with
      | zero => cases h1; cases h2
      | succ i => cases i <;> cases h1
    · cases rb with
      | sh r => cases r; exact hq H'
end
end WF

set_option Elab.async false
set_option linter.all false
set_option maxRecDepth 100000
set_option maxHeartbeats 4000000
/-! WFT: rules for the combinators of WFA2. -/
namespace WF
open PySem PySem.Spec PyProof.Rows L2
section
variable {cl : Nat → Addr} {X : Cx}
theorem sim_fz {l : Expr} {m : M B} (ha : SimE cl X l m) : SimE cl X l (mFz m) := fun W tk => PE.imp (ha W tk) fun σ H Q ⟨F, ρ, S, h⟩ =>
  tM_bind (R1 := RlB) S h fun x b A F1 H1 ρ1 T1 S1 r1 f1 n1 h1 => by
    obtain ⟨d, F2, S2, rd, sb, h2⟩ := kept1 S1 r1 f1 h1
    exact (tR_ret h2).data S2 rd
end
end WF

set_option Elab.async false
set_option linter.all false
set_option maxRecDepth 100000
set_option maxHeartbeats 4000000
/-! WFZ: list(zip(a, b)) of two tuples of two items each. -/
namespace WF
open PySem PySem.Spec PyProof.Rows L2 RZ
theorem zip_no_len : typeLookup (.type "zip") "__len__" = pure none := am_miss_of_fast (by decide +kernel)
theorem zip_no_hint : typeLookup (.type "zip") "__length_hint__" = pure none := am_miss_of_fast (by decide +kernel)
section
variable {prog : Program} {w : World} {A : Around} {E : Value → Shared → Prop} {s : Shared}
/-- zip's next, the last tuple still out: a new one -/
theorem zh_item {z p o T i j l m : Addr} {f : Bool} {u : Obj} {n k : Nat} {xs ys : Array Value} {x y : Value} {Q : Option Value → Shared → Prop} (D : ZipApart z p o i j l m)
    (a1 : IsZipHeld s.heap z p o T f) (a2 : s.heap.get? T = some u) (a3 : IsPair s.heap p (.ref i) (.ref j)) (b1 : s.heap.IsTupleIter i l n) (b2 : s.heap.IsTupleIter j m k)
    (c1 : s.heap.IsTuple l xs) (c2 : s.heap.IsTuple m ys) (d1 : xs[n]? = some x) (d2 : ys[k]? = some y)
    (q : ∀ g, IsZipHeld g z p o T true → g.IsTupleIter i l (n + 1) → g.IsTupleIter j m (k + 1) → IsPair g s.heap.objs.size x y → g.objs.size = s.heap.objs.size + 1 →
      (∀ c v, c ≠ z → c ≠ i → c ≠ j → s.heap.get? c = some v → g.get? c = some v) → Q (some (.ref s.heap.objs.size)) { s with heap := g }) :
    wpAny (model prog w) A (pyNext (.ref z)) Q E s := by
  have ty : s.TypeIs (.ref z) "zip" := ⟨_, a1, rfl⟩
  unfold pyNext
  refine wpAny_bind (wpAny_attempt (wpAny_callSpecial?_slot (name := Str.ofString "__next__") ty F.slot_zip_next (wpAny_call_entry F.slot_zip_next ty F.entry_zip_next ?_ (F.args_zip_next_1 _))))
  show wpAny _ _ (field (.ref z) 2 >>= _) _ _ _
  refine wpAny_bind (wpAny_field a1 rfl (x := .bool false) rfl ?_)
  show wpAny _ _ (field (.ref z) 3 >>= _) _ _ _
  refine wpAny_bind (wpAny_field a1 rfl (x := .ref p) rfl (wpAny_bind (wpAny_seqItems a3 rfl ?_)))
  show wpAny _ _ (Builtin.SmallTypes.ownedTupleIsFree (.ref z) >>= _) _ _ _
  refine wpAny_bind (wpAny_tupleHeld_zip a1 a2 fun g1 e1 s1 => ?_)
  simp only [Bool.false_eq_true, if_false]
  refine wpAny_bind ?_
  rw [← Array.forIn_toList]
  simp only [List.forIn_cons, List.forIn_nil]
  refine wpAny_bind (wpAny_bind (wpAny_holding ?_))
  show wpAny _ _ (Builtin.SmallTypes.nextOf (.ref i) >>= _) _ _ _
  refine wpAny_bind (nextOf_tuple_item (s := { s with heap := g1 }) (b1.extBut s1.extBut D.i1z) (c1.extBut s1.extBut D.l1z) d1 fun g2 e2 s2 => wpAny_pure (wpAny_pure ?_))
  refine wpAny_bind (wpAny_bind (wpAny_holding ?_))
  show wpAny _ _ (Builtin.SmallTypes.nextOf (.ref j) >>= _) _ _ _
  refine wpAny_bind (nextOf_tuple_item (s := { s with heap := g2 }) ((b2.extBut s1.extBut D.i2z).extBut s2.extBut D.i12.symm) ((c2.extBut s1.extBut D.l2z).extBut s2.extBut D.l2i1) d2 fun g3 e3 s3 => wpAny_pure (wpAny_pure (wpAny_pure ?_)))
  show wpAny _ _ (newTuple [x, y] >>= _) _ _ _
  refine wpAny_bind (wpAny_newTuple (wpAny_pure ⟨_, rfl, wpAny_pure ?_⟩))
  have sz : g3.objs.size = s.heap.objs.size := by rw [s3.1, s2.1, s1.1]
  have e4 : IsZipHeld g3 z p o T true := s3.extBut _ _ D.i2z.symm (s2.extBut _ _ D.i1z.symm e1)
  have kp : ∀ c v, c ≠ z → c ≠ i → c ≠ j → s.heap.get? c = some v → g3.get? c = some v := fun c v h1 h2 h3 h => s3.extBut _ _ h3 (s2.extBut _ _ h2 (s1.extBut _ _ h1 h))
  have e5 : g3.IsTupleIter i l (n + 1) := e2.extBut s3.extBut D.i12
  have pr : IsPair (g3.push { cls := .type "tuple", data := .seq #[x, y] }) g3.objs.size x y := Heap.get?_push_size _ rfl
  have sp : (g3.push { cls := .type "tuple", data := .seq #[x, y] }).objs.size = g3.objs.size + 1 := Heap.size_push ..
  show Q (some (.ref g3.objs.size)) _
  rw [sz] at pr sp ⊢
  exact q _ (Heap.get?_push_of_some _ e4) (e5.at fun v h => Heap.get?_push_of_some _ h) (e3.at fun v h => Heap.get?_push_of_some _ h) pr sp fun c v h1 h2 h3 h => Heap.get?_push_of_some _ (kp c v h1 h2 h3 h)
/-- the same at the end -/
theorem zh_end {z p o T i j l m : Addr} {f : Bool} {u : Obj} {n : Nat} {xs : Array Value} {Q : Option Value → Shared → Prop} (hh : A.handled = none) (D : ZipApart z p o i j l m)
    (a1 : IsZipHeld s.heap z p o T f) (a2 : s.heap.get? T = some u) (a3 : IsPair s.heap p (.ref i) (.ref j)) (b1 : s.heap.IsTupleIter i l n)
    (c1 : s.heap.IsTuple l xs) (d1 : xs[n]? = none)
    (q : ∀ g, (∀ c v, c ≠ z → c ≠ i → s.heap.get? c = some v → g.get? c = some v) → Q none { s with heap := g }) :
    wpAny (model prog w) A (pyNext (.ref z)) Q E s := by
  have ty : s.TypeIs (.ref z) "zip" := ⟨_, a1, rfl⟩
  unfold pyNext
  refine wpAny_bind (wpAny_attempt (wpAny_callSpecial?_slot (name := Str.ofString "__next__") ty F.slot_zip_next (wpAny_call_entry F.slot_zip_next ty F.entry_zip_next ?_ (F.args_zip_next_1 _))))
  show wpAny _ _ (field (.ref z) 2 >>= _) _ _ _
  refine wpAny_bind (wpAny_field a1 rfl (x := .bool false) rfl ?_)
  show wpAny _ _ (field (.ref z) 3 >>= _) _ _ _
  refine wpAny_bind (wpAny_field a1 rfl (x := .ref p) rfl (wpAny_bind (wpAny_seqItems a3 rfl ?_)))
  show wpAny _ _ (Builtin.SmallTypes.ownedTupleIsFree (.ref z) >>= _) _ _ _
  refine wpAny_bind (wpAny_tupleHeld_zip a1 a2 fun g1 e1 s1 => ?_)
  simp only [Bool.false_eq_true, if_false]
  refine wpAny_bind ?_
  rw [← Array.forIn_toList]
  simp only [List.forIn_cons, List.forIn_nil]
  refine wpAny_bind (wpAny_bind (wpAny_holding ?_))
  show wpAny _ _ (Builtin.SmallTypes.nextOf (.ref i) >>= _) _ _ _
  refine wpAny_bind (nextOf_tuple_end (s := { s with heap := g1 }) hh (b1.extBut s1.extBut D.i1z) (c1.extBut s1.extBut D.l1z) d1 fun g2 e s2 he => ?_)
  obtain ⟨v, hv, hc⟩ := he
  refine wpAny_bind (wpAny_isInstance (T := "StopIteration") (b := true) ⟨v, hv, hc⟩ isSubtype_stop ?_)
  exact wpAny_pure (q _ fun c v h1 h2 h => s2 _ _ h2 (s1.extBut _ _ h1 h))
/-- one turn of the loop that fills a list: v came, and is put behind -/
theorem xl_turn {S z : Addr} {r v : Value} {acc : Array Value} {c : Nat} {R : Result → Shared → Prop} {s1 : Shared}
    (e : s1.heap.get? S = some { cls := .type "list", dict := none, data := .seq acc c, slots := #[] }) (n : acc.size < 1000)
    (q : ∀ c', (s1.heap.update S (Obj.mapSeq (·.push v))).get? S = some { cls := .type "list", dict := none, data := .seq (acc.push v) c', slots := #[] } →
      codeAny (model prog w) A (.builtin "list.extend.loop" ⟨[.ref S, .ref z, r], []⟩) R { s1 with heap := s1.heap.update S (Obj.mapSeq (·.push v)) }) :
    wpAny (model prog w) A.in1 (updateSeq S (·.push v) >>= fun _ => again (.builtin "list.extend.loop" ⟨[.ref S, .ref z, r], []⟩))
      (fun fin s' => match fin with | .done f => R (.ok f) s' | .again c' => c'.quiet = true ∧ codeAny (model prog w) A c' R s') (fun e s' => R (.error e) s') s1 := by
  have sz : sizeLine = 16777216 := sizeLine_eq
  refine wpAny_bind (wpAny_updateSeq e rfl (wpAny_pure ⟨plainId_quiet F.plain_extend_loop _, q _ (Heap.get?_update_self _ e rfl)⟩) (by omega) ?_)
  show (acc.push v).size ≤ sizeLine + 1
  rw [Array.size_push]
  omega
theorem xl_zip {S z p o i j l m : Addr} {r x0 x1 y0 y1 : Value} {c : Nat} {R : Result → Shared → Prop} (hh : A.handled = none) (D : ZipApart z p o i j l m)
    (a1 : IsZip s.heap z p o .none) (a3 : IsPair s.heap p (.ref i) (.ref j)) (a4 : IsPair s.heap o .none .none) (b1 : s.heap.IsTupleIter i l 0) (b2 : s.heap.IsTupleIter j m 0)
    (c1 : s.heap.IsTuple l #[x0, x1]) (c2 : s.heap.IsTuple m #[y0, y1]) (hS : s.heap.get? S = some { cls := .type "list", dict := none, data := .seq #[] c, slots := #[] })
    (nz : S ≠ z) (np : S ≠ p) (no : S ≠ o) (ni : S ≠ i) (nj : S ≠ j) (nl : S ≠ l) (nm : S ≠ m) (lo : l ≠ o) (mo : m ≠ o)
    (q : ∀ g T0 T1 c', s.heap.objs.size ≤ T0 → T0 < T1 → g.get? S = some { cls := .type "list", dict := none, data := .seq #[.ref T0, .ref T1] c', slots := #[] } → IsPair g T0 x0 y0 → IsPair g T1 x1 y1 →
      (∀ b v, b ≠ S → b ≠ z → b ≠ o → b ≠ i → b ≠ j → s.heap.get? b = some v → g.get? b = some v) → R (.ok (.ret r)) { s with heap := g }) :
    codeAny (model prog w) A (.builtin "list.extend.loop" ⟨[.ref S, .ref z, r], []⟩) R s := by
  refine codeAny_builtin F.entry_extend_loop ?_
  rw [Around.under_plainId F.plain_extend_loop _]
  show wpAny _ A.in1 (pyNext (.ref z) >>= _) _ _ s
  refine wpAny_bind (pyNext_zipT_item D a1 a3 a4 b1 b2 c1 c2 (x := x0) (y := y0) rfl rfl fun g1 e1 e2 e3 e4 e5 e6 e7 => ?_)
  refine xl_turn (e7 _ _ nz no ni nj hS) (by decide) fun c' e8 => ?_
  have zl : z < s.heap.objs.size := Heap.lt_size a1
  have Sl : S < s.heap.objs.size := Heap.lt_size hS
  have u1 : ∀ b v, b ≠ S → g1.get? b = some v → (g1.update S (Obj.mapSeq (·.push (Value.ref s.heap.objs.size)))).get? b = some v := fun b v h e => (Heap.get?_update_other _ _ (Ne.symm h)).trans e
  have z1 : (g1.update S (Obj.mapSeq (·.push (Value.ref s.heap.objs.size)))).objs.size = s.heap.objs.size + 1 := (Heap.size_update ..).trans e6
  have p1 := u1 _ _ (Nat.ne_of_gt Sl) e5
  generalize g1.update S (Obj.mapSeq (·.push (Value.ref s.heap.objs.size))) = k1 at e8 u1 z1 p1 ⊢
  refine codeAny_builtin F.entry_extend_loop ?_
  rw [Around.under_plainId F.plain_extend_loop _]
  show wpAny _ A.in1 (pyNext (.ref z) >>= _) _ _ _
  refine wpAny_bind (zh_item (s := { s with heap := k1 }) (T := s.heap.objs.size) (f := false) D (u1 _ _ (Ne.symm nz) e1) p1 (u1 _ _ (Ne.symm np) (e7 _ _ D.TIz D.TITO D.TIi1 D.TIi2 a3)) (e3.at fun v h => u1 _ _ (Ne.symm ni) h) (e4.at fun v h => u1 _ _ (Ne.symm nj) h)
    (c1.at fun v h => u1 _ _ (Ne.symm nl) (e7 _ _ D.l1z lo D.l1i1 D.l1i2 h)) (c2.at fun v h => u1 _ _ (Ne.symm nm) (e7 _ _ D.l2z mo D.l2i1 D.l2i2 h)) (x := x1) (y := y1) rfl rfl fun g2 f1 f3 f4 f5 f6 f7 => ?_)
  refine xl_turn (f7 _ _ nz ni nj e8) (by simp) fun c2' f8 => ?_
  have zk : k1.objs.size = s.heap.objs.size + 1 := z1
  have u2 : ∀ b v, b ≠ S → g2.get? b = some v → (g2.update S (Obj.mapSeq (·.push (Value.ref k1.objs.size)))).get? b = some v := fun b v h e => (Heap.get?_update_other _ _ (Ne.symm h)).trans e
  have nS : k1.objs.size ≠ S := by rw [zk]; exact Nat.ne_of_gt (Nat.lt_succ_of_lt Sl)
  have tS : s.heap.objs.size ≠ S := Nat.ne_of_gt Sl
  have tz : s.heap.objs.size ≠ z := Nat.ne_of_gt zl
  have ti : s.heap.objs.size ≠ i := Nat.ne_of_gt (by obtain ⟨_, e, _⟩ := b1; exact Heap.lt_size e)
  have tj : s.heap.objs.size ≠ j := Nat.ne_of_gt (by obtain ⟨_, e, _⟩ := b2; exact Heap.lt_size e)
  have p2 := u2 _ _ tS (f7 _ _ tz ti tj p1)
  have p3 := u2 _ _ nS f5
  have kk : ∀ b v, b ≠ S → b ≠ z → b ≠ o → b ≠ i → b ≠ j → s.heap.get? b = some v → (g2.update S (Obj.mapSeq (·.push (Value.ref k1.objs.size)))).get? b = some v :=
    fun b v h1 h2 h3 h4 h5 h => u2 _ _ h1 (f7 _ _ h2 h4 h5 (u1 _ _ h1 (e7 _ _ h2 h3 h4 h5 h)))
  have m1 := u2 _ _ (Ne.symm nz) f1
  have m3 := kk _ _ (Ne.symm np) D.TIz D.TITO D.TIi1 D.TIi2 a3
  have m4 := f3.at fun v h => u2 _ _ (Ne.symm ni) h
  have m5 : (g2.update S (Obj.mapSeq (·.push (Value.ref k1.objs.size)))).IsTuple l #[x0, x1] := c1.at fun v h => kk _ _ (Ne.symm nl) D.l1z lo D.l1i1 D.l1i2 h
  have hlt : s.heap.objs.size < k1.objs.size := by omega
  have il : i < s.heap.objs.size := by obtain ⟨_, e, _⟩ := b1; exact Heap.lt_size e
  have n8 : k1.objs.size ≠ z := Nat.ne_of_gt (Nat.lt_trans zl hlt)
  have n9 : k1.objs.size ≠ i := Nat.ne_of_gt (Nat.lt_trans il hlt)
  generalize g2.update S (Obj.mapSeq (·.push (Value.ref k1.objs.size))) = k2 at f8 u2 p2 p3 kk m1 m3 m4 m5 ⊢
  refine codeAny_builtin F.entry_extend_loop ?_
  rw [Around.under_plainId F.plain_extend_loop _]
  show wpAny _ A.in1 (pyNext (.ref z) >>= _) _ _ _
  refine wpAny_bind (zh_end (s := { s with heap := k2 }) (A := A.in1) (T := s.heap.objs.size) (f := true) hh D m1 p2 m3 m4 m5 rfl fun g3 h7 => wpAny_pure ?_)
  exact q g3 _ _ _ (Nat.le_refl _) hlt (h7 _ _ nz ni f8) (h7 _ _ tz ti p2) (h7 _ _ n8 n9 p3)
    fun b v t1 t2 t3 t4 t5 h => h7 _ _ t2 t4 (kk _ _ t1 t2 t3 t4 t5 h)
/-- list(zip(l, m)) -/
theorem list_zip {l m : Addr} {x0 x1 y0 y1 : Value} {Q : Value → Shared → Prop} (hh : A.handled = none) (c1 : s.heap.IsTuple l #[x0, x1]) (c2 : s.heap.IsTuple m #[y0, y1])
    (q : ∀ g S T0 T1 c', s.heap.objs.size ≤ S → S < T0 → T0 < T1 → g.get? S = some { cls := .type "list", dict := none, data := .seq #[.ref T0, .ref T1] c', slots := #[] } → IsPair g T0 x0 y0 → IsPair g T1 x1 y1 →
      (∀ b v, s.heap.get? b = some v → g.get? b = some v) → Q (.ref S) { s with heap := g }) :
    wpAny (model prog w) A (call (.type "zip") [.ref l, .ref m]) (fun u s' => wpAny (model prog w) A (call (.type "list") [u]) Q E s') E s := by
  have ll : l < s.heap.objs.size := by obtain ⟨_, e, _⟩ := c1; exact Heap.lt_size e
  have lm : m < s.heap.objs.size := by obtain ⟨_, e, _⟩ := c2; exact Heap.lt_size e
  refine call_zipT c1 c2 fun h a1 a3 a4 b1 b2 hz hk => ?_
  have D := PySem.W.ktu_apart s.heap.objs.size l m ll lm
  refine callType_codes (Q₁ := fun u t => u = .ref h.objs.size ∧ t = { s with heap := h.push { cls := .type "list", data := .seq #[] } }) F.called_list (F.typeCall_list_1 _) F.entry_list_init (code_list_new _ ⟨rfl, rfl⟩) fun u t ⟨e1, e2⟩ => ?_
  subst e1 e2
  have n1 : (h.push { cls := .type "list", data := .seq #[] }).get? h.objs.size = some { cls := .type "list", data := .seq #[] } := Heap.get?_push_size _ rfl
  have k1 : ∀ b v, h.get? b = some v → (h.push { cls := .type "list", data := .seq #[] }).get? b = some v := fun b v e => Heap.get?_push_of_some _ e
  have q1 : (h.push { cls := .type "list", data := .seq #[] }).objs.size = h.objs.size + 1 := Heap.size_push ..
  refine ⟨⟨_, n1, rfl⟩, F.args_list_init_2 _ _, ?_⟩
  generalize h.push { cls := .type "list", data := .seq #[] } = h1 at n1 k1 q1 ⊢
  show wpAny _ A.in1.in1 (Builtin.List.listItems (.ref h.objs.size) >>= fun old => Builtin.List.listUpdate (.ref h.objs.size) (fun _ => #[]) >>= fun _ => letGo old.toList.reverse >>= fun _ => Builtin.List.listExtendWith (.ref h.objs.size) (.ref (s.heap.objs.size + 4)) .none) _ _ _
  unfold Builtin.List.listItems
  refine wpAny_bind ?_
  refine wpAny_bind (wpAny_seqItems n1 rfl (wpAny_pure ?_))
  show wpAny _ A.in1.in1 (updateSeq h.objs.size (fun _ => #[]) >>= fun _ => letGo (#[] : Array Value).toList.reverse >>= fun _ => Builtin.List.listExtendWith (.ref h.objs.size) (.ref (s.heap.objs.size + 4)) .none) _ _ _
  refine wpAny_bind (wpAny_updateSeq n1 rfl (wpAny_bind (wpAny_letGo ?_)))
  have n2 := Heap.get?_update_self (Obj.mapSeq (fun _ => (#[] : Array Value))) n1 rfl
  have k2 : ∀ b v, b ≠ h.objs.size → h1.get? b = some v → (h1.update h.objs.size (Obj.mapSeq (fun _ => (#[] : Array Value)))).get? b = some v := fun b v t e => (Heap.get?_update_other _ _ (Ne.symm t)).trans e
  have q2 : (h1.update h.objs.size (Obj.mapSeq (fun _ => (#[] : Array Value)))).objs.size = h.objs.size + 1 := (Heap.size_update ..).trans q1
  generalize h1.update h.objs.size (Obj.mapSeq (fun _ => (#[] : Array Value))) = h2 at n2 k2 q2 ⊢
  have old : ∀ b v, h.get? b = some v → h2.get? b = some v := fun b v e => k2 _ _ (Nat.ne_of_lt (Heap.lt_size e)) (k1 _ _ e)
  have nz : h.objs.size ≠ s.heap.objs.size + 4 := Nat.ne_of_gt (Heap.lt_size a1)
  have tz : ({ s with heap := h2 } : Shared).TypeIs (.ref (s.heap.objs.size + 4)) "zip" := ⟨_, old _ _ a1, rfl⟩
  unfold Builtin.List.listExtendWith
  refine wpAny_bind (wpAny_typeOf tz ?_)
  have t1 : Builtin.List.listSameRef (.ref h.objs.size) (.ref (s.heap.objs.size + 4)) = false := by simp [Builtin.List.listSameRef, nz]
  have t2 : (Value.type "zip" == Value.type "list") = false := by decide
  have t3 : (Value.type "zip" == Value.type "tuple") = false := by decide
  simp only [t1, t2, t3, Bool.or_false, Bool.false_eq_true, if_false]
  refine wpAny_bind (wpAny_pyIter_zip (s := { s with heap := h2 }) (old _ _ a1) (wpAny_bind (wpAny_holding ?_)))
  unfold Builtin.List.listLengthHint
  refine wpAny_bind (wpAny_specialOf tz zip_no_len ?_)
  show wpAny _ A.in1.in1 (specialOf (Value.ref _) (Str.ofString "__length_hint__") >>= _) _ _ _
  refine wpAny_bind (wpAny_specialOf tz zip_no_hint (wpAny_pure ?_))
  show wpAny _ A.in1.in1 (rule "list.extend.makes-room" >>= fun _ => Builtin.List.listTouch (.ref h.objs.size) >>= fun _ => again (.builtin "list.extend.loop" ⟨[.ref h.objs.size, .ref _, .none], []⟩)) _ _ _
  refine wpAny_bind (wpAny_rule (wpAny_bind ?_))
  show wpAny _ A.in1.in1 (updateSeq h.objs.size (·.push .none) >>= fun _ => updateSeq h.objs.size (·.pop)) _ _ _
  refine wpAny_bind (wpAny_updateSeq n2 rfl ?_)
  have n3 := Heap.get?_update_self (Obj.mapSeq (·.push Value.none)) n2 rfl
  refine wpAny_updateSeq (hz := by seq_fits) n3 rfl (wpAny_pure ⟨plainId_quiet F.plain_extend_loop _, ?_⟩)
  have n4 := Heap.get?_update_self (Obj.mapSeq (·.pop)) n3 rfl
  have k4 : ∀ b v, b ≠ h.objs.size → h2.get? b = some v → ((h2.update h.objs.size (Obj.mapSeq (·.push Value.none))).update h.objs.size (Obj.mapSeq (·.pop))).get? b = some v := fun b v t e =>
    (Heap.get?_update_other _ _ (Ne.symm t)).trans ((Heap.get?_update_other _ _ (Ne.symm t)).trans e)
  have q4 : ((h2.update h.objs.size (Obj.mapSeq (·.push Value.none))).update h.objs.size (Obj.mapSeq (·.pop))).objs.size = h.objs.size + 1 := (Heap.size_update ..).trans ((Heap.size_update ..).trans q2)
  generalize (h2.update h.objs.size (Obj.mapSeq (·.push Value.none))).update h.objs.size (Obj.mapSeq (·.pop)) = h4 at n4 k4 q4 ⊢
  have up : ∀ b v, h.get? b = some v → h4.get? b = some v := fun b v e => k4 _ _ (Nat.ne_of_lt (Heap.lt_size e)) (old _ _ e)
  have lt : ∀ b v, h.get? b = some v → h.objs.size ≠ b := fun b v e => Nat.ne_of_gt (Heap.lt_size e)
  have f1 : ∀ b v, s.heap.get? b = some v → b ≠ h.objs.size ∧ b ≠ s.heap.objs.size + 4 ∧ b ≠ s.heap.objs.size + 3 ∧ b ≠ s.heap.objs.size ∧ b ≠ s.heap.objs.size + 1 := fun b v e => by
    have r1 : b < s.heap.objs.size := Heap.lt_size e
    have r2 := Heap.lt_size (hk b v e)
    exact ⟨Nat.ne_of_lt r2, Nat.ne_of_lt (Nat.lt_of_lt_of_le r1 (Nat.le_add_right _ _)), Nat.ne_of_lt (Nat.lt_of_lt_of_le r1 (Nat.le_add_right _ _)), Nat.ne_of_lt r1, Nat.ne_of_lt (Nat.lt_of_lt_of_le r1 (Nat.le_add_right _ _))⟩
  refine xl_zip (s := { s with heap := h4 }) (A := A.in1) hh D (up _ _ a1) (up _ _ a3) (up _ _ a4) (b1.at fun v e => up _ _ e) (b2.at fun v e => up _ _ e) ((c1.at fun v e => hk _ _ e).at fun v e => up _ _ e) ((c2.at fun v e => hk _ _ e).at fun v e => up _ _ e) n4
    (lt _ _ a1) (lt _ _ a3) (lt _ _ a4) (by obtain ⟨_, e, _⟩ := b1; exact lt _ _ e) (by obtain ⟨_, e, _⟩ := b2; exact lt _ _ e) (by obtain ⟨_, e, _⟩ := c1; exact lt _ _ (hk _ _ e)) (by obtain ⟨_, e, _⟩ := c2; exact lt _ _ (hk _ _ e))
    (by obtain ⟨_, e, _⟩ := c1; exact (f1 _ _ e).2.2.1) (by obtain ⟨_, e, _⟩ := c2; exact (f1 _ _ e).2.2.1) fun g T0 T1 c' w1 w2 w3 w4 w5 w6 => ⟨rfl, ?_⟩
  have w1' : h.objs.size + 1 ≤ T0 := by rw [← q4]; exact w1
  exact q g _ T0 T1 c' (by omega) (by omega) w2 w3 w4 w5 fun b v e => w6 _ _ (f1 b v e).1 (f1 b v e).2.1 (f1 b v e).2.2.1 (f1 b v e).2.2.2.1 (f1 b v e).2.2.2.2 (up _ _ (hk _ _ e))
end
/-! the rule -/
def tLZ (K : PySem.W.Frag) (ta : TA) : TE := fun σ H Q => ta σ H fun vs H1 => ∃ (a b : Addr) (x0 x1 y0 y1 : V), vs = [.ref a, .ref b] ∧ SqT K H1 a [x0, x1] ∧ SqT K H1 b [y0, y1] ∧
  ∀ S T0 T1 : Addr, H1 S = none → H1 T0 = none → H1 T1 = none → S ≠ T0 → T0 ≠ T1 → S ≠ T1 → Q (.ref S) (upd (upd (upd H1 T0 (.tup [x0, y0])) T1 (.tup [x1, y1])) S (.lst [.ref T0, .ref T1]))
section
variable {X : Cx}
theorem three_laid {pins : List (Addr × Obj)} {σ : L2.St} {H : Hp} {s : Shared} {g : Heap} {S T0 T1 : Addr} {c : Nat} {x0 x1 y0 y1 : V} {u0 u1 w0 w1 : Value} (I : Inv X pins σ H s) (kp : ∀ b v, s.heap.get? b = some v → g.get? b = some v)
    (h0 : s.heap.objs.size ≤ S) (h1 : S < T0) (h2 : T0 < T1) (gS : g.get? S = some { cls := .type "list", dict := none, data := .seq #[.ref T0, .ref T1] c, slots := #[] }) (g0 : IsPair g T0 u0 w0) (g1 : IsPair g T1 u1 w1)
    (r0 : RelV x0 u0) (r1 : RelV x1 u1) (r2 : RelV y0 w0) (r3 : RelV y1 w1) :
    Inv X pins σ (upd (upd (upd H T0 (.tup [x0, y0])) T1 (.tup [x1, y1])) S (.lst [.ref T0, .ref T1])) { s with heap := g } := by
  have nS : H S = none := I.hok.fresh h0
  have n0 : H T0 = none := I.hok.fresh (Nat.le_trans h0 (Nat.le_of_lt h1))
  have n1 : H T1 = none := I.hok.fresh (Nat.le_trans h0 (Nat.le_of_lt (Nat.lt_trans h1 h2)))
  have d1 : S ≠ T0 := Nat.ne_of_lt h1
  have d2 : T0 ≠ T1 := Nat.ne_of_lt h2
  have d3 : S ≠ T1 := Nat.ne_of_lt (Nat.lt_trans h1 h2)
  have off : ∀ b, b ≠ S → b ≠ T0 → b ≠ T1 → upd (upd (upd H T0 (.tup [x0, y0])) T1 (.tup [x1, y1])) S (.lst [.ref T0, .ref T1]) b = H b := fun b q1 q2 q3 => by rw [upd_ne q1, upd_ne q3, upd_ne q2]
  have old : ∀ b u, H b = some u → b ≠ S ∧ b ≠ T0 ∧ b ≠ T1 := fun b u e => ⟨ne_of_none e nS, ne_of_none e n0, ne_of_none e n1⟩
  have stay : ∀ b u, H b = some u → upd (upd (upd H T0 (.tup [x0, y0])) T1 (.tup [x1, y1])) S (.lst [.ref T0, .ref T1]) b = some u := fun b u e => (off b (old b u e).1 (old b u e).2.1 (old b u e).2.2).trans e
  have low : ∀ b o, s.heap.get? b = some o → b ≠ S ∧ b ≠ T0 ∧ b ≠ T1 := fun b o e => by
    have q : b < s.heap.objs.size := Heap.lt_size e
    exact ⟨Nat.ne_of_lt (Nat.lt_of_lt_of_le q h0), Nat.ne_of_lt (Nat.lt_trans (Nat.lt_of_lt_of_le q h0) h1), Nat.ne_of_lt (Nat.lt_trans (Nat.lt_trans (Nat.lt_of_lt_of_le q h0) h1) h2)⟩
  have eS : upd (upd (upd H T0 (.tup [x0, y0])) T1 (.tup [x1, y1])) S (.lst [.ref T0, .ref T1]) S = some (.lst [.ref T0, .ref T1]) := upd_same
  have e0 : upd (upd (upd H T0 (.tup [x0, y0])) T1 (.tup [x1, y1])) S (.lst [.ref T0, .ref T1]) T0 = some (.tup [x0, y0]) := by rw [upd_ne (Ne.symm d1), upd_ne d2, upd_same]
  have e1 : upd (upd (upd H T0 (.tup [x0, y0])) T1 (.tup [x1, y1])) S (.lst [.ref T0, .ref T1]) T1 = some (.tup [x1, y1]) := by rw [upd_ne (Ne.symm d3), upd_same]
  refine I.call' (s' := { s with heap := g }) (ch := []) rfl ⟨fun b o q _ _ _ => kp b o q, fun b o q _ _ _ => ⟨o.slots, kp b o q⟩, fun b o q n _ => (off b (low b o q).1 (low b o q).2.1 (low b o q).2.2).trans n, fun b o q _ => ⟨o, kp b o q⟩, fun b xs q => stay b _ q, fun b o u q => stay b _ q, fun b ps q => ⟨#[], by rw [stay b _ q]; simp⟩⟩ (fun b u q => ?_) I.bare fun b z => by simp at z
  by_cases q1 : b = S
  · subst q1
    rw [eS] at q
    cases q
    exact ⟨by show 2 ≤ sizeLine; decide, [.ref T0, .ref T1], c, .cons rfl (.cons rfl .nil), gS⟩
  · by_cases q2 : b = T0
    · subst q2
      rw [e0] at q
      cases q
      exact ⟨by show 2 ≤ sizeLine; decide, [u0, w0], .cons r0 (.cons r2 .nil), ⟨_, g0, rfl, _, rfl⟩⟩
    · by_cases q3 : b = T1
      · subst q3
        rw [e1] at q
        cases q
        exact ⟨by show 2 ≤ sizeLine; decide, [u1, w1], .cons r1 (.cons r3 .nil), ⟨_, g1, rfl, _, rfl⟩⟩
      · rw [off b q1 q2 q3] at q
        exact (I.hok b u q).stay (fun d v _ y => kp d v y) (fun d y => stay d _ y) fun d xs y => stay d _ y
theorem pe_lzip {e e2 : Expr} {ta : TA} {p p2 pos pos2 : Pos} (hc : X.calm = true) (b : Bn X "list") (b2 : Bn X "zip") (ha : PA X [e, e2] ta)
    (h1 : starEach [.Call (.Name "zip" p2) [e, e2] [] pos2] X.env = (false, eval (.Call (.Name "zip" p2) [e, e2] [] pos2) X.env) :: starEach [] X.env)
    (hs : starEach [e, e2] X.env = (false, eval e X.env) :: starEach [e2] X.env) (hpl : (backTo pos2 (starEach [e2] X.env)).any (·.1) = false) :
    PE X (.Call (.Name "list" p) [.Call (.Name "zip" p2) [e, e2] [] pos2] [] pos) (tLZ X.K ta) := by
  refine ⟨fun pins s σ H Q I h => ?_⟩
  refine Call_ (ld_blt I b.gl b.mg PyProof.Rows.boot_list (PyProof.Rows.callWith_type1 ?_ h1 rfl))
  rw [h1]
  refine Calls.spliced_cons ?_
  refine Call_ (ld_blt I b2.gl b2.mg PyProof.Rows.boot_zip (PyProof.Rows.callWith_type1 (thn (ha.run pos2 pins s σ H _ I h) fun us s1 ⟨vs, H1, I1, r, q⟩ => ?_) hs hpl))
  obtain ⟨l, m, x0, x1, y0, y1, ev, t1, t2, q⟩ := q
  subst ev
  cases r with
  | cons ra rr =>
    cases rr with
    | cons rb rr =>
      cases rr
      cases ra
      cases rb
      obtain ⟨as, va, pa, _⟩ := I1.tuple t1
      obtain ⟨bs, vb, pb, _⟩ := I1.tuple t2
      cases va with
      | cons r0 va =>
        cases va with
        | cons r1 va =>
          cases va
          cases vb with
          | cons r2 vb =>
            cases vb with
            | cons r3 vb =>
              cases vb
              refine wpAny_mono (list_zip (I1.ok.hd hc) pa pb (Q := fun u s' => ∃ x H', L2.Inv X pins σ H' s' ∧ RelV x u ∧ Q x H') (E := X.xe) fun g S T0 T1 c z1 z2 z3 z4 z5 z6 z7 => ?_) (fun u s' h => Calls.spliced_nil h) fun _ _ h => h
              exact ⟨.ref S, _, three_laid I1 z7 z1 z2 z3 z4 z5 z6 r0 r1 r2 r3, rfl, q S T0 T1 (I1.hok.fresh z1) (I1.hok.fresh (Nat.le_trans z1 (Nat.le_of_lt z2))) (I1.hok.fresh (Nat.le_trans z1 (Nat.le_of_lt (Nat.lt_trans z2 z3)))) (Nat.ne_of_lt z2) (Nat.ne_of_lt z3) (Nat.ne_of_lt (Nat.lt_trans z2 z3))⟩
variable {cl : Nat → Addr}
theorem e_lzip {a c : Expr} {p p2 pos pos2 : Pos} {m mc : M B} (hc : X.calm = true) (b : Bn X "list") (b2 : Bn X "zip") (ha : SimE cl X a m) (hcc : SimE cl X c mc) (hs : plainE a = true := by rfl) (hs2 : plainE c = true := by rfl) :
    SimE cl X (.Call (.Name "list" p) [.Call (.Name "zip" p2) [a, c] [] pos2] [] pos) (mLZip m mc) :=
  fun W tk => PE.imp (pe_lzip hc b b2 (pa_cons (ha W tk) (pa_cons (hcc W tk) pa_nil (star_cons hs2)) (star_cons hs)) (star_cons rfl) (star_cons hs) (star_any (es := [c]) (by show (plainE c && true) = true; rw [hs2]; rfl))) fun σ H R ⟨F, ρ, S, h⟩ => by
    refine tM_bind (R1 := RlB) S h fun x b A F1 H1 ρ1 T1 S1 r1 f1 n1 h1 => ?_
    refine tM_bind (R1 := RlB) S1 h1 fun y c A' F2 H2 ρ2 T2 S2 r2 f2 n2 h2 => ?_
    rw [List.append_assoc] at h2
    obtain ⟨d, e, F3, S3, rd, re, sb, h3⟩ := kept2 S2 (r1.mono (F' := F2) (H' := H2) T2.sub fun z m => f1.keep T2 m) r2 (f1.append T2 f2 n2) h2
    obtain ⟨zs, ez, q⟩ := tR_end h3
    unfold lzip2 at ez
    split at ez
    · rename_i d0 d1 e0 e1 eqs
      cases eqs
      cases ez
      cases rd with
      | tup g1 q1 =>
        cases re with
        | tup g2 q2 =>
          cases q1 with
          | cons w0 q1 =>
            cases q1 with
            | cons w1 q1 =>
              cases q1
              cases q2 with
              | cons y0 q2 =>
                cases q2 with
                | cons y1 q2 =>
                  cases q2
                  refine ⟨_, _, _, _, _, _, rfl, S3.sub.sqT g1, S3.sub.sqT g2, fun L t0 t1 nL n0 n1 d1 d2 d3 => ?_⟩
                  obtain ⟨Sa, Ta⟩ := new_sh (o := .tup [_, _]) S3 n0
                  obtain ⟨Sb, Tb⟩ := new_sh (p := t1) (o := .tup [_, _]) Sa (by rw [upd_ne (Ne.symm d2)]; exact n1)
                  obtain ⟨Sc, Tc, fc, nc⟩ := new_own (p := L) (o := .lst [.ref t0, .ref t1]) Sb (by rw [upd_ne d3, upd_ne d1]; exact nL)
                  have T := (Ta.trans0 Tb).trans0 Tc
                  have k0 := Tb.sub _ _ (upd_same (H := F3) (a := t0))
                  refine q _ [L] _ _ T Sc (.ow (.lst upd_same (.cons (.tup (.inl (.inl k0)) (.cons (w0.mono T.sub) (.cons (y0.mono T.sub) .nil))) (.cons (.tup (.inl (.inl upd_same)) (.cons (w1.mono T.sub) (.cons (y1.mono T.sub) .nil))) .nil)))) fc fun z mz => ?_
                  rw [List.mem_singleton.mp mz]
                  exact .inr (.inr nL)
    · cases ez
end
end WF

set_option Elab.async false
set_option linter.all false
set_option maxRecDepth 100000
set_option maxHeartbeats 4000000
/-! WFU: {k: v} with a tuple as its key; walks over the keys of a new dict; list(d), sorted(d), min(a, b), d.get(k, x). -/
namespace WF
open PySem PySem.Spec PyProof.Rows L2
section
variable {X : Cx} {cl : Nat → Addr}
theorem hu9 (hu : Hu X) : (nestedKind X.prog X.w).room X.A := by
  have : X.A.units + 65 < cLine := hu
  show X.A.units + 8 < cLine
  omega
def tDispT (C : Cs) (tk tv : TE) : TE := fun σ H Q => ∀ p, H p = none → tk σ (upd H p (dkT C p [])) fun x H1 => tv σ H1 fun y H2 => H2 p = some (dkT C p []) ∧
  ∃ (b : Addr) (k : D), x = .ref b ∧ Rep C H2 (.ref b) k ∧ keyT k = true ∧ Q (.ref p) (upd H2 p (dkT C p [(nk k, b, y)]))
theorem pe_dispT {pos : Pos} {ke ve : Expr} {tk tv : TE} (hu : Hu X) (hk : PE X ke tk) (hv : PE X ve tv) : PE X (.Dict [some ke] [ve] pos) (tDispT (cs cl X) tk tv) := by
  refine ⟨fun pins s σ H Q I q => ?_⟩
  have hn := I.hok.fresh (Nat.le_refl s.heap.objs.size)
  have nm : (s.heap.objs.size == sysModules) = false := beq_eq_false_iff_ne.mpr (Ne.symm (Nat.ne_of_lt I.big))
  have d0 : (s.heap.push { cls := .type "dict", data := .dict #[] }).DictOfH (nestedKind X.prog X.w) s.heap.objs.size [] :=
    ⟨_, #[], 0, Heap.get?_push_size _ rfl, ⟨rfl, rfl, rfl⟩, rfl, rfl, (fun _ m => nomatch m), List.nodup_nil⟩
  have I1 := I.laid (a := s.heap.objs.size) (o := dkT (cs cl X) s.heap.objs.size []) (h' := s.heap.push { cls := .type "dict", data := .dict #[] }) (t' := s.toks) (fun _ _ e => Heap.get?_push_of_some _ e) (Nat.le_refl _) (dkT_ok .nil d0 (Nat.zero_le _) nm)
  have sh : (evalEachOpt [some ke] X.env).zip ((evalEach [ve] X.env).map fun v => do let x ← v; standAt pos; pure x) = (pairTrees [some ke] [ve] X.env pos).map fun p => (some p.1, p.2) := rfl
  rw [arm_eval_Dict, sh, dictDisplay_pairs (pairTrees [some ke] [ve] X.env pos) (by simp [pairTrees]) (by simp [pairTrees])]
  refine wpAny_bind (wpAny_standAt (wpAny_bind (wpAny_subDictH (knd := nestedKind X.prog X.w) (hu9 hu) (by simp [pairTrees]) ?_)))
  refine pairTrees_cons_walk (thn (hk.run pins _ σ _ _ I1 (q _ hn)) fun u s1 ⟨x, H1, I2, rx, q1⟩ => thn (hv.run pins s1 σ H1 _ I2 q1) fun z s2 ⟨y, H2, I3, ry, e, b, k, ex, rk, hk, q2⟩ => pairTrees_nil_walk ?_)
  subst ex
  cases rx
  obtain ⟨ys, rel, dd, _, _, _⟩ := dk_at (F := fun _ => none) I3 e .nil (fun _ _ h => by cases h)
  cases rel
  refine ⟨[(nk k, b, z)], ⟨rfl, rfl, key_is I3 rk hk, True.intro⟩, dd, fun h' tk d' hs => wpAny_pure ⟨.ref s.heap.objs.size, _, ?_, rfl, q2⟩⟩
  have he : ∃ o, h'.get? s.heap.objs.size = some o := let ⟨o, _, _, ho, _⟩ := d'; ⟨o, ho⟩
  refine I3.write (o := dkT (cs cl X) s.heap.objs.size [(nk k, b, y)]) (by rw [e]; exact True.intro) (.inl rfl) (fun c o n q => hs.extBut c o n q) he (dkT_ok (ys := [(nk k, b, z)]) (.cons ⟨rfl, rfl, ry⟩ .nil) d' ?_ nm)
  show 1 ≤ sizeLine
  decide
end
section
variable {cl : Nat → Addr} {X : Cx} {C : Cs} {σ : St} {F H : Hp} {ρ : Env} {A A0 A' : List Addr} {W : WX} {α β : Type} {R : Rl β α} {Q : β → Hp → Prop}
/-- an object in hand is written -/
theorem hand_put {p : Addr} {o : HO} (S : Stt C F H σ ρ) (fp : F p = none) (no : ¬ Owns σ ρ p) (th : H p ≠ none) : Stt C F (upd H p o) σ ρ ∧ Tr [p] σ F H ρ σ F (upd H p o) ρ := by
  have ne : ∀ {a : Addr}, Owns σ ρ a → a ≠ p := fun q e => no (by rw [← e]; exact q)
  refine ⟨⟨fun a u e => ?_, S.len, fun i b e => ?_, S.dis⟩, ⟨Sub.refl _, fun a u e _ m => ?_, fun _ _ _ _ z => z, fun a e q => ?_, fun a q => .inl q, fun i b q => ⟨⟨b, q⟩, rfl⟩, fun i b q => ⟨b, q⟩⟩⟩
  · have n : a ≠ p := fun z => by rw [z, fp] at e; cases e
    rw [upd_ne n]; exact S.sub _ _ e
  · obtain ⟨v, e1, r⟩ := S.sl i b e
    refine ⟨v, e1, ?_⟩
    cases r with
    | sh r => exact .sh r
    | ow r f => exact .ow (r.mono (Sub.refl _) fun u z => by rw [upd_ne (ne ⟨i, _, e, rfl, e1⟩)]; exact z) f
    | io r f => exact .io (r.mono (Sub.refl _) fun u z => by rw [upd_ne (ne ⟨i, _, e, rfl, e1⟩)]; exact z) f
  · rw [upd_ne (fun z => m (by rw [z]; simp))]; exact e
  · by_cases z : a = p
    · subst z; rw [upd_same] at q; cases q
    · rw [upd_ne z] at q; exact e q
theorem kept2x {x y : V} {b c : B} {k : List D → M α} (S : Stt C F H σ ρ) (r : RB C σ F H x b A) (r' : RB C σ F H y c A') (f : Fp σ F H ρ (A ++ A')) (h : tR C R W (A0 ++ (A ++ A')) F ρ (bind (kept [b, c]) k) σ H Q) :
    ∃ d e F1, Stt C F1 H σ ρ ∧ Tr (A ++ A') σ F H ρ σ F1 H ρ ∧ Rep C F1 x d ∧ Rep C F1 y e ∧ tR C R W A0 F1 ρ (k [d, e]) σ H Q := by
  have rs : RBs C σ F H [x, y] [b, c] (A ++ (A' ++ [])) := .cons r (.cons r' .nil)
  rw [List.append_nil] at rs
  unfold kept at h
  split at h
  · rename_i n
    obtain ⟨ds, e, h⟩ := tR_step h fun _ _ => dats_pure
    have e : datsL ρ [b, c] = some ds := by
      unfold dats at e
      split at e
      · cases e
      · cases e; assumption
    obtain ⟨S1, T1⟩ := share S f
    have rd := rs.in_ (sub_addF f) (fun a m o q => by rw [addF_in m]; exact q) n e
    cases rd with
    | cons r1 t =>
      cases t with
      | cons r2 t =>
        cases t
        exact ⟨_, _, addF F H (A ++ A'), S1, T1, r1, r2, tR_from (T1.hand fun a m => List.mem_append_right _ m) (fun a m => .inr (.inl (List.mem_append_left _ m))) h⟩
  · obtain ⟨r', ρ', e', h⟩ := h
    cases e'
theorem sim_dic1 {pos : Pos} {ke ve : Expr} {mk mv : M B} (hu : Hu X) (ha : SimE cl X ke mk) (hc : SimE cl X ve mv) : SimE cl X (.Dict [some ke] [ve] pos) (mDic1 mk mv) := fun W tk => PE.imp (pe_dispT (cl := cl) hu (ha W tk) (hc W tk)) fun σ H Q ⟨F, ρ, S, h⟩ p hp => by
  obtain ⟨S0, T0, f0, n0⟩ := new_own (o := dkT (cs cl X) p []) S hp
  have h0 := tR_from (A1 := [p]) T0 n0 h
  have p0 : p ∈ [p] := List.mem_cons_self
  refine tM_bind (R1 := RlB) (A0 := [p]) S0 h0 fun x b A F1 H1 ρ1 T1 S1 r1 f1 n1 h1 => ?_
  have g1 := f0.tr T1
  refine tM_bind (R1 := RlB) (A0 := [p] ++ A) S1 h1 fun y c A' F2 H2 ρ2 T2 S2 r2 f2 n2 h2 => ?_
  rw [List.append_assoc] at h2
  have g2 := g1.tr T2
  have np : p ∉ A ++ A' := fun m => by
    rcases List.mem_append.mp m with m | m
    · rcases n1 p m with z | z | z
      · exact f0.no p p0 z
      · exact nomatch z
      · exact f0.th p p0 z
    · rcases n2 p m with z | z | z
      · exact g1.no p p0 z
      · exact nomatch z
      · exact g1.th p p0 z
  have e1 := f0.keep T1 p0 _ (upd_same (H := H) (a := p))
  have e2 := g1.keep T2 p0 _ e1
  obtain ⟨d, e, F3, S3, T3, rd, re, h3⟩ := kept2x S2 (r1.mono (F' := F2) (H' := H2) T2.sub fun z m => f1.keep T2 m) r2 (f1.append T2 f2 n2) h2
  refine ⟨e2, ?_⟩
  have h3 : tR (cs cl X) RlB W [p] F3 ρ2 (if keyT d = true then ret (.ow (.dic true [(d, e)])) else stuck) σ H2 Q := h3
  by_cases hk : keyT d = true
  · rw [if_pos hk] at h3
    obtain ⟨b, rfl⟩ := keyT_ref hk rd
    have f3 : F3 p = none := T3.nofz p (g2.th p p0) (g2.no p p0) np (g2.nf p p0)
    obtain ⟨S4, T4⟩ := hand_put (o := dkT (cs cl X) p [(nk d, b, y)]) S3 f3 (g2.no p p0) (g2.th p p0)
    refine ⟨b, d, rfl, rd.mono S3.sub, hk, tR_ret h3 _ [p] F3 _ T4 S4 (.ow (.dicT upd_same (.cons hk rd re .nil))) ⟨by simp, fun a m => ?_, fun a m => ?_, fun a m => ?_⟩ fun a m => .inr (.inl m)⟩
    · rw [List.mem_singleton.mp m]; exact f3
    · rw [List.mem_singleton.mp m]; exact g2.no p p0
    · rw [List.mem_singleton.mp m, upd_same]; simp
  · rw [if_neg hk] at h3
    exact tR_stuck h3
end
/-! ### the keys of a new dict, walked -/
/-- the dict at a, just this object -/
def dkX (C : Cs) (a : Addr) (o : Obj) (xs : List XT) : HO := .ext fun h => h.get? a = some o ∧ o.ExactDict ∧ ∃ ys : List YT, RelT xs ys ∧ ∃ es ep, o.data = .dict es ep ∧ es.toList = ys.map (entryOfKey (nestedKind C.P C.w))
def ItX (C : Cs) (d : Addr) (o : Obj) (xs : List XT) : It :=
  ⟨fun i H => H d = some (dkX C d o xs) ∧ i < xs.length, fun i H x H' => H' = H ∧ ∃ k a v, xs[i]? = some (k, a, v) ∧ x = .ref a, fun i H => H d = some (dkX C d o xs) ∧ xs.length ≤ i⟩
theorem relT_get : ∀ {xs : List XT} {ys : List YT}, RelT xs ys → ∀ {i : Nat} {k : NestedKey} {a : Addr} {v : V}, xs[i]? = some (k, a, v) → ∃ u, ys[i]? = some (k, a, u) ∧ RelV v u
  | _, _, .nil, _, _, _, _, e => by cases e
  | _, _, .cons (b := q) r t, i, k, a, v, e => by
    cases i with
    | zero =>
      cases e
      obtain ⟨q1, q2, q3⟩ := q
      obtain ⟨h1, h2, h3⟩ := r
      cases h1
      cases h2
      exact ⟨q3, rfl, h3⟩
    | succ i => exact relT_get t (i := i) e
section
variable {P : Program} {w : World} {K : PySem.W.Frag} {cl : Nat → Addr} {tg : Expr} {d : Addr} {o : Obj} {xs : List XT} {es : Array DictEntry} {ep : Nat}
theorem turn_keysX (it : Addr) (hod : o.data = .dict es ep) : Turn P w K tg (ItX ⟨P, w, K, cl⟩ d o xs) [it] it (fun i h => h.IsKeyIter it d i xs.length ep) where
  mem := by simp
  obj := fun i h st b hb => by
    have e : b = it := by simpa using hb
    subst e
    obtain ⟨u, e, c, dd⟩ := st
    exact ⟨u, e, fun v z => by rw [dd] at z; cases z⟩
  keep := fun i h h' st k => st.at fun u e => k it (by simp) u e
  item := by
    intro X hP hw hK hc i pins s σ H E I hf st hg
    subst hP hw hK
    obtain ⟨hd, hi⟩ := hg
    obtain ⟨f0, f1, f2, f3, f4, f5⟩ := hf it (by simp)
    obtain ⟨⟨g1, g2, ys, rel, es', ep', g3, g4⟩, _⟩ := I.hok d _ hd
    obtain ⟨rfl, rfl⟩ := dict_ep hod g3
    obtain ⟨⟨k, a, v⟩, hx⟩ : ∃ p, xs[i]? = some p := ⟨xs[i], List.getElem?_eq_getElem hi⟩
    obtain ⟨u, hy, ru⟩ := relT_get rel hx
    have sz : es'.size = xs.length := by rw [← Array.length_toList, g4, List.length_map]; exact rel.length.symm
    have en : es'[i]? = some (entryOfKey (nestedKind X.prog X.w) (k, a, u)) := by rw [← Array.getElem?_toList, g4, List.getElem?_map, hy]; rfl
    refine next_key_item st g1 hod sz en fun h' st' sb => ?_
    have I1 : Inv X pins σ H { s with heap := h' } := I.turned (t' := s.toks) (fun b ob hb e => (sb.2 b hb).trans e) f0 f1 f3 f4 f5
    obtain ⟨u', e, c, dd⟩ := id st'
    exact ⟨_, rfl, go_of (s := { s with heap := h' }) e c dd (by decide) ⟨.ref a, H, I1, rfl, ⟨rfl, k, a, v, hx, rfl⟩, st', fun b hb => (hf b hb).1⟩⟩
  done := by
    intro X hP hw hK hc i pins s σ H E I hf st hg
    subst hP hw hK
    obtain ⟨hd, hi⟩ := hg
    obtain ⟨f0, f1, f2, f3, f4, f5⟩ := hf it (by simp)
    obtain ⟨⟨g1, g2, ys, rel, es', ep', g3, g4⟩, _⟩ := I.hok d _ hd
    obtain ⟨rfl, rfl⟩ := dict_ep hod g3
    have sz : es'.size = xs.length := by rw [← Array.length_toList, g4, List.length_map]; exact rel.length.symm
    exact next_key_end (I.ok.hd hc) st g1 hod sz hi fun h' eb => ⟨rfl, I.turned (t' := s.toks) (fun b ob hb e => eb b ob hb e) f0 f1 f3 f4 f5⟩
  self := fun A i s Q E st h => wpAny_pyIter_keyiter st h
end
section
variable {cl : Nat → Addr} {X : Cx} {C : Cs} {σ : St} {F H : Hp} {ρ : Env} {A A0 A' : List Addr} {W : WX}
def iKeysX (C : Cs) (te : TE) : TI := fun σ H R => te σ H fun x H1 => ∃ (d : Addr) (F : Hp) (xs : List XT) (kvs : List (D × D)), x = .ref d ∧ H1 d = some (dkT C d xs) ∧ RepT C F xs kvs ∧ Sub F H1 ∧ ∀ o, R (ItX C d o xs) (upd H1 d (dkX C d o xs))
theorem pi_keysX {tg e : Expr} {te : TE} (he : PE X e te) : PI X tg e (iKeysX (cs cl X) te) := by
  refine ⟨fun pins s σ H R I h => ?_⟩
  refine thn (he.run pins s σ H _ I h) fun u s1 ⟨x, H1, I1, rx, d, F, xs, kvs, ex, hd, rk, sub, q⟩ => ?_
  subst ex
  obtain rfl : u = Value.ref d := rx
  obtain ⟨ys, rel, ⟨o, es, ep, g1, g2, g3, g4, g5, g6⟩, _, nm, _⟩ := dk_at I1 hd rk sub
  have ok : ObjOk X.prog X.w (upd H1 d (dkX (cs cl X) d o xs)) s1.heap d (dkX (cs cl X) d o xs) :=
    ⟨⟨g1, g2, ys, rel, es, ep, g3, g4⟩, ⟨o, g1⟩, fun h1 h2 ⟨z1, z⟩ k => ⟨k _ z1, z⟩⟩
  have I2 : Inv X pins σ (upd H1 d (dkX (cs cl X) d o xs)) s1 := I1.write (h' := s1.heap) (t' := s1.toks) (by rw [hd]; exact True.intro) (.inl rfl) (fun _ _ _ z => z) ⟨o, g1⟩ ok
  have sz : es.size = xs.length := by rw [← Array.length_toList, g4, List.length_map]; exact rel.length.symm
  refine iter_keys nm g1 g2 g3 (pi_one (tk := s1.toks) I2 _ (turn_keysX (cl := cl) _ g3) ⟨_, Heap.get?_push_size _ rfl, rfl, ?_⟩ (q o))
  rw [sz] <;> rfl
/-- an object in hand is locked and shared -/
theorem hand_lock {p : Addr} {o : HO} (S : Stt C F H σ ρ) (fp : F p = none) (no : ¬ Owns σ ρ p) (th : H p ≠ none) : Stt C (upd F p o) (upd H p o) σ ρ ∧ Tr [p] σ F H ρ σ (upd F p o) (upd H p o) ρ := by
  have ne : ∀ {a : Addr}, Owns σ ρ a → a ≠ p := fun q e => no (by rw [← e]; exact q)
  have kf : Sub F (upd F p o) := fun a u e => by rw [upd_ne (fun z => by rw [z, fp] at e; cases e)]; exact e
  refine ⟨⟨fun a u e => ?_, S.len, fun i b e => ?_, S.dis⟩, ⟨kf, fun a u e _ m => ?_, fun a e n m z => ?_, fun a e q => ?_, fun a q => .inl q, fun i b q => ⟨⟨b, q⟩, rfl⟩, fun i b q => ⟨b, q⟩⟩⟩
  · by_cases z : a = p
    · subst z; rw [upd_same] at e ⊢; exact e
    · rw [upd_ne z] at e ⊢; exact S.sub _ _ e
  · obtain ⟨v, e1, r⟩ := S.sl i b e
    refine ⟨v, e1, ?_⟩
    cases r with
    | sh r => exact .sh (r.mono kf)
    | ow r f => exact .ow (r.mono kf fun u z => by rw [upd_ne (ne ⟨i, _, e, rfl, e1⟩)]; exact z) (by rw [upd_ne (ne ⟨i, _, e, rfl, e1⟩)]; exact f)
    | io r f => exact .io (r.mono kf fun u z => by rw [upd_ne (ne ⟨i, _, e, rfl, e1⟩)]; exact z) (by rw [upd_ne (ne ⟨i, _, e, rfl, e1⟩)]; exact f)
  · rw [upd_ne (fun z => m (by rw [z]; simp))]; exact e
  · rw [upd_ne (fun z => m (by rw [z]; simp))]; exact z
  · by_cases z : a = p
    · subst z; rw [upd_same] at q; cases q
    · rw [upd_ne z] at q; exact e q
theorem repT_get : ∀ {xs : List XT} {kvs : List (D × D)}, RepT C F xs kvs → ∀ {i : Nat} {k : NestedKey} {a : Addr} {v : V}, xs[i]? = some (k, a, v) → ∃ d, (kvs.map (·.1))[i]? = some d ∧ Rep C F (.ref a) d
  | _, _, .nil, _, _, _, _, e => by cases e
  | _, _, .cons g rk rv t, i, k, a, v, e => by
    cases i with
    | zero => cases e; exact ⟨_, rfl, rk⟩
    | succ i => exact repT_get t (i := i) e
theorem sim_keys {tg l : Expr} {m : M B} (ha : SimE cl X l m) : SimI cl X tg l (itKeys m) := fun W tk => PI.imp (pi_keysX (cl := cl) (ha W tk)) fun σ H R ⟨F, ρ, S, h⟩ =>
  tM_bind (R1 := RlB) S h fun x b A F1 H1 ρ1 T1 S1 r1 f1 n1 h1 => by
    obtain ⟨ds, e, q⟩ := tR_end h1
    unfold keysOf at e
    split at e
    · rename_i kvs
      cases e
      cases r1 with
      | ow r =>
        cases r with
        | @dicT xs _ hH rx =>
          rename_i d
          have md : d ∈ [d] := List.mem_cons_self
          refine ⟨d, F1, xs, kvs, rfl, hH, rx, S1.sub, fun o => ?_⟩
          obtain ⟨S2, T2⟩ := hand_lock (o := dkX (cs cl X) d o xs) S1 (f1.nf d md) (f1.no d md) (f1.th d md)
          have rx2 := rx.mono T2.sub
          refine q _ [] _ _ T2 S2 ⟨⟨fun i H' hi s => ⟨s _ _ upd_same, ?_⟩, fun H' s => ⟨s _ _ upd_same, ?_⟩, fun i H' v H'' hi s y => ?_⟩, rfl⟩ Fp.nil New.nil
          · rw [List.length_map] at hi; rw [rx.length]; exact hi
          · rw [List.length_map, rx.length]; exact Nat.le_refl _
          · obtain ⟨rfl, k, a, v', hx, rfl⟩ := y
            obtain ⟨dd, e1, e2⟩ := repT_get rx2 hx
            exact ⟨dd, e1, .inl ⟨rfl, e2⟩⟩
    · cases e
end
/-! ### min(a, b); x.get(k, e) -/
section
variable {cl : Nat → Addr} {X : Cx} {C : Cs} {σ : St} {F H : Hp} {ρ : Env} {A A0 A' : List Addr} {W : WX}
theorem e_min2 {a b : Expr} {p pos : Pos} {ma mb : M B} (hc : X.calm = true) (n : Bn X "min") (ha : SimE cl X a ma) (hb : SimE cl X b mb) (hs : plainE a = true := by rfl) (hs2 : plainE b = true := by rfl) : SimE cl X (.Call (.Name "min" p) [a, b] [] pos) (mMin ma mb) := fun W tk =>
  PE.imp (pe_callB (call_min2 hc) n.gl n.mg (by decide +kernel) (pa_cons (ha W tk) (pa_cons (hb W tk) pa_nil (star_cons hs2)) (star_cons hs)) (by decide) (by decide) (star_cons hs) (star_any (by show (plainE b && true) = true; rw [hs2]; rfl))) fun σ H Q ⟨F, ρ, S, h⟩ =>
    two_bind S h fun x y d e F2 H2 ρ2 S2 v w q => by
      obtain ⟨r, er, q⟩ := tR_end q
      unfold iMin at er
      split at er
      · cases er
        obtain rfl := v.int
        obtain rfl := w.int
        exact ⟨_, _, rfl, q.data S2 (.int _)⟩
      · cases er
theorem e_get2 {i : Nat} {x : Str} {a b : Expr} {ma mb : M B} {p ap cp : Pos} (hN : X.N[i]? = some x) (hv : Vis X.env.scope x) (n : Nm x) (hu : Hu X) (ha : SimE cl X a ma) (hb : SimE cl X b mb)
    (hm : M2 X (.Name x p) "get" ap a b cp) : SimE cl X (.Call (.Attribute (.Name x p) "get" ap) [a, b] [] cp) (mGetN i ma mb) := fun W tk =>
  PE.imp (pe_dget2 (by have : X.A.units + 65 < cLine := hu; omega) (pe_var hN hv n.d n.c) (ha W tk) (hb W tk) hm) fun σ H Q ⟨F, ρ, S, h⟩ => by
    obtain ⟨o, eo, h⟩ := tR_step h fun _ _ => has_pure
    obtain ⟨a, es, ro, fo⟩ := has_of S eo
    obtain ⟨hl, h⟩ := tR_if h
    cases ro with
    | @dicS xs kvs hH rx =>
      refine ⟨.ref a, es, a, rfl, .inl ⟨xs, .inl hH⟩, ?_⟩
      refine one_bind S h fun y k F1 H1 ρ1 S1 v q => ?_
      cases k with
      | str s =>
        obtain ⟨rfl, ot⟩ := v.str
        refine tM_bind (R1 := RlB) S1 q fun z c A F2 H2 ρ2 T2 S2 r2 f2 n2 q => ?_
        obtain ⟨d, F3, S3, rd, sb, q⟩ := kept1 S2 r2 f2 q
        obtain ⟨o, eo, q⟩ := tR_step q fun _ _ => has_pure
        obtain ⟨a', es', ro', fo'⟩ := has_of S3 eo
        rw [es] at es'
        cases es'
        obtain ⟨r, er, q⟩ := tR_end q
        cases ro' with
        | @dicS ys kvs' hH' ry =>
          cases er
          refine ⟨_, DGet.k (k := Sum.inr (mkS s)) hH', ?_⟩
          obtain ⟨g1, g2⟩ := repS_has ry s
          cases hk : lookD kvs' (.str s) with
          | none =>
            rw [hk] at g1 q
            cases hv : valV ys (Sum.inr (mkS s)) with
            | none => exact q.data S3 rd
            | some u => rw [hv] at g1; cases g1
          | some e =>
            obtain ⟨u, e1, e2⟩ := g2 e hk
            rw [hk] at q
            rw [e1]
            exact q.data S3 e2
        | _ => cases er
      | _ => exact tR_stuck q
    | dicT h r => cases hl
    | lst h r => cases hl
    | ins h r => cases hl
end
end WF

set_option Elab.async false
set_option linter.all false
set_option maxRecDepth 100000
set_option maxHeartbeats 1000000
/-! WFP: how the mirror is reckoned with: one lemma a construct, in plain Lean (core and WFA alone). -/
namespace WF
section
variable {ρ ρ1 ρ2 : Env} {α β : Type}
theorem bind_eq {m : M α} {k : α → M β} {a : α} (h : m ρ = some (.ok a, ρ1)) : bind m k ρ = k a ρ1 := by
  unfold bind
  rw [h]
theorem bind_exc {m : M α} {k : α → M β} {c : Nat} {p : Option (Txt × D)} (h : m ρ = some (.exc c p, ρ1)) : bind m k ρ = some (.exc c p, ρ1) := by
  unfold bind
  rw [h]
/-! statements -/
theorem sIf_eq {t : M Bool} {a b : S} {p : Bool} (h : t ρ = some (.ok p, ρ1)) : sIf t a b ρ = if p then a ρ1 else b ρ1 := by
  unfold sIf
  rw [bind_eq h]
  cases p <;> rfl
theorem sSeq_nx {a b : S} (h : a ρ = some (.ok .nx, ρ1)) : sSeq a b ρ = b ρ1 := by
  unfold sSeq
  rw [bind_eq h]
theorem sSeq_rt {a b : S} {v : B} (h : a ρ = some (.ok (.rt v), ρ1)) : sSeq a b ρ = some (.ok (.rt v), ρ1) := by
  unfold sSeq
  rw [bind_eq h]
  rfl
theorem sSeq_exc {a b : S} {c : Nat} {p : Option (Txt × D)} (h : a ρ = some (.exc c p, ρ1)) : sSeq a b ρ = some (.exc c p, ρ1) := by
  unfold sSeq
  rw [bind_exc h]
theorem sRet_sh {m : M B} {d : D} (h : m ρ = some (.ok (.sh d), ρ1)) : sRet m ρ = some (.ok (.rt (.sh d)), ρ1) := by
  unfold sRet
  rw [bind_eq h]
  rfl
theorem sRet_ow {m : M B} {o : O} (h : m ρ = some (.ok (.ow o), ρ1)) : sRet m ρ = some (.ok (.rt (.ow o)), ρ1) := by
  unfold sRet
  rw [bind_eq h]
  rfl
theorem sDrop_eq {m : M B} {b : B} (h : m ρ = some (.ok b, ρ1)) : sDrop m ρ = some (.ok .nx, ρ1) := by
  unfold sDrop
  rw [bind_eq h]
  rfl
/-- if t: return m, then k -/
theorem guard_eq {t : M Bool} {m : M B} {k : S} {p : Bool} {d : D} (h : t ρ = some (.ok p, ρ1)) (hm : p = true → m ρ1 = some (.ok (.sh d), ρ1)) : sSeq (sIf t (sRet m) sPass) k ρ = if p then some (.ok (.rt (.sh d)), ρ1) else k ρ1 := by
  cases p with
  | true =>
    have := sIf_eq (a := sRet m) (b := sPass) h
    exact sSeq_rt (this.trans (sRet_sh (hm rfl)))
  | false => exact sSeq_nx (sIf_eq (a := sRet m) (b := sPass) h)
theorem guard_no {t : M Bool} {a k : S} (h : t ρ = some (.ok false, ρ1)) : sSeq (sIf t a sPass) k ρ = k ρ1 := sSeq_nx (sIf_eq (a := a) (b := sPass) h)
theorem guard_yes {t : M Bool} {m : M B} {k : S} {d : D} (h : t ρ = some (.ok true, ρ1)) (hm : m ρ1 = some (.ok (.sh d), ρ2)) : sSeq (sIf t (sRet m) sPass) k ρ = some (.ok (.rt (.sh d)), ρ2) :=
  sSeq_rt ((sIf_eq (a := sRet m) (b := sPass) h).trans (sRet_sh hm))
/-! values, tests -/
theorem mAnd_eq {a b : M B} {p : Bool} (h : a ρ = some (.ok (.sh (.bl p)), ρ1)) : mAnd a b ρ = if p then b ρ1 else some (.ok (.sh (.bl false)), ρ1) := by
  unfold mAnd
  rw [bind_eq h]
  cases p <;> rfl
theorem mOr_eq {a b : M B} {p : Bool} (h : a ρ = some (.ok (.sh (.bl p)), ρ1)) : mOr a b ρ = if p then some (.ok (.sh (.bl true)), ρ1) else b ρ1 := by
  unfold mOr
  rw [bind_eq h]
  cases p <;> rfl
theorem mAnd_bl {a b : M B} {p q : Bool} (h : a ρ = some (.ok (.sh (.bl p)), ρ)) (h2 : p = true → b ρ = some (.ok (.sh (.bl q)), ρ)) : mAnd a b ρ = some (.ok (.sh (.bl (p && q))), ρ) := by
  rw [mAnd_eq h]
  cases p with
  | true => rw [if_pos rfl, h2 rfl]; rfl
  | false => rfl
theorem mOr_bl {a b : M B} {p q : Bool} (h : a ρ = some (.ok (.sh (.bl p)), ρ)) (h2 : p = false → b ρ = some (.ok (.sh (.bl q)), ρ)) : mOr a b ρ = some (.ok (.sh (.bl (p || q))), ρ) := by
  rw [mOr_eq h]
  cases p with
  | false => rw [if_neg Bool.false_ne_true, h2 rfl]; rfl
  | true => rfl
theorem mNot_bl {a : M B} {p : Bool} (h : a ρ = some (.ok (.sh (.bl p)), ρ1)) : mNot a ρ = some (.ok (.sh (.bl (!p))), ρ1) := by
  unfold mNot
  rw [bind_eq h]
  rfl
theorem tV_bl {a : M B} {p : Bool} (h : a ρ = some (.ok (.sh (.bl p)), ρ1)) : tV a ρ = some (.ok p, ρ1) := by
  unfold tV
  rw [bind_eq h]
  rfl
theorem tNot_eq {a : M Bool} {p : Bool} (h : a ρ = some (.ok p, ρ1)) : tNot a ρ = some (.ok (!p), ρ1) := by
  unfold tNot
  rw [bind_eq h]
  rfl
theorem tOr_eq {a b : M Bool} {p q : Bool} (h : a ρ = some (.ok p, ρ)) (h2 : p = false → b ρ = some (.ok q, ρ)) : tOr a b ρ = some (.ok (p || q), ρ) := by
  unfold tOr
  rw [bind_eq h]
  cases p with
  | true => rfl
  | false => exact h2 rfl
theorem tAnd_eq {a b : M Bool} {p q : Bool} (h : a ρ = some (.ok p, ρ)) (h2 : p = true → b ρ = some (.ok q, ρ)) : tAnd a b ρ = some (.ok (p && q), ρ) := by
  unfold tAnd
  rw [bind_eq h]
  cases p with
  | true => exact h2 rfl
  | false => rfl
theorem mIf_eq {t : M Bool} {a b : M B} {p : Bool} (h : t ρ = some (.ok p, ρ1)) : mIf t a b ρ = if p then a ρ1 else b ρ1 := by
  unfold mIf
  rw [bind_eq h]
  cases p <;> rfl
theorem mOp_sh {f : D → D → Option B} {a b : M B} {x y : D} {r : B} (ha : a ρ = some (.ok (.sh x), ρ1)) (hb : b ρ1 = some (.ok (.sh y), ρ2)) (h : f x y = some r) : mOp f a b ρ = some (.ok r, ρ2) := by
  unfold mOp
  rw [bind_eq ha, bind_eq hb]
  show lift (f x y) ρ2 = _
  rw [h]
  rfl
theorem mOp_dat {f : D → D → Option B} {a b : M B} {x y : B} {dx dy : D} {r : B} (ha : a ρ = some (.ok x, ρ1)) (hb : b ρ1 = some (.ok y, ρ2)) (hx : x.dat ρ2 = some dx) (hy : y.dat ρ2 = some dy) (h : f dx dy = some r) : mOp f a b ρ = some (.ok r, ρ2) := by
  unfold mOp
  rw [bind_eq ha, bind_eq hb]
  have ex : dat x ρ2 = some (.ok dx, ρ2) := by unfold dat; rw [hx]
  have ey : dat y ρ2 = some (.ok dy, ρ2) := by unfold dat; rw [hy]
  show bind (dat x) (fun d => bind (dat y) fun e => lift (f d e)) ρ2 = _
  rw [bind_eq ex, bind_eq ey]
  show lift (f dx dy) ρ2 = _
  rw [h]
  rfl
theorem mUn_sh {f : D → Option B} {a : M B} {x : D} {r : B} (ha : a ρ = some (.ok (.sh x), ρ1)) (h : f x = some r) : mUn f a ρ = some (.ok r, ρ1) := by
  unfold mUn
  rw [bind_eq ha]
  show lift (f x) ρ1 = _
  rw [h]
  rfl
theorem mP_sh {i : Nat} {d : D} (h : ρ.at i = some (.sh d)) : mP i ρ = some (.ok (.sh d), ρ) := by
  unfold mP
  rw [h]
theorem mV_sh {i : Nat} {d : D} (h : ρ.at i = some (.sh d)) : mV i ρ = some (.ok (.sh d), ρ) := by
  unfold mV
  rw [h]
theorem mMv_sh {i : Nat} {d : D} (h : ρ.at i = some (.sh d)) : mMv i ρ = some (.ok (.sh d), ρ) := by
  unfold mMv
  rw [h]
theorem mIx_sh {a b : M B} {x y z : D} (ha : a ρ = some (.ok (.sh x), ρ1)) (hb : b ρ1 = some (.ok (.sh y), ρ2)) (h : iIx x y = some (.sh z)) : mIx a b ρ = some (.ok (.sh z), ρ2) := by
  unfold mIx
  rw [bind_eq ha, bind_eq hb]
  show lift (iIx x y) ρ2 = _
  rw [h]
  rfl
theorem eq_bl {x y : D} (hx : x.dep ≤ 60) (hy : y.dep ≤ 60) : iEq x y = some (.sh (.bl (D.eqv x y))) := by
  unfold iEq
  rw [if_pos (by simp [hx, hy])]
  rfl
theorem ne_bl {x y : D} (hx : x.dep ≤ 60) (hy : y.dep ≤ 60) : iNe x y = some (.sh (.bl (!D.eqv x y))) := by
  unfold iNe
  rw [if_pos (by simp [hx, hy])]
  rfl
/-! calls with data -/
theorem handL_sh : ∀ ds : List D, handL ρ (ds.map B.sh) = some (ds.map SB.sh)
  | [] => rfl
  | d :: ds => by
    show (match handB ρ (B.sh d), handL ρ (ds.map B.sh) with | some x, some xs => some (x :: xs) | _, _ => none) = _
    rw [handL_sh ds]
    rfl
theorem lent_sh : ∀ ds : List D, lent (ds.map B.sh) = []
  | [] => rfl
  | d :: ds => lent_sh ds
theorem backL_sh : ∀ (ds : List D) (os : Env), backL ρ (ds.map B.sh) os = ρ
  | [], os => by unfold backL; rfl
  | d :: ds, [] => rfl
  | d :: ds, o :: os => backL_sh ds os
theorem callF_sh {f : Fn} {ds : List D} {r : Res B} {os : Env} (h : f (ds.map SB.sh) = some (r, os)) : callF f (ds.map B.sh) ρ = some (r, ρ) := by
  unfold callF
  rw [lent_sh, handL_sh]
  simp only [nodupN, if_true, h, backL_sh]
theorem mCall_sh {f : Fn} {as : M (List B)} {ds : List D} {r : Res B} {os : Env} (ha : as ρ = some (.ok (ds.map B.sh), ρ1)) (h : f (ds.map SB.sh) = some (r, os)) : mCall f as ρ = some (r, ρ1) := by
  unfold mCall
  rw [bind_eq ha]
  exact callF_sh h
theorem mCons_eq {a : M B} {as : M (List B)} {b : B} {bs : List B} (ha : a ρ = some (.ok b, ρ1)) (h : as ρ1 = some (.ok bs, ρ2)) : mCons a as ρ = some (.ok (b :: bs), ρ2) := by
  unfold mCons
  rw [bind_eq ha, bind_eq h]
  rfl
theorem mNil_eq : mNil ρ = some (.ok [], ρ) := rfl
/-- a def whose body returns -/
theorem fn_rt {np n : Nat} {body : S} {args : List SB} {b : B} (hl : args.length = np) (h : body (args.map some ++ List.replicate (n - np) none) = some (.ok (.rt b), ρ)) : mkFn np n body args = some (.ok b, outs np ρ) := by
  unfold mkFn
  rw [if_pos hl, h]
theorem fn_nx {np n : Nat} {body : S} {args : List SB} (hl : args.length = np) (h : body (args.map some ++ List.replicate (n - np) none) = some (.ok .nx, ρ)) : mkFn np n body args = some (.ok (.sh .non), outs np ρ) := by
  unfold mkFn
  rw [if_pos hl, h]
theorem fn_exc {np n : Nat} {body : S} {args : List SB} {c : Nat} {p : Option (Txt × D)} (hl : args.length = np) (h : body (args.map some ++ List.replicate (n - np) none) = some (.exc c p, ρ)) : mkFn np n body args = some (.exc c p, outs np ρ) := by
  unfold mkFn
  rw [if_pos hl, h]
/-! loops -/
theorem forGo_cons {t : Tg} {body : S} {d : D} {ds : List D} (h : putTg ρ t d = some ρ1) : forGo t body (d :: ds) ρ = bind body (fun f => match f with | .nx => forGo t body ds | .ct => forGo t body ds | .bk => ret .nx | .rt b => ret (.rt b)) ρ1 := by
  show (match putTg ρ t d with | none => none | some ρ1 => bind body _ ρ1) = _
  rw [h] <;> rfl
/-- a loop whose turns go on -/
theorem forGo_inv {t : Tg} {body : S} (I : Env → Prop) : ∀ {ds : List D}, (∀ d ∈ ds, ∀ ρ, I ρ → ∃ ρ1 ρ2, putTg ρ t d = some ρ1 ∧ body ρ1 = some (.ok .nx, ρ2) ∧ I ρ2) → ∀ ρ, I ρ → ∃ ρ', forGo t body ds ρ = some (.ok .nx, ρ') ∧ I ρ'
  | [], _, ρ, h => ⟨ρ, rfl, h⟩
  | d :: ds, st, ρ, h => by
    obtain ⟨ρ1, ρ2, e1, e2, h2⟩ := st d List.mem_cons_self ρ h
    obtain ⟨ρ', e3, h3⟩ := forGo_inv I (fun d m => st d (List.mem_cons_of_mem _ m)) ρ2 h2
    refine ⟨ρ', ?_, h3⟩
    rw [forGo_cons e1, bind_eq e2]
    exact e3
/-- the same by place -/
theorem forGo_at {t : Tg} {body : S} (I : Nat → Env → Prop) : ∀ {ds : List D} (i : Nat), (∀ (j : Nat) d, ds[j]? = some d → ∀ ρ, I (i + j) ρ → ∃ ρ1 ρ2, putTg ρ t d = some ρ1 ∧ body ρ1 = some (.ok .nx, ρ2) ∧ I (i + j + 1) ρ2) → ∀ ρ, I i ρ → ∃ ρ', forGo t body ds ρ = some (.ok .nx, ρ') ∧ I (i + ds.length) ρ'
  | [], i, _, ρ, h => ⟨ρ, rfl, h⟩
  | d :: ds, i, st, ρ, h => by
    obtain ⟨ρ1, ρ2, e1, e2, h2⟩ := st 0 d rfl ρ h
    obtain ⟨ρ', e3, h3⟩ := forGo_at I (ds := ds) (i + 1) (fun j d e ρ hI => by
      have := st (j + 1) d (by simpa using e) ρ (by rw [show i + (j + 1) = i + 1 + j by omega]; exact hI)
      rw [show i + (j + 1) + 1 = i + 1 + j + 1 by omega] at this
      exact this) ρ2 h2
    refine ⟨ρ', ?_, by rw [List.length_cons, show i + (ds.length + 1) = i + 1 + ds.length by omega]; exact h3⟩
    rw [forGo_cons e1, bind_eq e2]
    exact e3
/-- a comprehension whose turns leave the other names as they are: some items, by g -/
theorem compGo_map {t : Tg} {c : M Bool} {e : M B} (I : Env → Prop) (g : D → Option D) : ∀ {ds : List D}, (∀ d ∈ ds, ∀ ρ, I ρ → ∃ ρ1 ρ2, putTg (clr ρ t.slots) t d = some ρ1 ∧ I ρ2 ∧ ((g d = none ∧ c ρ1 = some (.ok false, ρ2)) ∨ ∃ x ρ3 b, g d = some x ∧ c ρ1 = some (.ok true, ρ3) ∧ e ρ3 = some (.ok b, ρ2) ∧ noPl b = true ∧ b.dat ρ2 = some x)) →
    ∀ acc ρ, I ρ → ∃ ρ', compGo t c e ds acc ρ = some (.ok (acc ++ ds.filterMap g), ρ') ∧ I ρ'
  | [], _, acc, ρ, h => ⟨ρ, by rw [List.filterMap_nil, List.append_nil]; rfl, h⟩
  | d :: ds, st, acc, ρ, h => by
    obtain ⟨ρ1, ρ2, e1, h2, q⟩ := st d List.mem_cons_self ρ h
    have u : compGo t c e (d :: ds) acc ρ = bind c (fun k => if k then bind e fun x => bind (kept [x]) fun v => compGo t c e ds (acc ++ v) else compGo t c e ds acc) ρ1 := by
      show (match putTg (clr ρ t.slots) t d with | none => none | some ρ1 => bind c _ ρ1) = _
      rw [e1]
    rw [u]
    rcases q with ⟨g0, ec⟩ | ⟨x, ρ3, b, g1, ec, ee, nb, ed⟩
    · obtain ⟨ρ', e3, h3⟩ := compGo_map I g (fun d m => st d (List.mem_cons_of_mem _ m)) acc ρ2 h2
      refine ⟨ρ', ?_, h3⟩
      rw [bind_eq ec, List.filterMap_cons_none g0]
      exact e3
    · obtain ⟨ρ', e3, h3⟩ := compGo_map I g (fun d m => st d (List.mem_cons_of_mem _ m)) (acc ++ [x]) ρ2 h2
      refine ⟨ρ', ?_, h3⟩
      have ek : kept [b] ρ2 = some (.ok [x], ρ2) := by
        unfold kept
        rw [if_pos (by simp [nb])]
        show (match datsL ρ2 [b] with | none => none | some ds => some (Res.ok ds, ρ2)) = _
        have : datsL ρ2 [b] = some [x] := by
          show (match b.dat ρ2, datsL ρ2 [] with | some d, some ds => some (d :: ds) | _, _ => none) = _
          rw [ed]
          rfl
        rw [this]
      rw [bind_eq ec, List.filterMap_cons_some g1]
      show bind e (fun x => bind (kept [x]) fun v => compGo t c e ds (acc ++ v)) ρ3 = _
      rw [bind_eq ee, bind_eq ek, e3, List.append_assoc]
      rfl
/-- a comprehension over one name, its turns pure -/
theorem set_self {i : Nat} (h : ρ.at i = none) : ρ.set i none = ρ := by
  apply List.ext_getElem?
  intro j
  by_cases e : i = j
  · subst e
    by_cases hl : i < ρ.length
    · rw [List.getElem?_set_self hl]
      have h' : ρ.getD i none = none := h
      rw [List.getD_eq_getElem?_getD, List.getElem?_eq_getElem hl] at h'
      rw [List.getElem?_eq_getElem hl]
      exact congrArg some (by simpa using h'.symm)
    · rw [List.getElem?_eq_none (by simp; omega), List.getElem?_eq_none (by omega)]
  · rw [List.getElem?_set_ne e]
theorem at_set_self {i : Nat} {o : Option SB} (h : i < ρ.length) : Env.at (ρ.set i o) i = o := by
  show (ρ.set i o).getD i none = o
  rw [List.getD_eq_getElem?_getD, List.getElem?_set_self h]
  rfl
theorem mComp_pure {ρ0 : Env} {i : Nat} {it : M (List D)} {c : M Bool} {e : M B} {ds : List D} (g : D → Option D) (hit : it ρ0 = some (.ok ds, ρ)) (hi : i < ρ.length) (h0 : ρ.at i = none) (hz : ds.length ≤ LIM)
    (st : ∀ d ∈ ds, (g d = none ∧ c (ρ.set i (some (.sh d))) = some (.ok false, ρ.set i (some (.sh d)))) ∨ ∃ x, g d = some x ∧ c (ρ.set i (some (.sh d))) = some (.ok true, ρ.set i (some (.sh d))) ∧ e (ρ.set i (some (.sh d))) = some (.ok (.sh x), ρ.set i (some (.sh d)))) :
    mComp (.one i) it c e ρ0 = some (.ok (.ow (.lst (ds.filterMap g))), ρ) := by
  have cl : ∀ o : Option SB, clr (ρ.set i o) [i] = ρ := fun o => by
    show (ρ.set i o).set i none = ρ
    rw [List.set_set]
    exact set_self h0
  obtain ⟨ρ', e1, o, e2⟩ := compGo_map (t := .one i) (c := c) (e := e) (fun ρ' => ∃ o, ρ' = ρ.set i o) g (ds := ds) (fun d m ρ1 ⟨o, h⟩ => by
    subst h
    refine ⟨ρ.set i (some (.sh d)), ρ.set i (some (.sh d)), ?_, ⟨_, rfl⟩, ?_⟩
    · show putS (clr (ρ.set i o) [i]) i (.sh d) = _
      rw [cl]
      unfold putS
      rw [if_pos hi, h0]
    · rcases st d m with ⟨a, b⟩ | ⟨x, a, b, f⟩
      · exact .inl ⟨a, b⟩
      · exact .inr ⟨x, _, .sh x, a, b, f, rfl, rfl⟩) [] ρ ⟨none, (set_self h0).symm⟩
  unfold mComp
  rw [bind_eq hit]
  have fr : free ρ (Tg.one i).slots = true := by
    show (([i] : List Nat).all fun i => match ρ.at i with | none => decide (i < ρ.length) | some (.sh _) => true | some _ => false) = true
    simp [h0, hi]
  have ne : noExc (compGo (.one i) c e ds []) ρ = some (.ok (ds.filterMap g), ρ') := by
    unfold noExc
    rw [e1]
    rfl
  have hz' : (ds.filterMap g).length ≤ LIM := Nat.le_trans (List.length_filterMap_le _ _) hz
  show (if free ρ (Tg.one i).slots then match noExc (compGo (.one i) c e ds []) ρ with
      | some (.ok vs, ρ1) => if vs.length ≤ LIM then some (Res.ok (B.ow (.lst vs)), back ρ ρ1 (Tg.one i).slots) else none
      | _ => none else none) = _
  rw [fr, ne]
  show (if (ds.filterMap g).length ≤ LIM then some (Res.ok (B.ow (.lst (ds.filterMap g))), back ρ ρ' [i]) else none) = _
  rw [if_pos hz']
  have : back ρ ρ' [i] = ρ := by
    show ρ'.set i (ρ.at i) = ρ
    rw [h0, e2, List.set_set]
    exact set_self h0
  rw [this]
theorem items_sh {m : M B} {d : D} {ds : List D} (h : m ρ = some (.ok (.sh d), ρ1)) (e : dItems d = some ds) : items m ρ = some (.ok ds, ρ1) := by
  unfold items
  rw [bind_eq h]
  show bind (kept [B.sh d]) _ ρ1 = _
  rw [bind_eq (m := kept [B.sh d]) (a := [d]) (ρ1 := ρ1) rfl]
  show lift (dItems d) ρ1 = _
  rw [e]
  rfl
theorem bools_map {p : D → Bool} : ∀ ds : List D, bools (ds.map fun d => .bl (p d)) = some (ds.map p)
  | [] => rfl
  | d :: ds => by
    show (bools (ds.map fun d => .bl (p d))).map (fun bs => p d :: bs) = _
    rw [bools_map ds]
    rfl
theorem filterMap_some {g : D → D} : ∀ ds : List D, ds.filterMap (fun d => some (g d)) = ds.map g
  | [] => rfl
  | d :: ds => by
    rw [List.filterMap_cons_some (f := fun d => some (g d)) (b := g d) rfl, filterMap_some ds]
    rfl
theorem all_ow {m : M B} {ds : List D} {p : D → Bool} (h : m ρ = some (.ok (.ow (.lst (ds.map fun d => .bl (p d)))), ρ1)) : mAll m ρ = some (.ok (.sh (.bl (ds.all p))), ρ1) := by
  unfold mAll mUn
  rw [bind_eq h]
  show lift (iAll (.lst (ds.map fun d => .bl (p d)))) ρ1 = _
  unfold iAll
  simp only [bools_map]
  show some (Res.ok (boo ((ds.map p).all id)), ρ1) = _
  rw [List.all_map]
  rfl
theorem sSeq_assoc (a b c : S) : sSeq (sSeq a b) c ρ = sSeq a (sSeq b c) ρ := by
  unfold sSeq
  unfold bind
  cases h : a ρ with
  | none => rfl
  | some q =>
    obtain ⟨r, ρ1⟩ := q
    cases r with
    | exc c p => rfl
    | ok f => cases f <;> rfl
theorem sSet_ow {i : Nat} {m : M B} {o : O} (h : m ρ = some (.ok (.ow o), ρ1)) (p : putS ρ1 i (.ow o) = some ρ2) : sSet i m ρ = some (.ok .nx, ρ2) := by
  unfold sSet
  rw [bind_eq h]
  show bind (ret (SB.ow o)) (fun b => bindS i b) ρ1 = _
  rw [bind_eq (m := ret (SB.ow o)) (a := SB.ow o) (ρ1 := ρ1) rfl]
  unfold bindS
  rw [p]
theorem sSet_sh {i : Nat} {m : M B} {d : D} (h : m ρ = some (.ok (.sh d), ρ1)) (p : putS ρ1 i (.sh d) = some ρ2) : sSet i m ρ = some (.ok .nx, ρ2) := by
  unfold sSet
  rw [bind_eq h]
  show bind (ret (SB.sh d)) (fun b => bindS i b) ρ1 = _
  rw [bind_eq (m := ret (SB.sh d)) (a := SB.sh d) (ρ1 := ρ1) rfl]
  unfold bindS
  rw [p]
theorem mLst_eq {es : M (List B)} {bs : List B} {ds : List D} (h : es ρ = some (.ok bs, ρ1)) (f : few bs = true) (k : kept bs ρ1 = some (.ok ds, ρ1)) : mLst es ρ = some (.ok (.ow (.lst ds)), ρ1) := by
  unfold mLst
  rw [bind_eq h, f]
  show bind (kept bs) (fun ds => ret (B.ow (.lst ds))) ρ1 = _
  rw [bind_eq k]
  rfl
theorem mTup_eq {es : M (List B)} {bs : List B} {ds : List D} (h : es ρ = some (.ok bs, ρ1)) (f : few bs = true) (k : kept bs ρ1 = some (.ok ds, ρ1)) : mTup es ρ = some (.ok (.sh (.tup ds)), ρ1) := by
  unfold mTup
  rw [bind_eq h, f]
  show bind (kept bs) (fun ds => ret (B.sh (.tup ds))) ρ1 = _
  rw [bind_eq k]
  rfl
end
end WF

set_option Elab.async false
set_option linter.all false
set_option maxRecDepth 100000
set_option maxHeartbeats 1000000
/-! WFV: the mirror reckoned by simp, construct by construct: K runs m and goes on; what comes behind is kept in named frames (simp does not look into them). Core Lean and WFA alone. -/
namespace WF
section
variable {α β γ : Type}
abbrev Ct (α β : Type) := α → Env → Option β
abbrev Ex (β : Type) := Nat → Option (Txt × D) → Env → Option β
/-- run m, then go on -/
def K (m : M α) (ρ : Env) (k : Ct α β) (e : Ex β) : Option β :=
  match m ρ with
  | none => none
  | some (.ok a, ρ1) => k a ρ1
  | some (.exc c p, ρ1) => e c p ρ1
def KO (o : Option α) (k : Ct α β) (ρ : Env) : Option β := match o with | none => none | some a => k a ρ
def KE (o : Option Env) (k : Env → Option β) : Option β := match o with | none => none | some ρ => k ρ
def noX : Ex β := fun _ _ _ => none
variable {ρ ρ1 : Env} {k : Ct α β} {e : Ex β}
theorem KO_some {a : α} : KO (some a) k ρ = k a ρ := rfl
theorem KO_none : KO none k ρ = none := rfl
theorem KO_ite {c : Prop} [Decidable c] {a b : Option α} : KO (if c then a else b) k ρ = if c then KO a k ρ else KO b k ρ := by split <;> rfl
theorem KE_some {k : Env → Option β} : KE (some ρ) k = k ρ := rfl
theorem KE_none {k : Env → Option β} : KE none k = none := rfl
theorem KE_ite {c : Prop} [Decidable c] {a b : Option Env} {k : Env → Option β} : KE (if c then a else b) k = if c then KE a k else KE b k := by split <;> rfl
theorem K_eq {m : M α} {a : α} (h : m ρ = some (.ok a, ρ1)) : K m ρ k e = k a ρ1 := by unfold K; rw [h]
theorem K_exc {m : M α} {c p} (h : m ρ = some (.exc c p, ρ1)) : K m ρ k e = e c p ρ1 := by unfold K; rw [h]
theorem K_ret {a : α} : K (ret a) ρ k e = k a ρ := rfl
theorem K_stuck : K (stuck) ρ k e = none := rfl
theorem K_bind {m : M γ} {f : γ → M α} : K (bind m f) ρ k e = K m ρ (fun a ρ1 => K (f a) ρ1 k e) e := by
  unfold K bind
  cases m ρ with
  | none => rfl
  | some q => obtain ⟨r, ρ1⟩ := q; cases r <;> rfl
theorem K_lift {o : Option α} : K (lift o) ρ k e = KO o k ρ := by cases o <;> rfl
theorem K_noExc {m : M α} : K (noExc m) ρ k e = K m ρ k noX := by
  unfold K noExc
  cases m ρ with
  | none => rfl
  | some q => obtain ⟨r, ρ1⟩ := q; cases r <;> rfl
/-- from the equation to K and back -/
def kId : Ct α (Res α × Env) := fun a ρ => some (.ok a, ρ)
def eId : Ex (Res α × Env) := fun c p ρ => some (.exc c p, ρ)
theorem K_id {m : M α} : m ρ = K m ρ kId eId := by
  unfold K
  cases m ρ with
  | none => rfl
  | some q => obtain ⟨r, ρ1⟩ := q; cases r <;> rfl
theorem kId_eq {a : α} : kId a ρ = some (.ok a, ρ) := rfl
theorem eId_eq {c p} : (eId : Ex (Res α × Env)) c p ρ = some (.exc c p, ρ) := rfl
def un1 (f : D → Option α) (o : Option D) : Option α := o.bind f
theorem un1_some {f : D → Option α} {d : D} : un1 f (some d) = f d := rfl
def op2 (f : D → D → Option α) (x y : Option D) : Option α := x.bind fun d => y.bind fun g => f d g
theorem op2_some {f : D → D → Option α} {d g : D} : op2 f (some d) (some g) = f d g := rfl
theorem K_if {c : Bool} {a b : M α} : K (if c = true then a else b) ρ k e = if c = true then K a ρ k e else K b ρ k e := by cases c <;> rfl
end
section
variable {β : Type} {ρ ρ1 : Env} {e : Ex β} {k : Ct B β} {ks : Ct (List B) β} {kb : Ct Bool β} {kd : Ct (List D) β} {kf : Ct Fl β}
/-! data -/
theorem K_dat {b : B} {k : Ct D β} : K (dat b) ρ k e = KO (b.dat ρ) k ρ := by
  unfold K dat KO
  cases b.dat ρ <;> rfl
theorem dat_sh {d : D} : (B.sh d).dat ρ = some d := rfl
theorem dat_ow {o : O} : (B.ow o).dat ρ = o.toD := rfl
theorem dat_pl {i : Nat} : (B.pl i).dat ρ = (ρ.at i).bind SB.toD := by
  show (match ρ.at i with | some b => b.toD | none => none) = _
  cases ρ.at i <;> rfl
theorem dat_tp {bs : List SB} : (B.tp bs).dat ρ = (sbsD bs).map D.tup := by
  show (match sbsD bs with | some ds => some (D.tup ds) | none => none) = _
  cases sbsD bs <;> rfl
theorem sbsD_nil : sbsD [] = some [] := rfl
theorem sbsD_cons {b : SB} {r : List SB} : sbsD (b :: r) = b.toD.bind fun d => (sbsD r).map fun ds => d :: ds := by
  show (match b.toD, sbsD r with | some d, some ds => some (d :: ds) | _, _ => none) = _
  cases b.toD <;> cases sbsD r <;> rfl
theorem toD_sh {d : D} : (SB.sh d).toD = some d := rfl
theorem toD_ow {o : O} : (SB.ow o).toD = o.toD := rfl
theorem toD_io {o : O} : (SB.io o).toD = o.toD := rfl
theorem toD_lst {xs : List D} : (O.lst xs).toD = some (.lst xs) := rfl
theorem toD_dic {t : Bool} {xs : List (D × D)} : (O.dic t xs).toD = some (.dic t xs) := rfl
theorem at_zero {x : Option SB} {r : Env} : Env.at (x :: r) 0 = x := rfl
theorem at_succ {x : Option SB} {r : Env} {n : Nat} : Env.at (x :: r) (n + 1) = Env.at r n := rfl
def kV (i : Nat) (k : Ct B β) : Ct SB β := fun s ρ => match s with
  | .sh d => k (.sh d) ρ
  | .ow o => match o.toD with | some d => k (.sh d) (ρ.set i (some (.sh d))) | none => none
  | .io _ => none
theorem kV_sh {i : Nat} {d : D} : kV i k (.sh d) ρ = k (.sh d) ρ := rfl
theorem kV_lst {i : Nat} {xs : List D} : kV i k (.ow (.lst xs)) ρ = k (.sh (.lst xs)) (ρ.set i (some (.sh (.lst xs)))) := rfl
theorem kV_dic {i : Nat} {t : Bool} {xs : List (D × D)} : kV i k (.ow (.dic t xs)) ρ = k (.sh (.dic t xs)) (ρ.set i (some (.sh (.dic t xs)))) := rfl
theorem K_mV {i : Nat} : K (mV i) ρ k e = KO (ρ.at i) (kV i k) ρ := by
  unfold K mV
  cases ρ.at i with
  | none => rfl
  | some b => cases b with
    | ow o => cases o <;> rfl
    | _ => rfl
def kP (i : Nat) (k : Ct B β) : Ct SB β := fun s ρ => match s with
  | .sh d => k (.sh d) ρ
  | .ow _ => k (.pl i) ρ
  | .io _ => k (.pl i) ρ
theorem kP_sh {i : Nat} {d : D} : kP i k (.sh d) ρ = k (.sh d) ρ := rfl
theorem kP_ow {i : Nat} {o : O} : kP i k (.ow o) ρ = k (.pl i) ρ := rfl
theorem kP_io {i : Nat} {o : O} : kP i k (.io o) ρ = k (.pl i) ρ := rfl
theorem K_mP {i : Nat} : K (mP i) ρ k e = KO (ρ.at i) (kP i k) ρ := by
  unfold K mP
  cases ρ.at i with
  | none => rfl
  | some b => cases b <;> rfl
def kM (i : Nat) (k : Ct B β) : Ct SB β := fun s ρ => match s with
  | .sh d => k (.sh d) ρ
  | .ow o => k (.ow o) (ρ.set i none)
  | .io _ => none
theorem kM_sh {i : Nat} {d : D} : kM i k (.sh d) ρ = k (.sh d) ρ := rfl
theorem kM_ow {i : Nat} {o : O} : kM i k (.ow o) ρ = k (.ow o) (ρ.set i none) := rfl
theorem K_mMv {i : Nat} : K (mMv i) ρ k e = KO (ρ.at i) (kM i k) ρ := by
  unfold K mMv
  cases ρ.at i with
  | none => rfl
  | some b => cases b <;> rfl
theorem K_mK {d : D} : K (mK d) ρ k e = k (.sh d) ρ := rfl
/-! operators -/
def kOp2 (f : D → D → Option B) (x : B) (k : Ct B β) : Ct B β := fun y ρ => KO (op2 f (x.dat ρ) (y.dat ρ)) k ρ
theorem kOp2_eq {f : D → D → Option B} {x y : B} : kOp2 f x k y ρ = KO (op2 f (x.dat ρ) (y.dat ρ)) k ρ := rfl
def kOp1 (f : D → D → Option B) (b : M B) (k : Ct B β) (e : Ex β) : Ct B β := fun x ρ => K b ρ (kOp2 f x k) e
theorem kOp1_eq {f : D → D → Option B} {b : M B} {x : B} : kOp1 f b k e x ρ = K b ρ (kOp2 f x k) e := rfl
theorem K_mOp {f : D → D → Option B} {a b : M B} : K (mOp f a b) ρ k e = K a ρ (kOp1 f b k e) e := by
  unfold mOp
  simp only [K_bind]
  congr 1; funext x ρ1
  show K b ρ1 _ e = K b ρ1 _ e
  congr 1; funext y ρ2
  simp only [K_dat, kOp2]
  cases x.dat ρ2 with
  | none => rfl
  | some d =>
    show KO (y.dat ρ2) (fun a ρ1 => K (lift (f d a)) ρ1 k e) ρ2 = _
    cases y.dat ρ2 with
    | none => rfl
    | some g => exact K_lift
def kUn (f : D → Option B) (k : Ct B β) : Ct B β := fun x ρ => KO (un1 f (x.dat ρ)) k ρ
theorem kUn_eq {f : D → Option B} {x : B} : kUn f k x ρ = KO (un1 f (x.dat ρ)) k ρ := rfl
theorem K_mUn {f : D → Option B} {a : M B} : K (mUn f a) ρ k e = K a ρ (kUn f k) e := by
  unfold mUn
  simp only [K_bind]
  congr 1; funext x ρ1
  simp only [K_dat, kUn]
  cases x.dat ρ1 with
  | none => rfl
  | some d => exact K_lift
theorem K_mNeg {a : M B} : K (mNeg a) ρ k e = K a ρ (kUn iNeg k) e := K_mUn
def isNB (d : D) : Option B := some (.sh (.bl d.isNon))
def notNB (d : D) : Option B := some (.sh (.bl (!d.isNon)))
theorem isNB_eq {d : D} : isNB d = some (.sh (.bl d.isNon)) := rfl
theorem notNB_eq {d : D} : notNB d = some (.sh (.bl (!d.isNon))) := rfl
theorem K_mIsN {a : M B} : K (mIsN a) ρ k e = K a ρ (kUn isNB k) e := by
  unfold mIsN
  simp only [K_bind]
  congr 1; funext x ρ1
  simp only [K_dat, kUn]
  cases x.dat ρ1 <;> rfl
theorem K_mNotN {a : M B} : K (mNotN a) ρ k e = K a ρ (kUn notNB k) e := by
  unfold mNotN
  simp only [K_bind]
  congr 1; funext x ρ1
  simp only [K_dat, kUn]
  cases x.dat ρ1 <;> rfl
def bitB : B → Option Bool
  | .sh (.bl b) => some b
  | _ => none
def lele (d g : D) : Option (Bool × D) := (iLe d g).bind fun r => (bitB r).map fun q => (q, g)
theorem lele_int {a b : Int} : lele (.int a) (.int b) = some (decide (a ≤ b), .int b) := rfl
def kLL3 (c : M B) (k : Ct B β) (e : Ex β) : Ct (Bool × D) β := fun q ρ => if q.1 = true then K c ρ (kOp2 iLe (.sh q.2) k) e else k (.sh (.bl false)) ρ
theorem kLL3_eq {c : M B} {q : Bool} {g : D} : kLL3 c k e (q, g) ρ = if q = true then K c ρ (kOp2 iLe (.sh g) k) e else k (.sh (.bl false)) ρ := rfl
def kLL2 (x : B) (c : M B) (k : Ct B β) (e : Ex β) : Ct B β := fun y ρ => KO (op2 lele (x.dat ρ) (y.dat ρ)) (kLL3 c k e) ρ
theorem kLL2_eq {x y : B} {c : M B} : kLL2 x c k e y ρ = KO (op2 lele (x.dat ρ) (y.dat ρ)) (kLL3 c k e) ρ := rfl
def kLL1 (b c : M B) (k : Ct B β) (e : Ex β) : Ct B β := fun x ρ => K b ρ (kLL2 x c k e) e
theorem kLL1_eq {b c : M B} {x : B} : kLL1 b c k e x ρ = K b ρ (kLL2 x c k e) e := rfl
theorem K_mLeLe {a b c : M B} : K (mLeLe a b c) ρ k e = K a ρ (kLL1 b c k e) e := by
  unfold mLeLe
  simp only [K_bind]
  congr 1; funext x ρ1
  show K b ρ1 _ e = K b ρ1 _ e
  congr 1; funext y ρ2
  simp only [K_dat, kLL2, K_lift, KO]
  cases x.dat ρ2 with
  | none => rfl
  | some d =>
    dsimp only
    cases y.dat ρ2 with
    | none => rfl
    | some g =>
      dsimp only [op2, Option.bind_some]
      unfold lele
      cases iLe d g with
      | none => rfl
      | some r =>
        rcases r with d | o | i | bs
        · cases d with
          | bl b =>
            cases b with
            | true =>
              show K (bind c _) ρ2 k e = K c ρ2 _ e
              simp only [K_bind]
              congr 1; funext z ρ3
              simp only [K_dat, kOp2]
              cases z.dat ρ3 with
              | none => rfl
              | some h => exact K_lift
            | false => rfl
          | _ => rfl
        · rfl
        · rfl
        · rfl
/-! tests -/
def kTV (kb : Ct Bool β) : Ct B β := fun x ρ => KO (un1 D.tru (x.dat ρ)) kb ρ
theorem kTV_eq {x : B} : kTV kb x ρ = KO (un1 D.tru (x.dat ρ)) kb ρ := rfl
theorem K_tV {a : M B} : K (tV a) ρ kb e = K a ρ (kTV kb) e := by
  unfold tV
  simp only [K_bind]
  congr 1; funext x ρ1
  simp only [K_dat, kTV]
  cases x.dat ρ1 with
  | none => rfl
  | some d => exact K_lift
def kTA (b : M Bool) (kb : Ct Bool β) (e : Ex β) : Ct Bool β := fun c ρ => if c = true then K b ρ kb e else kb false ρ
theorem kTA_eq {b : M Bool} {c : Bool} : kTA b kb e c ρ = if c = true then K b ρ kb e else kb false ρ := rfl
theorem K_tAnd {a b : M Bool} : K (tAnd a b) ρ kb e = K a ρ (kTA b kb e) e := by
  unfold tAnd
  simp only [K_bind, K_if, K_ret]
  rfl
def kTO (b : M Bool) (kb : Ct Bool β) (e : Ex β) : Ct Bool β := fun c ρ => if c = true then kb true ρ else K b ρ kb e
theorem kTO_eq {b : M Bool} {c : Bool} : kTO b kb e c ρ = if c = true then kb true ρ else K b ρ kb e := rfl
theorem K_tOr {a b : M Bool} : K (tOr a b) ρ kb e = K a ρ (kTO b kb e) e := by
  unfold tOr
  simp only [K_bind, K_if, K_ret]
  rfl
def kTN (kb : Ct Bool β) : Ct Bool β := fun c ρ => kb (!c) ρ
theorem kTN_eq {c : Bool} : kTN kb c ρ = kb (!c) ρ := rfl
theorem K_tNot {a : M Bool} : K (tNot a) ρ kb e = K a ρ (kTN kb) e := by
  unfold tNot
  simp only [K_bind, K_ret]
  rfl
theorem K_yes : K yes ρ kb e = kb true ρ := rfl
def kMA2 (b : M B) (k : Ct B β) (e : Ex β) : Ct Bool β := fun c ρ => if c = true then K b ρ k e else k (.sh (.bl false)) ρ
theorem kMA2_eq {b : M B} {c : Bool} : kMA2 b k e c ρ = if c = true then K b ρ k e else k (.sh (.bl false)) ρ := rfl
def kMA1 (b : M B) (k : Ct B β) (e : Ex β) : Ct B β := fun x ρ => KO (un1 D.boolV (x.dat ρ)) (kMA2 b k e) ρ
theorem kMA1_eq {b : M B} {x : B} : kMA1 b k e x ρ = KO (un1 D.boolV (x.dat ρ)) (kMA2 b k e) ρ := rfl
theorem K_mAnd {a b : M B} : K (mAnd a b) ρ k e = K a ρ (kMA1 b k e) e := by
  unfold mAnd
  simp only [K_bind, K_dat, K_lift, K_if, K_ret, boo]
  congr 1; funext x ρ1
  unfold kMA1
  cases x.dat ρ1 <;> rfl
def kMO2 (b : M B) (k : Ct B β) (e : Ex β) : Ct Bool β := fun c ρ => if c = true then k (.sh (.bl true)) ρ else K b ρ k e
theorem kMO2_eq {b : M B} {c : Bool} : kMO2 b k e c ρ = if c = true then k (.sh (.bl true)) ρ else K b ρ k e := rfl
def kMO1 (b : M B) (k : Ct B β) (e : Ex β) : Ct B β := fun x ρ => KO (un1 D.boolV (x.dat ρ)) (kMO2 b k e) ρ
theorem kMO1_eq {b : M B} {x : B} : kMO1 b k e x ρ = KO (un1 D.boolV (x.dat ρ)) (kMO2 b k e) ρ := rfl
theorem K_mOr {a b : M B} : K (mOr a b) ρ k e = K a ρ (kMO1 b k e) e := by
  unfold mOr
  simp only [K_bind, K_dat, K_lift, K_if, K_ret, boo]
  congr 1; funext x ρ1
  unfold kMO1
  cases x.dat ρ1 <;> rfl
def notB (d : D) : Option B := d.boolV.map fun c => .sh (.bl (!c))
theorem notB_bl {b : Bool} : notB (.bl b) = some (.sh (.bl (!b))) := rfl
theorem K_mNot {a : M B} : K (mNot a) ρ k e = K a ρ (kUn notB k) e := by
  unfold mNot
  simp only [K_bind, K_dat, K_lift, K_ret, boo]
  congr 1; funext x ρ1
  unfold kUn
  cases x.dat ρ1 with
  | none => rfl
  | some d =>
    show KO d.boolV _ ρ1 = KO (d.boolV.map _) k ρ1
    cases d.boolV <;> rfl
def kIf {α : Type} (a b : M α) (k : Ct α β) (e : Ex β) : Ct Bool β := fun c ρ => if c = true then K a ρ k e else K b ρ k e
theorem kIf_eq {α : Type} {a b : M α} {k : Ct α β} {c : Bool} : kIf a b k e c ρ = if c = true then K a ρ k e else K b ρ k e := rfl
theorem K_mIf {t : M Bool} {a b : M B} : K (mIf t a b) ρ k e = K t ρ (kIf a b k e) e := by
  unfold mIf
  simp only [K_bind, K_if]
  rfl
theorem boolV_bl {b : Bool} : (D.bl b).boolV = some b := rfl
theorem tru_bl {b : Bool} : (D.bl b).tru = some b := rfl
theorem tru_non : D.non.tru = some false := rfl
theorem tru_int {i : Int} : (D.int i).tru = some (i != 0) := rfl
theorem tru_str {s : Txt} : (D.str s).tru = some (!s.isEmpty) := rfl
theorem tru_tup {s : List D} : (D.tup s).tru = some (!s.isEmpty) := rfl
theorem tru_lst {s : List D} : (D.lst s).tru = some (!s.isEmpty) := rfl
/-! displays -/
theorem K_mNil : K mNil ρ ks e = ks [] ρ := rfl
def kC2 (x : B) (ks : Ct (List B) β) : Ct (List B) β := fun xs ρ => ks (x :: xs) ρ
theorem kC2_eq {x : B} {xs : List B} : kC2 x ks xs ρ = ks (x :: xs) ρ := rfl
def kC1 (r : M (List B)) (ks : Ct (List B) β) (e : Ex β) : Ct B β := fun x ρ => K r ρ (kC2 x ks) e
theorem kC1_eq {r : M (List B)} {x : B} : kC1 r ks e x ρ = K r ρ (kC2 x ks) e := rfl
theorem K_mCons {a : M B} {r : M (List B)} : K (mCons a r) ρ ks e = K a ρ (kC1 r ks e) e := by
  unfold mCons
  simp only [K_bind, K_ret]
  rfl
theorem datsL_nil : datsL ρ [] = some [] := rfl
theorem datsL_cons {b : B} {r : List B} : datsL ρ (b :: r) = (b.dat ρ).bind fun d => (datsL ρ r).map fun ds => d :: ds := by
  show (match b.dat ρ, datsL ρ r with | some d, some ds => some (d :: ds) | _, _ => none) = _
  cases b.dat ρ <;> cases datsL ρ r <;> rfl
def keptO (ρ : Env) (bs : List B) : Option (List D) := if bs.all noPl = true then datsL ρ bs else none
theorem keptO_nil : keptO ρ [] = some [] := rfl
theorem keptO_sh {d : D} {bs : List B} : keptO ρ (.sh d :: bs) = (keptO ρ bs).map fun ds => d :: ds := by
  unfold keptO
  rw [List.all_cons, show noPl (B.sh d) = true from rfl, Bool.true_and, datsL_cons]
  by_cases h : bs.all noPl = true
  · rw [if_pos h, if_pos h]; rfl
  · rw [if_neg h, if_neg h]; rfl
theorem keptO_ow {o : O} {bs : List B} : keptO ρ (.ow o :: bs) = o.toD.bind fun d => (keptO ρ bs).map fun ds => d :: ds := by
  unfold keptO
  rw [List.all_cons, show noPl (B.ow o) = true from rfl, Bool.true_and, datsL_cons]
  by_cases h : bs.all noPl = true
  · rw [if_pos h, if_pos h]; rfl
  · rw [if_neg h, if_neg h]; cases o.toD <;> rfl
theorem keptO_tp {o : List SB} {bs : List B} : keptO ρ (.tp o :: bs) = (sbsD o).bind fun d => (keptO ρ bs).map fun ds => .tup d :: ds := by
  unfold keptO
  rw [List.all_cons, show noPl (B.tp o) = true from rfl, Bool.true_and, datsL_cons, dat_tp]
  by_cases h : bs.all noPl = true
  · rw [if_pos h, if_pos h]; cases sbsD o <;> rfl
  · rw [if_neg h, if_neg h]; cases sbsD o <;> rfl
theorem K_kept {bs : List B} : K (kept bs) ρ kd e = KO (keptO ρ bs) kd ρ := by
  unfold kept keptO
  by_cases h : bs.all noPl = true
  · rw [if_pos h, if_pos h]
    unfold K dats
    cases datsL ρ bs <;> rfl
  · rw [if_neg h, if_neg h]
    rfl
def tupO (ρ : Env) (bs : List B) : Option B := if bs.length ≤ 1000 then (keptO ρ bs).map fun ds => B.sh (.tup ds) else none
def lstO (ρ : Env) (bs : List B) : Option B := if bs.length ≤ 1000 then (keptO ρ bs).map fun ds => B.ow (.lst ds) else none
theorem tupO_eq {bs : List B} : tupO ρ bs = if bs.length ≤ 1000 then (keptO ρ bs).map fun ds => B.sh (.tup ds) else none := rfl
theorem lstO_eq {bs : List B} : lstO ρ bs = if bs.length ≤ 1000 then (keptO ρ bs).map fun ds => B.ow (.lst ds) else none := rfl
def kTup (k : Ct B β) : Ct (List B) β := fun bs ρ => KO (tupO ρ bs) k ρ
def kLst (k : Ct B β) : Ct (List B) β := fun bs ρ => KO (lstO ρ bs) k ρ
theorem kTup_eq {bs : List B} : kTup k bs ρ = KO (tupO ρ bs) k ρ := rfl
theorem kLst_eq {bs : List B} : kLst k bs ρ = KO (lstO ρ bs) k ρ := rfl
theorem K_mTup {es : M (List B)} : K (mTup es) ρ k e = K es ρ (kTup k) e := by
  unfold mTup few
  simp only [K_bind]
  congr 1; funext bs ρ1
  unfold kTup tupO
  by_cases h : bs.length ≤ 1000
  · simp only [h, decide_true, if_true, K_bind, K_kept]; cases keptO ρ1 bs <;> rfl
  · simp [h, K_stuck, KO]
theorem K_mLst {es : M (List B)} : K (mLst es) ρ k e = K es ρ (kLst k) e := by
  unfold mLst few
  simp only [K_bind]
  congr 1; funext bs ρ1
  unfold kLst lstO
  by_cases h : bs.length ≤ 1000
  · simp only [h, decide_true, if_true, K_bind, K_kept]; cases keptO ρ1 bs <;> rfl
  · simp [h, K_stuck, KO]
def fzO (ds : List D) : Option B := match ds with | [d] => some (.sh d) | _ => none
theorem fzO_eq {d : D} : fzO [d] = some (.sh d) := rfl
def kFz (k : Ct B β) : Ct B β := fun x ρ => KO ((keptO ρ [x]).bind fzO) k ρ
theorem kFz_eq {x : B} : kFz k x ρ = KO ((keptO ρ [x]).bind fzO) k ρ := rfl
theorem K_mFz {a : M B} : K (mFz a) ρ k e = K a ρ (kFz k) e := by
  unfold mFz
  simp only [K_bind]
  congr 1; funext x ρ1
  rw [K_kept]
  unfold kFz
  cases keptO ρ1 [x] with
  | none => rfl
  | some ds =>
    match ds with
    | [] => rfl
    | [d] => rfl
    | _ :: _ :: _ => rfl
theorem lzip2_eq {a b c d : D} : lzip2 [.tup [a, b], .tup [c, d]] = some (.ow (.lst [.tup [a, c], .tup [b, d]])) := rfl
def kLZ2 (x : B) (k : Ct B β) : Ct B β := fun y ρ => KO ((keptO ρ [x, y]).bind lzip2) k ρ
theorem kLZ2_eq {x y : B} : kLZ2 x k y ρ = KO ((keptO ρ [x, y]).bind lzip2) k ρ := rfl
def kLZ1 (b : M B) (k : Ct B β) (e : Ex β) : Ct B β := fun x ρ => K b ρ (kLZ2 x k) e
theorem kLZ1_eq {b : M B} {x : B} : kLZ1 b k e x ρ = K b ρ (kLZ2 x k) e := rfl
theorem K_mLZip {a b : M B} : K (mLZip a b) ρ k e = K a ρ (kLZ1 b k e) e := by
  unfold mLZip
  simp only [K_bind]
  congr 1; funext x ρ1
  show K b ρ1 _ e = K b ρ1 _ e
  congr 1; funext y ρ2
  rw [K_kept]
  unfold kLZ2
  cases keptO ρ2 [x, y] with
  | none => rfl
  | some ds => exact K_lift
theorem K_mDic0 : K mDic0 ρ k e = k (.ow (.dic false [])) ρ := rfl
def dic1 (ds : List D) : Option B := match ds with | [d, g] => if keyT d = true then some (.ow (.dic true [(d, g)])) else none | _ => none
theorem dic1_eq {d g : D} : dic1 [d, g] = if keyT d = true then some (.ow (.dic true [(d, g)])) else none := rfl
def kD2 (x : B) (k : Ct B β) : Ct B β := fun y ρ => KO ((keptO ρ [x, y]).bind dic1) k ρ
theorem kD2_eq {x y : B} : kD2 x k y ρ = KO ((keptO ρ [x, y]).bind dic1) k ρ := rfl
def kD1 (b : M B) (k : Ct B β) (e : Ex β) : Ct B β := fun x ρ => K b ρ (kD2 x k) e
theorem kD1_eq {b : M B} {x : B} : kD1 b k e x ρ = K b ρ (kD2 x k) e := rfl
theorem K_mDic1 {a b : M B} : K (mDic1 a b) ρ k e = K a ρ (kD1 b k e) e := by
  unfold mDic1
  simp only [K_bind]
  congr 1; funext x ρ1
  show K b ρ1 _ e = K b ρ1 _ e
  congr 1; funext y ρ2
  rw [K_kept]
  unfold kD2
  cases keptO ρ2 [x, y] with
  | none => rfl
  | some ds =>
    show K _ ρ2 k e = KO (dic1 ds) k ρ2
    match ds with
    | [] => rfl
    | [_] => rfl
    | [d, g] =>
      rw [dic1_eq]
      show K (if keyT d then ret (.ow (.dic true [(d, g)])) else stuck) ρ2 k e = _
      cases keyT d <;> rfl
    | _ :: _ :: _ :: _ => rfl
/-! subscripts -/
def elB : SB → Option B
  | .sh d => some (.sh d)
  | .ow o => some (.ow o)
  | .io _ => none
theorem elB_sh {d : D} : elB (.sh d) = some (.sh d) := rfl
theorem elB_ow {d : O} : elB (.ow d) = some (.ow d) := rfl
def ixO (ρ : Env) (x y : B) : Option B := match x with
  | .tp bs => (y.dat ρ).bind fun g => match g with
    | .int j => (atI bs j).bind elB
    | _ => none
  | _ => op2 iIx (x.dat ρ) (y.dat ρ)
theorem ixO_sh {d : D} {y : B} : ixO ρ (.sh d) y = un1 (iIx d) (y.dat ρ) := by
  show op2 iIx (some d) (y.dat ρ) = _
  cases y.dat ρ <;> rfl
theorem ixO_ow {o : O} {y : B} : ixO ρ (.ow o) y = op2 iIx o.toD (y.dat ρ) := rfl
theorem ixO_pl {i : Nat} {y : B} : ixO ρ (.pl i) y = op2 iIx ((B.pl i).dat ρ) (y.dat ρ) := rfl
theorem ixO_tp {bs : List SB} {j : Int} : ixO ρ (.tp bs) (.sh (.int j)) = (atI bs j).bind elB := rfl
def kIx2 (x : B) (k : Ct B β) : Ct B β := fun y ρ => KO (ixO ρ x y) k ρ
theorem kIx2_eq {x y : B} : kIx2 x k y ρ = KO (ixO ρ x y) k ρ := rfl
def kIx1 (i : M B) (k : Ct B β) (e : Ex β) : Ct B β := fun x ρ => K i ρ (kIx2 x k) e
theorem kIx1_eq {i : M B} {x : B} : kIx1 i k e x ρ = K i ρ (kIx2 x k) e := rfl
theorem K_mIx {a i : M B} : K (mIx a i) ρ k e = K a ρ (kIx1 i k e) e := by
  unfold mIx
  simp only [K_bind]
  congr 1; funext x ρ1
  show K i ρ1 _ e = K i ρ1 _ e
  congr 1; funext y ρ2
  have gen : ∀ b : B, (∀ bs, b ≠ .tp bs) → K (bind (dat b) fun d => bind (dat y) fun g => lift (iIx d g)) ρ2 k e = KO (op2 iIx (b.dat ρ2) (y.dat ρ2)) k ρ2 := fun b _ => by
    simp only [K_bind, K_dat]
    cases b.dat ρ2 with
    | none => rfl
    | some d =>
      show KO (y.dat ρ2) (fun a ρ1 => K (lift (iIx d a)) ρ1 k e) ρ2 = _
      cases y.dat ρ2 with
      | none => rfl
      | some g => exact K_lift
  cases x with
  | tp bs =>
    show K (bind (dat y) _) ρ2 k e = KO ((y.dat ρ2).bind _) k ρ2
    simp only [K_bind, K_dat]
    cases y.dat ρ2 with
    | none => rfl
    | some g =>
      cases g with
      | int j =>
        show K (match atI bs j with | some (.sh d) => ret (.sh d) | some (.ow o) => ret (.ow o) | _ => stuck) ρ2 k e = KO ((atI bs j).bind elB) k ρ2
        cases atI bs j with
        | none => rfl
        | some s => cases s <;> rfl
      | _ => rfl
  | sh d => exact gen (.sh d) (fun _ h => by cases h)
  | ow d => exact gen (.ow d) (fun _ h => by cases h)
  | pl d => exact gen (.pl d) (fun _ h => by cases h)
def slO (l h : Option Int) (d : D) : Option B := iSl d l h
theorem slO_eq {l h : Option Int} {d : D} : slO l h d = iSl d l h := rfl
def kSl3 (x : B) (l : Option Int) (k : Ct B β) : Ct (Option Int) β := fun h ρ => KO (un1 (slO l h) (x.dat ρ)) k ρ
theorem kSl3_eq {x : B} {l h : Option Int} : kSl3 x l k h ρ = KO (un1 (slO l h) (x.dat ρ)) k ρ := rfl
def kSl2 (x : B) (hi : Option (M B)) (k : Ct B β) (e : Ex β) : Ct (Option Int) β := fun l ρ => K (mEnd hi) ρ (kSl3 x l k) e
theorem kSl2_eq {x : B} {hi : Option (M B)} {l : Option Int} : kSl2 x hi k e l ρ = K (mEnd hi) ρ (kSl3 x l k) e := rfl
def kSl1 (lo hi : Option (M B)) (k : Ct B β) (e : Ex β) : Ct B β := fun x ρ => K (mEnd lo) ρ (kSl2 x hi k e) e
theorem kSl1_eq {lo hi : Option (M B)} {x : B} : kSl1 lo hi k e x ρ = K (mEnd lo) ρ (kSl2 x hi k e) e := rfl
theorem K_mSl {a : M B} {lo hi : Option (M B)} : K (mSl a lo hi) ρ k e = K a ρ (kSl1 lo hi k e) e := by
  unfold mSl
  simp only [K_bind]
  congr 1; funext x ρ1
  show K (mEnd lo) ρ1 _ e = K (mEnd lo) ρ1 _ e
  congr 1; funext l ρ2
  show K (mEnd hi) ρ2 _ e = K (mEnd hi) ρ2 _ e
  congr 1; funext h ρ3
  simp only [K_dat, kSl3]
  cases x.dat ρ3 with
  | none => rfl
  | some d => exact K_lift
def intD : D → Option (Option Int)
  | .int i => some (some i)
  | _ => none
theorem intD_int {i : Int} : intD (.int i) = some (some i) := rfl
variable {ko : Ct (Option Int) β}
theorem K_mEndN : K (mEnd none) ρ ko e = ko none ρ := rfl
def kEnd (ko : Ct (Option Int) β) : Ct B β := fun x ρ => KO (un1 intD (x.dat ρ)) ko ρ
theorem kEnd_eq {x : B} : kEnd ko x ρ = KO (un1 intD (x.dat ρ)) ko ρ := rfl
theorem K_mEndS {a : M B} : K (mEnd (some a)) ρ ko e = K a ρ (kEnd ko) e := by
  show K (bind a _) ρ ko e = _
  simp only [K_bind]
  congr 1; funext x ρ1
  simp only [K_dat, kEnd]
  cases x.dat ρ1 with
  | none => rfl
  | some d => cases d <;> rfl
theorem K_mRev {a : M B} : K (mRev a) ρ k e = K a ρ (kUn iRev k) e := K_mUn
def get3 (z : Option D) (d g : D) : Option B := z.bind fun h => iGet d g h
theorem get3_eq {z d g : D} : get3 (some z) d g = iGet d g z := rfl
def kG3 (x y : B) (k : Ct B β) : Ct B β := fun z ρ => KO (op2 (get3 (z.dat ρ)) (x.dat ρ) (y.dat ρ)) k ρ
theorem kG3_eq {x y z : B} : kG3 x y k z ρ = KO (op2 (get3 (z.dat ρ)) (x.dat ρ) (y.dat ρ)) k ρ := rfl
def kG2 (x : B) (c : M B) (k : Ct B β) (e : Ex β) : Ct B β := fun y ρ => K c ρ (kG3 x y k) e
theorem kG2_eq {x y : B} {c : M B} : kG2 x c k e y ρ = K c ρ (kG3 x y k) e := rfl
def kG1 (b c : M B) (k : Ct B β) (e : Ex β) : Ct B β := fun x ρ => K b ρ (kG2 x c k e) e
theorem kG1_eq {b c : M B} {x : B} : kG1 b c k e x ρ = K b ρ (kG2 x c k e) e := rfl
theorem K_mGet {a b c : M B} : K (mGet a b c) ρ k e = K a ρ (kG1 b c k e) e := by
  unfold mGet
  simp only [K_bind]
  congr 1; funext x ρ1
  show K b ρ1 _ e = K b ρ1 _ e
  congr 1; funext y ρ2
  show K c ρ2 _ e = K c ρ2 _ e
  congr 1; funext z ρ3
  simp only [K_dat, kG3]
  cases x.dat ρ3 with
  | none => rfl
  | some d =>
    show KO (y.dat ρ3) (fun a ρ1 => KO (z.dat ρ1) (fun b ρ1 => K (lift (iGet d a b)) ρ1 k e) ρ1) ρ3 = _
    cases y.dat ρ3 with
    | none => rfl
    | some g =>
      show KO (z.dat ρ3) (fun b ρ1 => K (lift (iGet d g b)) ρ1 k e) ρ3 = _
      cases z.dat ρ3 with
      | none => rfl
      | some h => exact K_lift
def txtB : B → Option Txt
  | .sh (.str s) => some s
  | _ => none
theorem txtB_str {s : Txt} : txtB (.sh (.str s)) = some s := rfl
def kSp3 (s : Txt) (k : Ct B β) : Ct B β := fun y ρ => KO (un1 (iSplit (.str s)) (y.dat ρ)) k ρ
theorem kSp3_eq {s : Txt} {y : B} : kSp3 s k y ρ = KO (un1 (iSplit (.str s)) (y.dat ρ)) k ρ := rfl
def kSp2 (b : M B) (k : Ct B β) (e : Ex β) : Ct Txt β := fun s ρ => K b ρ (kSp3 s k) e
theorem kSp2_eq {b : M B} {s : Txt} : kSp2 b k e s ρ = K b ρ (kSp3 s k) e := rfl
def kSp1 (b : M B) (k : Ct B β) (e : Ex β) : Ct B β := fun x ρ => KO (txtB x) (kSp2 b k e) ρ
theorem kSp1_eq {b : M B} {x : B} : kSp1 b k e x ρ = KO (txtB x) (kSp2 b k e) ρ := rfl
theorem K_mSplit {a b : M B} : K (mSplit a b) ρ k e = K a ρ (kSp1 b k e) e := by
  unfold mSplit
  simp only [K_bind]
  congr 1; funext x ρ1
  rcases x with d | o | i | bs
  · cases d with
    | str s =>
      show K (bind b _) ρ1 k e = K b ρ1 _ e
      simp only [K_bind]
      congr 1; funext y ρ2
      simp only [K_dat, kSp3]
      cases y.dat ρ2 with
      | none => rfl
      | some g => exact K_lift
    | _ => rfl
  · rfl
  · rfl
  · rfl
/-! calls -/
theorem lent_nil : lent [] = [] := rfl
theorem lent_sh1 {d : D} {r : List B} : lent (.sh d :: r) = lent r := rfl
theorem lent_ow {d : O} {r : List B} : lent (.ow d :: r) = lent r := rfl
theorem lent_tp {d : List SB} {r : List B} : lent (.tp d :: r) = lent r := rfl
theorem lent_pl {i : Nat} {r : List B} : lent (.pl i :: r) = i :: lent r := rfl
theorem nodup0 : nodupN [] = true := rfl
theorem nodup1 {a : Nat} : nodupN [a] = true := rfl
theorem nodup2 {a b : Nat} {r : List Nat} : nodupN (a :: b :: r) = (!((b :: r).elem a) && nodupN (b :: r)) := rfl
theorem handL_nil : handL ρ [] = some [] := rfl
theorem handL_cons {b : B} {r : List B} : handL ρ (b :: r) = (handB ρ b).bind fun x => (handL ρ r).map fun xs => x :: xs := by
  show (match handB ρ b, handL ρ r with | some x, some xs => some (x :: xs) | _, _ => none) = _
  cases handB ρ b <;> cases handL ρ r <;> rfl
theorem handB_sh {d : D} : handB ρ (.sh d) = some (.sh d) := rfl
theorem handB_lst {d : List D} : handB ρ (.ow (.lst d)) = some (.sh (.lst d)) := rfl
theorem handB_dic {t : Bool} {d : List (D × D)} : handB ρ (.ow (.dic t d)) = some (.sh (.dic t d)) := rfl
theorem handB_tp {bs : List SB} : handB ρ (.tp bs) = (sbsD bs).map fun ds => SB.sh (.tup ds) := rfl
def lendS : SB → SB
  | .sh d => .sh d
  | .ow o => .io o
  | .io o => .io o
theorem handB_pl {i : Nat} : handB ρ (.pl i) = (ρ.at i).map lendS := by
  show (match ρ.at i with | some (.sh d) => some (SB.sh d) | some (.ow o) => some (.io o) | some (.io o) => some (.io o) | none => none) = _
  cases ρ.at i with
  | none => rfl
  | some b => cases b <;> rfl
theorem lendS_sh {d : D} : lendS (.sh d) = .sh d := rfl
theorem lendS_ow {o : O} : lendS (.ow o) = .io o := rfl
theorem lendS_io {o : O} : lendS (.io o) = .io o := rfl
def argsO (ρ : Env) (bs : List B) : Option (List SB) := if nodupN (lent bs) = true then handL ρ bs else none
theorem argsO_eq {bs : List B} : argsO ρ bs = if nodupN (lent bs) = true then handL ρ bs else none := rfl
theorem backL_nil {os : Env} : backL ρ [] os = ρ := by cases os <;> rfl
theorem backL_cons {b : B} {r : List B} {o : Option SB} {os : Env} : backL ρ (b :: r) (o :: os) = backL (backB ρ b o) r os := rfl
theorem backB_sh {d : D} {o : Option SB} : backB ρ (.sh d) o = ρ := rfl
theorem backB_ow {d : O} {o : Option SB} : backB ρ (.ow d) o = ρ := rfl
theorem backB_tp {d : List SB} {o : Option SB} : backB ρ (.tp d) o = ρ := rfl
def putE (ρ : Env) (i : Nat) (o : O) : Env := match ρ.at i with | some c => ρ.set i (some (c.put o)) | none => ρ
theorem backB_plN {i : Nat} : backB ρ (.pl i) none = ρ := by
  show (match ρ.at i, (none : Option SB) with | some c, some (.io o) => ρ.set i (some (c.put o)) | _, _ => ρ) = ρ
  cases ρ.at i <;> rfl
theorem backB_plS {i : Nat} {o : O} : backB ρ (.pl i) (some (.io o)) = putE ρ i o := by
  show (match ρ.at i, some (SB.io o) with | some c, some (.io o) => ρ.set i (some (c.put o)) | _, _ => ρ) = _
  unfold putE
  cases ρ.at i <;> rfl
theorem putE_zero {c : SB} {r : Env} {o : O} : putE (some c :: r) 0 o = some (c.put o) :: r := rfl
theorem putE_succ {x : Option SB} {r : Env} {i : Nat} {o : O} : putE (x :: r) (i + 1) o = x :: putE r i o := by
  unfold putE
  rw [at_succ]
  cases Env.at r i <;> rfl
theorem put_ow {o o' : O} : (SB.ow o).put o' = .ow o' := rfl
theorem put_io {o o' : O} : (SB.io o).put o' = .io o' := rfl
theorem sput_sh {d : D} {o' : O} : (SB.sh d).put o' = .sh d := rfl
/-- what a call gave -/
def KF (o : Option (Res B × Env)) (bs : List B) (ρ : Env) (k : Ct B β) (e : Ex β) : Option β :=
  match o with
  | none => none
  | some (.ok a, os) => k a (backL ρ bs os)
  | some (.exc c p, os) => e c p (backL ρ bs os)
theorem KF_ok {a : B} {os : Env} {bs : List B} : KF (some (.ok a, os)) bs ρ k e = k a (backL ρ bs os) := rfl
theorem KF_exc {c p} {os : Env} {bs : List B} : KF (some (.exc c p, os)) bs ρ k e = e c p (backL ρ bs os) := rfl
theorem KF_none {bs : List B} : KF none bs ρ k e = none := rfl
theorem KF_ite {c : Prop} [Decidable c] {a b : Option (Res B × Env)} {bs : List B} : KF (if c then a else b) bs ρ k e = if c then KF a bs ρ k e else KF b bs ρ k e := by split <;> rfl
theorem KF_r {c : Prop} [Decidable c] {a b : Res B} {os : Env} {bs : List B} : KF (some (if c then a else b, os)) bs ρ k e = if c then KF (some (a, os)) bs ρ k e else KF (some (b, os)) bs ρ k e := by split <;> rfl
def kArg (f : Fn) (bs : List B) (k : Ct B β) (e : Ex β) : Ct (List SB) β := fun sbs ρ => KF (f sbs) bs ρ k e
theorem kArg_eq {f : Fn} {bs : List B} {sbs : List SB} : kArg f bs k e sbs ρ = KF (f sbs) bs ρ k e := rfl
def kCall (f : Fn) (k : Ct B β) (e : Ex β) : Ct (List B) β := fun bs ρ => KO (argsO ρ bs) (kArg f bs k e) ρ
theorem kCall_eq {f : Fn} {bs : List B} : kCall f k e bs ρ = KO (argsO ρ bs) (kArg f bs k e) ρ := rfl
theorem K_callF {f : Fn} {bs : List B} : K (callF f bs) ρ k e = KO (argsO ρ bs) (kArg f bs k e) ρ := by
  unfold K callF argsO
  by_cases h : nodupN (lent bs) = true
  · rw [if_pos h, if_pos h]
    cases handL ρ bs with
    | none => rfl
    | some sbs =>
      dsimp only [KO, kArg]
      cases f sbs with
      | none => rfl
      | some q => obtain ⟨r, os⟩ := q; cases r <;> rfl
  · rw [if_neg h, if_neg h]; rfl
theorem K_mCall {f : Fn} {as : M (List B)} : K (mCall f as) ρ k e = K as ρ (kCall f k e) e := by
  unfold mCall
  simp only [K_bind, K_callF]
  rfl
def ioS : Option SB → Option SB
  | some (.io o) => some (.io o)
  | _ => none
theorem ioS_io {o : O} : ioS (some (.io o)) = some (.io o) := rfl
theorem ioS_sh {o : D} : ioS (some (.sh o)) = none := rfl
theorem ioS_ow {o : O} : ioS (some (.ow o)) = none := rfl
theorem ioS_no : ioS none = none := rfl
theorem outs0 : outs 0 ρ = [] := rfl
theorem outs1 : outs 1 ρ = [ioS (ρ.at 0)] := rfl
theorem outs2 : outs 2 ρ = [ioS (ρ.at 0), ioS (ρ.at 1)] := rfl
theorem outs3 : outs 3 ρ = [ioS (ρ.at 0), ioS (ρ.at 1), ioS (ρ.at 2)] := rfl
theorem outs4 : outs 4 ρ = [ioS (ρ.at 0), ioS (ρ.at 1), ioS (ρ.at 2), ioS (ρ.at 3)] := rfl
theorem outs5 : outs 5 ρ = [ioS (ρ.at 0), ioS (ρ.at 1), ioS (ρ.at 2), ioS (ρ.at 3), ioS (ρ.at 4)] := rfl
def kFn (np : Nat) : Ct Fl (Res B × Env) := fun f ρ => match f with
  | .rt b => some (.ok b, outs np ρ)
  | .nx => some (.ok (.sh .non), outs np ρ)
  | _ => none
def eFn (np : Nat) : Ex (Res B × Env) := fun c p ρ => some (.exc c p, outs np ρ)
theorem kFn_rt {np : Nat} {b : B} : kFn np (.rt b) ρ = some (.ok b, outs np ρ) := rfl
theorem kFn_nx {np : Nat} : kFn np .nx ρ = some (.ok (.sh .non), outs np ρ) := rfl
theorem eFn_eq {np c : Nat} {p : Option (Txt × D)} : eFn np c p ρ = some (.exc c p, outs np ρ) := rfl
theorem mkFn_eq {np n : Nat} {body : S} {args : List SB} : mkFn np n body args = if args.length = np then K body (args.map some ++ List.replicate (n - np) none) (kFn np) (eFn np) else none := by
  unfold mkFn K
  by_cases h : args.length = np
  · rw [if_pos h, if_pos h]
    cases body (args.map some ++ List.replicate (n - np) none) with
    | none => rfl
    | some q => obtain ⟨r, ρ1⟩ := q; cases r with
      | exc => rfl
      | ok f => cases f <;> rfl
  · rw [if_neg h, if_neg h]
theorem rep0 : List.replicate 0 (none : Option SB) = [] := rfl
theorem repS {n : Nat} : List.replicate (n + 1) (none : Option SB) = none :: List.replicate n none := rfl
/-! walks -/
def itO (ρ : Env) (x : B) : Option (List D) := (keptO ρ [x]).bind fun ds => ds.head?.bind dItems
theorem itO_eq {x : B} : itO ρ x = (keptO ρ [x]).bind fun ds => ds.head?.bind dItems := rfl
def kIt (kd : Ct (List D) β) : Ct B β := fun x ρ => KO (itO ρ x) kd ρ
theorem kIt_eq {x : B} : kIt kd x ρ = KO (itO ρ x) kd ρ := rfl
theorem K_items {a : M B} : K (items a) ρ kd e = K a ρ (kIt kd) e := by
  unfold items
  simp only [K_bind, K_kept]
  congr 1; funext x ρ1
  unfold kIt itO keptO
  cases hx : ([x] : List B).all noPl with
  | false => rfl
  | true =>
    simp only [if_true]
    rw [datsL_cons, datsL_nil]
    cases x.dat ρ1 with
    | none => rfl
    | some d => exact K_lift
theorem dItems_tup {xs : List D} : dItems (.tup xs) = some xs := rfl
theorem dItems_lst {xs : List D} : dItems (.lst xs) = some xs := rfl
def rngD : D → Option (List D)
  | .int n => if n < 2 ^ 62 ∧ -(2 ^ 62) ≤ n then some (upto n.toNat) else none
  | _ => none
theorem rngD_int {n : Int} : rngD (.int n) = if n < 2 ^ 62 ∧ -(2 ^ 62) ≤ n then some (upto n.toNat) else none := rfl
def kRg (kd : Ct (List D) β) : Ct B β := fun x ρ => KO (un1 rngD (x.dat ρ)) kd ρ
theorem kRg_eq {x : B} : kRg kd x ρ = KO (un1 rngD (x.dat ρ)) kd ρ := rfl
theorem K_itRange {a : M B} : K (itRange a) ρ kd e = K a ρ (kRg kd) e := by
  unfold itRange
  simp only [K_bind]
  congr 1; funext x ρ1
  simp only [K_dat, kRg]
  cases x.dat ρ1 with
  | none => rfl
  | some d =>
    cases d with
    | int n => show K (if _ then ret (upto n.toNat) else stuck) ρ1 kd e = KO (if _ then _ else _) kd ρ1; by_cases h : n < 2 ^ 62 <;> by_cases g : -(2 ^ 62) ≤ n <;> simp only [h, g, decide_true, decide_false, Bool.and_true, Bool.and_false, Bool.true_and, Bool.false_and, and_true, and_false, if_true, if_false, Bool.false_eq_true] <;> rfl
    | _ => rfl
def zipO (ds : List D) : Option (List D) := match ds with | [d, g] => iZip2 d g | _ => none
theorem zipO_eq {d g : D} : zipO [d, g] = iZip2 d g := rfl
def kZ2 (x : B) (kd : Ct (List D) β) : Ct B β := fun y ρ => KO ((keptO ρ [x, y]).bind zipO) kd ρ
theorem kZ2_eq {x y : B} : kZ2 x kd y ρ = KO ((keptO ρ [x, y]).bind zipO) kd ρ := rfl
def kZ1 (b : M B) (kd : Ct (List D) β) (e : Ex β) : Ct B β := fun x ρ => K b ρ (kZ2 x kd) e
theorem kZ1_eq {b : M B} {x : B} : kZ1 b kd e x ρ = K b ρ (kZ2 x kd) e := rfl
theorem K_itZip {a b : M B} : K (itZip a b) ρ kd e = K a ρ (kZ1 b kd e) e := by
  unfold itZip
  simp only [K_bind]
  congr 1; funext x ρ1
  show K b ρ1 _ e = K b ρ1 _ e
  congr 1; funext y ρ2
  rw [K_kept]
  unfold kZ2
  cases keptO ρ2 [x, y] with
  | none => rfl
  | some ds =>
    show K _ ρ2 kd e = KO (zipO ds) kd ρ2
    match ds with
    | [] => rfl
    | [_] => rfl
    | [d, g] => exact K_lift
    | _ :: _ :: _ :: _ => rfl
def enO (ρ : Env) (x : B) : Option (List D) := (keptO ρ [x]).bind fun ds => ds.head?.bind enumD
theorem enO_eq {x : B} : enO ρ x = (keptO ρ [x]).bind fun ds => ds.head?.bind enumD := rfl
def kEn (kd : Ct (List D) β) : Ct B β := fun x ρ => KO (enO ρ x) kd ρ
theorem kEn_eq {x : B} : kEn kd x ρ = KO (enO ρ x) kd ρ := rfl
theorem K_itEnum {a : M B} : K (itEnum a) ρ kd e = K a ρ (kEn kd) e := by
  unfold itEnum
  simp only [K_bind, K_kept]
  congr 1; funext x ρ1
  unfold kEn enO keptO
  cases hx : ([x] : List B).all noPl with
  | false => rfl
  | true =>
    simp only [if_true]
    rw [datsL_cons, datsL_nil]
    cases x.dat ρ1 with
    | none => rfl
    | some d => exact K_lift
theorem zip2_tup {xs ys : List D} : iZip2 (.tup xs) (.tup ys) = some (zipD xs ys) := rfl
theorem zip2_lst {xs ys : List D} : iZip2 (.lst xs) (.lst ys) = some (zipD xs ys) := rfl
theorem zipD_cons {x y : D} {xs ys : List D} : zipD (x :: xs) (y :: ys) = .tup [x, y] :: zipD xs ys := rfl
theorem zipD_nil {ys : List D} : zipD [] ys = [] := rfl
theorem zipD_nil2 {xs : List D} : zipD xs [] = [] := by cases xs <;> rfl
theorem enumD_tup {xs : List D} : enumD (.tup xs) = some (zipD (upto xs.length) xs) := rfl
theorem enumD_lst {xs : List D} : enumD (.lst xs) = some (zipD (upto xs.length) xs) := rfl
theorem putS_succ {x : Option SB} {r : Env} {n : Nat} {b : SB} : putS (x :: r) (n + 1) b = (putS r n b).map fun s => x :: s := by
  unfold putS
  rw [at_succ]
  by_cases h : n < r.length
  · rw [if_pos h, if_pos (by simpa using h)]
    cases Env.at r n with
    | none => rfl
    | some c => cases c <;> rfl
  · rw [if_neg h, if_neg (by simpa using h)]
    rfl
theorem putS_no {r : Env} {b : SB} : putS (none :: r) 0 b = some (some b :: r) := by
  unfold putS
  rw [if_pos (by simp)]
  rfl
theorem putS_sh {r : Env} {b : SB} {d : D} : putS (some (.sh d) :: r) 0 b = some (some b :: r) := by
  unfold putS
  rw [if_pos (by simp)]
  rfl
theorem putS_ow {r : Env} {b : SB} {d : O} : putS (some (.ow d) :: r) 0 b = some (some b :: r) := by
  unfold putS
  rw [if_pos (by simp)]
  rfl
theorem putTg_one {i : Nat} {d : D} : putTg ρ (.one i) d = putS ρ i (.sh d) := rfl
theorem putTg_tup {is : List Nat} {ds : List D} : putTg ρ (.tup is) (.tup ds) = if is.length = ds.length then putSs ρ is ds else none := rfl
theorem putSs_nil : putSs ρ [] [] = some ρ := rfl
theorem putSs_cons {i : Nat} {is : List Nat} {d : D} {ds : List D} : putSs ρ (i :: is) (d :: ds) = (putS ρ i (.sh d)).bind fun ρ1 => putSs ρ1 is ds := by
  show (match putS ρ i (.sh d) with | some ρ1 => putSs ρ1 is ds | none => none) = _
  cases putS ρ i (.sh d) <;> rfl
theorem slots_one {i : Nat} : (Tg.one i).slots = [i] := rfl
theorem slots_tup {is : List Nat} : (Tg.tup is).slots = is := rfl
theorem clr_nil : clr ρ [] = ρ := rfl
theorem clr_cons {i : Nat} {is : List Nat} : clr ρ (i :: is) = (clr ρ is).set i none := rfl
theorem back_nil {ρ1 : Env} : back ρ ρ1 [] = ρ1 := rfl
theorem back_cons {ρ1 : Env} {i : Nat} {is : List Nat} : back ρ ρ1 (i :: is) = (back ρ ρ1 is).set i (ρ.at i) := rfl
def fr1 (ρ : Env) (i : Nat) : Bool := match ρ.at i with | none => decide (i < ρ.length) | some (.sh _) => true | some _ => false
theorem free_nil : free ρ [] = true := rfl
theorem free_cons {i : Nat} {is : List Nat} : free ρ (i :: is) = (fr1 ρ i && free ρ is) := rfl
theorem fr1_succ {x : Option SB} {r : Env} {n : Nat} : fr1 (x :: r) (n + 1) = fr1 r n := by
  unfold fr1
  rw [at_succ]
  cases Env.at r n with
  | none => simp
  | some c => cases c <;> rfl
theorem fr1_no {r : Env} : fr1 (none :: r) 0 = true := by simp [fr1, Env.at]
theorem fr1_sh {r : Env} {d : D} : fr1 (some (.sh d) :: r) 0 = true := rfl
def kCoE (t : Tg) (ρ0 : Env) (k : Ct B β) : Ct (List D) β := fun vs ρ => if vs.length ≤ LIM then k (.ow (.lst vs)) (back ρ0 ρ t.slots) else none
theorem kCoE_eq {t : Tg} {ρ0 : Env} {vs : List D} : kCoE t ρ0 k vs ρ = if vs.length ≤ LIM then k (.ow (.lst vs)) (back ρ0 ρ t.slots) else none := rfl
def kCo (t : Tg) (c : M Bool) (el : M B) (k : Ct B β) : Ct (List D) β := fun ds ρ => if free ρ t.slots = true then K (compGo t c el ds []) ρ (kCoE t ρ k) noX else none
theorem kCo_eq {t : Tg} {c : M Bool} {el : M B} {ds : List D} : kCo t c el k ds ρ = if free ρ t.slots = true then K (compGo t c el ds []) ρ (kCoE t ρ k) noX else none := rfl
theorem K_mComp {t : Tg} {it : M (List D)} {c : M Bool} {el : M B} : K (mComp t it c el) ρ k e = K it ρ (kCo t c el k) e := by
  unfold mComp
  simp only [K_bind]
  congr 1; funext ds ρ1
  unfold kCo K
  dsimp only
  by_cases h : free ρ1 t.slots = true
  · rw [if_pos h, if_pos h]
    unfold noExc
    cases compGo t c el ds [] ρ1 with
    | none => rfl
    | some q =>
      obtain ⟨r, ρ2⟩ := q
      cases r with
      | exc => rfl
      | ok vs => show _ = kCoE t ρ1 k vs ρ2; unfold kCoE; by_cases g : vs.length ≤ LIM <;> simp [g]
  · rw [if_neg h, if_neg h]
theorem K_comp0 {t : Tg} {c : M Bool} {el : M B} {acc : List D} {e : Ex β} : K (compGo t c el [] acc) ρ kd e = kd acc ρ := rfl
def kCo3 (t : Tg) (c : M Bool) (el : M B) (ds acc : List D) (kd : Ct (List D) β) (e : Ex β) : Ct (List D) β := fun v ρ => K (compGo t c el ds (acc ++ v)) ρ kd e
theorem kCo3_eq {t : Tg} {c : M Bool} {el : M B} {ds acc v : List D} : kCo3 t c el ds acc kd e v ρ = K (compGo t c el ds (acc ++ v)) ρ kd e := rfl
def kCo2 (t : Tg) (c : M Bool) (el : M B) (ds acc : List D) (kd : Ct (List D) β) (e : Ex β) : Ct B β := fun x ρ => KO (keptO ρ [x]) (kCo3 t c el ds acc kd e) ρ
theorem kCo2_eq {t : Tg} {c : M Bool} {el : M B} {ds acc : List D} {x : B} : kCo2 t c el ds acc kd e x ρ = KO (keptO ρ [x]) (kCo3 t c el ds acc kd e) ρ := rfl
def kCo1 (t : Tg) (c : M Bool) (el : M B) (ds acc : List D) (kd : Ct (List D) β) (e : Ex β) : Ct Bool β := fun b ρ => if b = true then K el ρ (kCo2 t c el ds acc kd e) e else K (compGo t c el ds acc) ρ kd e
theorem kCo1_eq {t : Tg} {c : M Bool} {el : M B} {ds acc : List D} {b : Bool} : kCo1 t c el ds acc kd e b ρ = if b = true then K el ρ (kCo2 t c el ds acc kd e) e else K (compGo t c el ds acc) ρ kd e := rfl
def kCo0 (t : Tg) (c : M Bool) (el : M B) (ds acc : List D) (kd : Ct (List D) β) (e : Ex β) : Env → Option β := fun ρ => K c ρ (kCo1 t c el ds acc kd e) e
theorem kCo0_eq {t : Tg} {c : M Bool} {el : M B} {ds acc : List D} : kCo0 t c el ds acc kd e ρ = K c ρ (kCo1 t c el ds acc kd e) e := rfl
theorem K_comp1 {t : Tg} {c : M Bool} {el : M B} {d : D} {ds acc : List D} : K (compGo t c el (d :: ds) acc) ρ kd e = KE (putTg (clr ρ t.slots) t d) (kCo0 t c el ds acc kd e) := by
  cases h : putTg (clr ρ t.slots) t d with
  | none =>
    have u : compGo t c el (d :: ds) acc ρ = none := by
      show (match putTg (clr ρ t.slots) t d with | none => none | some ρ1 => bind c _ ρ1) = _
      rw [h]
    unfold K
    rw [u]
    rfl
  | some ρ1 =>
    have u : compGo t c el (d :: ds) acc ρ = bind c (fun k => if k then bind el fun x => bind (kept [x]) fun v => compGo t c el ds (acc ++ v) else compGo t c el ds acc) ρ1 := by
      show (match putTg (clr ρ t.slots) t d with | none => none | some ρ1 => bind c _ ρ1) = _
      rw [h]
    have v : K (compGo t c el (d :: ds) acc) ρ kd e = K (bind c (fun k => if k then bind el fun x => bind (kept [x]) fun v => compGo t c el ds (acc ++ v) else compGo t c el ds acc)) ρ1 kd e := by
      unfold K
      rw [u]
    rw [v]
    simp only [K_bind, K_if, K_kept]
    rfl
/-! statements -/
theorem K_sPass : K sPass ρ kf e = kf .nx ρ := rfl
theorem K_sBreak : K sBreak ρ kf e = kf .bk ρ := rfl
theorem K_sCont : K sCont ρ kf e = kf .ct ρ := rfl
def kSeq (b : S) (kf : Ct Fl β) (e : Ex β) : Ct Fl β := fun f ρ => match f with
  | .nx => K b ρ kf e
  | f => kf f ρ
theorem kSeq_nx {b : S} : kSeq b kf e .nx ρ = K b ρ kf e := rfl
theorem kSeq_rt {b : S} {x : B} : kSeq b kf e (.rt x) ρ = kf (.rt x) ρ := rfl
theorem kSeq_bk {b : S} : kSeq b kf e .bk ρ = kf .bk ρ := rfl
theorem kSeq_ct {b : S} : kSeq b kf e .ct ρ = kf .ct ρ := rfl
theorem K_sSeq {a b : S} : K (sSeq a b) ρ kf e = K a ρ (kSeq b kf e) e := by
  unfold sSeq
  simp only [K_bind]
  congr 1; funext f ρ1
  cases f <;> rfl
def kDrop (kf : Ct Fl β) : Ct B β := fun _ ρ => kf .nx ρ
theorem kDrop_eq {x : B} : kDrop kf x ρ = kf .nx ρ := rfl
theorem K_sDrop {a : M B} : K (sDrop a) ρ kf e = K a ρ (kDrop kf) e := by
  unfold sDrop
  simp only [K_bind, K_ret]
  rfl
theorem K_sIf {t : M Bool} {a b : S} : K (sIf t a b) ρ kf e = K t ρ (kIf a b kf e) e := by
  unfold sIf
  simp only [K_bind, K_if]
  rfl
def kNx (kf : Ct Fl β) : Env → Option β := fun ρ => kf .nx ρ
theorem kNx_eq : kNx kf ρ = kf .nx ρ := rfl
def ownO : B → Option SB
  | .sh d => some (.sh d)
  | .ow o => some (.ow o)
  | .pl _ => none
  | .tp bs => (sbsD bs).map fun ds => SB.sh (.tup ds)
theorem ownO_sh {d : D} : ownO (.sh d) = some (.sh d) := rfl
theorem ownO_ow {d : O} : ownO (.ow d) = some (.ow d) := rfl
theorem ownO_tp {bs : List SB} : ownO (.tp bs) = (sbsD bs).map fun ds => SB.sh (.tup ds) := rfl
theorem K_ownB {b : B} {kk : Ct SB β} : K (ownB b) ρ kk e = KO (ownO b) kk ρ := by
  cases b with
  | tp bs => exact K_lift
  | _ => rfl
theorem K_bindS {i : Nat} {b : SB} : K (bindS i b) ρ kf e = KE (putS ρ i b) (kNx kf) := by
  unfold K bindS
  cases putS ρ i b <;> rfl
def setO (ρ : Env) (i : Nat) (x : B) : Option Env := (ownO x).bind fun b => putS ρ i b
theorem setO_eq {i : Nat} {x : B} : setO ρ i x = (ownO x).bind fun b => putS ρ i b := rfl
def kSet (i : Nat) (kf : Ct Fl β) : Ct B β := fun x ρ => KE (setO ρ i x) (kNx kf)
theorem kSet_eq {i : Nat} {x : B} : kSet i kf x ρ = KE (setO ρ i x) (kNx kf) := rfl
theorem K_sSet {i : Nat} {a : M B} : K (sSet i a) ρ kf e = K a ρ (kSet i kf) e := by
  unfold sSet
  simp only [K_bind, K_ownB, K_bindS]
  congr 1; funext x ρ1
  unfold kSet setO
  cases ownO x <;> rfl
def ownOs : List B → Option (List SB)
  | [] => some []
  | b :: r => (ownO b).bind fun x => (ownOs r).map fun xs => x :: xs
theorem ownOs_nil : ownOs [] = some [] := rfl
theorem ownOs_cons {b : B} {r : List B} : ownOs (b :: r) = (ownO b).bind fun x => (ownOs r).map fun xs => x :: xs := rfl
theorem K_ownBs : ∀ {bs : List B} {kk : Ct (List SB) β}, K (ownBs bs) ρ kk e = KO (ownOs bs) kk ρ
  | [], kk => rfl
  | b :: r, kk => by
    show K (bind (ownB b) fun x => bind (ownBs r) fun xs => ret (x :: xs)) ρ kk e = _
    simp only [K_bind, K_ownB, K_ret, ownOs_cons]
    cases ownO b with
    | none => rfl
    | some x => dsimp only [KO, Option.bind_some]; rw [K_ownBs (bs := r)]; cases ownOs r <;> rfl
def putA (ρ : Env) : List Nat → List SB → Option Env
  | [], [] => some ρ
  | i :: is, b :: bs => (putS ρ i b).bind fun ρ1 => putA ρ1 is bs
  | _, _ => none
theorem putA_nil : putA ρ [] [] = some ρ := rfl
theorem putA_cons {i : Nat} {is : List Nat} {b : SB} {bs : List SB} : putA ρ (i :: is) (b :: bs) = (putS ρ i b).bind fun ρ1 => putA ρ1 is bs := rfl
theorem K_bindSs : ∀ {is : List Nat} {bs : List SB} {ρ : Env}, K (bindSs is bs) ρ kf e = KE (putA ρ is bs) (kNx kf)
  | [], [], ρ => rfl
  | [], _ :: _, ρ => rfl
  | _ :: _, [], ρ => rfl
  | i :: is, b :: bs, ρ => by
    show K (sSeq (bindS i b) (bindSs is bs)) ρ kf e = _
    rw [K_sSeq, K_bindS, putA_cons]
    cases putS ρ i b with
    | none => rfl
    | some ρ1 => exact K_bindSs (is := is)
def parO (ρ : Env) (is : List Nat) (xs : List B) : Option Env := (ownOs xs).bind fun bs => putA ρ is bs
theorem parO_eq {is : List Nat} {xs : List B} : parO ρ is xs = (ownOs xs).bind fun bs => putA ρ is bs := rfl
def kPar (is : List Nat) (kf : Ct Fl β) : Ct (List B) β := fun xs ρ => KE (parO ρ is xs) (kNx kf)
theorem kPar_eq {is : List Nat} {xs : List B} : kPar is kf xs ρ = KE (parO ρ is xs) (kNx kf) := rfl
theorem K_sPar {is : List Nat} {es : M (List B)} : K (sPar is es) ρ kf e = K es ρ (kPar is kf) e := by
  unfold sPar
  simp only [K_bind, K_ownBs, K_bindSs]
  congr 1; funext xs ρ1
  unfold kPar parO
  cases ownOs xs <;> rfl
def tupB : B → Option (List SB)
  | .tp bs => some bs
  | .sh (.tup vs) => some (vs.map SB.sh)
  | _ => none
theorem tupB_tp {bs : List SB} : tupB (.tp bs) = some bs := rfl
theorem tupB_sh {vs : List D} : tupB (.sh (.tup vs)) = some (vs.map SB.sh) := rfl
def unpO (ρ : Env) (is : List Nat) (x : B) : Option Env := (tupB x).bind fun bs => putA ρ is bs
theorem unpO_eq {is : List Nat} {x : B} : unpO ρ is x = (tupB x).bind fun bs => putA ρ is bs := rfl
def kUnp (is : List Nat) (kf : Ct Fl β) : Ct B β := fun x ρ => KE (unpO ρ is x) (kNx kf)
theorem kUnp_eq {is : List Nat} {x : B} : kUnp is kf x ρ = KE (unpO ρ is x) (kNx kf) := rfl
theorem K_sUnp {is : List Nat} {a : M B} : K (sUnp is a) ρ kf e = K a ρ (kUnp is kf) e := by
  unfold sUnp
  simp only [K_bind]
  congr 1; funext x ρ1
  rcases x with d | o | i | bs
  · cases d with
    | tup vs => exact K_bindSs
    | _ => rfl
  · cases o <;> rfl
  · rfl
  · exact K_bindSs
def putOE (ρ : Env) (i : Nat) (f : O → Option O) : Option Env := (ρ.at i).bind fun c => c.obj.bind fun o => (f o).map fun o1 => ρ.set i (some (c.put o1))
theorem putOE_zero {c : SB} {r : Env} {f : O → Option O} : putOE (some c :: r) 0 f = c.obj.bind fun o => (f o).map fun o1 => some (c.put o1) :: r := rfl
theorem putOE_succ {x : Option SB} {r : Env} {i : Nat} {f : O → Option O} : putOE (x :: r) (i + 1) f = (putOE r i f).map fun s => x :: s := by
  unfold putOE
  rw [at_succ]
  cases Env.at r i with
  | none => rfl
  | some c =>
    show (c.obj.bind fun o => (f o).map fun o1 => (x :: r).set (i + 1) (some (c.put o1))) = (c.obj.bind fun o => (f o).map fun o1 => r.set i (some (c.put o1))).map _
    cases c.obj with
    | none => rfl
    | some o =>
      show ((f o).map fun o1 => (x :: r).set (i + 1) (some (c.put o1))) = ((f o).map fun o1 => r.set i (some (c.put o1))).map _
      cases f o <;> rfl
theorem obj_ow {o : O} : (SB.ow o).obj = some o := rfl
theorem obj_io {o : O} : (SB.io o).obj = some o := rfl
theorem K_putO {i : Nat} {f : O → Option O} {kk : Ct Unit β} : K (putO i f) ρ kk e = KE (putOE ρ i f) (kk ()) := by
  unfold K putO putOE
  cases ρ.at i with
  | none => rfl
  | some c =>
    dsimp only [Option.bind_some]
    cases c.obj with
    | none => rfl
    | some o =>
      dsimp only [Option.bind_some]
      cases f o <;> rfl
def hasO (ρ : Env) (i : Nat) : Option O := (ρ.at i).bind SB.obj
theorem hasO_zero {c : SB} {r : Env} : hasO (some c :: r) 0 = c.obj := rfl
theorem hasO_succ {c : Option SB} {r : Env} {i : Nat} : hasO (c :: r) (i + 1) = hasO r i := rfl
theorem K_mHas {i : Nat} {kk : Ct O β} : K (mHas i) ρ kk e = KO (hasO ρ i) kk ρ := by
  unfold K mHas hasO
  cases ρ.at i with
  | none => rfl
  | some c =>
    dsimp only [Option.bind_some]
    cases c.obj <;> rfl
def xsO (ρ : Env) (i : Nat) (ds : List D) : Option Env := match ds with | [d, q] => putOE ρ i (fun o => setAt o q d) | _ => none
theorem xsO_eq {i : Nat} {d q : D} : xsO ρ i [d, q] = putOE ρ i (fun o => setAt o q d) := rfl
def kXS3 (i : Nat) (v : B) (kf : Ct Fl β) : Ct B β := fun x ρ => KE ((keptO ρ [v, x]).bind (xsO ρ i)) (kNx kf)
theorem kXS3_eq {i : Nat} {v x : B} : kXS3 i v kf x ρ = KE ((keptO ρ [v, x]).bind (xsO ρ i)) (kNx kf) := rfl
def kXS2 (i : Nat) (v : B) (kx : M B) (kf : Ct Fl β) (e : Ex β) : Ct O β := fun _ ρ => K kx ρ (kXS3 i v kf) e
theorem kXS2_eq {i : Nat} {v : B} {kx : M B} {o : O} : kXS2 i v kx kf e o ρ = K kx ρ (kXS3 i v kf) e := rfl
def kXS1 (i : Nat) (kx : M B) (kf : Ct Fl β) (e : Ex β) : Ct B β := fun v ρ => KO (hasO ρ i) (kXS2 i v kx kf e) ρ
theorem kXS1_eq {i : Nat} {kx : M B} {v : B} : kXS1 i kx kf e v ρ = KO (hasO ρ i) (kXS2 i v kx kf e) ρ := rfl
theorem K_sIxSet {i : Nat} {kx ex : M B} : K (sIxSet i kx ex) ρ kf e = K ex ρ (kXS1 i kx kf e) e := by
  unfold sIxSet
  simp only [K_bind, K_mHas]
  congr 1; funext v ρ1
  unfold kXS1
  congr 1; funext o ρ2
  show K kx ρ2 _ e = K kx ρ2 _ e
  congr 1; funext x ρ3
  rw [K_kept]
  unfold kXS3
  cases keptO ρ3 [v, x] with
  | none => rfl
  | some ds =>
    show K _ ρ3 kf e = KE (xsO ρ3 i ds) _
    match ds with
    | [] => rfl
    | [_] => rfl
    | [d, q] =>
      show K (bind (putO i fun o => setAt o q d) fun _ => ret .nx) ρ3 kf e = _
      rw [K_bind, K_putO]
      rfl
    | _ :: _ :: _ :: _ => rfl
def apO (ρ : Env) (i : Nat) (ds : List D) : Option Env := match ds with | [d] => putOE ρ i (addAt d) | _ => none
theorem apO_eq {i : Nat} {d : D} : apO ρ i [d] = putOE ρ i (addAt d) := rfl
def kNon (k : Ct B β) : Env → Option β := fun ρ => k (.sh .non) ρ
theorem kNon_eq : kNon k ρ = k (.sh .non) ρ := rfl
def kAp2 (i : Nat) (k : Ct B β) : Ct B β := fun v ρ => KE ((keptO ρ [v]).bind (apO ρ i)) (kNon k)
theorem kAp2_eq {i : Nat} {v : B} : kAp2 i k v ρ = KE ((keptO ρ [v]).bind (apO ρ i)) (kNon k) := rfl
def kAp1 (i : Nat) (a : M B) (k : Ct B β) (e : Ex β) : Ct O β := fun o ρ => if isLstO o = true then K a ρ (kAp2 i k) e else none
theorem kAp1_eq {i : Nat} {a : M B} {xs : List D} : kAp1 i a k e (.lst xs) ρ = K a ρ (kAp2 i k) e := rfl
theorem K_mApp {i : Nat} {a : M B} : K (mApp i a) ρ k e = KO (hasO ρ i) (kAp1 i a k e) ρ := by
  unfold mApp
  simp only [K_bind, K_mHas]
  congr 1; funext o ρ1
  unfold kAp1
  cases isLstO o with
  | false => rfl
  | true =>
    simp only [if_true, K_bind, K_kept]
    congr 1; funext v ρ2
    unfold kAp2
    cases keptO ρ2 [v] with
    | none => rfl
    | some ds =>
      show K _ ρ2 k e = KE (apO ρ2 i ds) _
      match ds with
      | [] => rfl
      | [d] =>
        show K (bind (putO i (addAt d)) fun _ => ret (.sh .non)) ρ2 k e = _
        rw [K_bind, K_putO]
        rfl
      | _ :: _ :: _ => rfl
def kKy (kd : Ct (List D) β) : Ct B β := fun x ρ => KO (keysOf x) kd ρ
theorem kKy_eq {x : B} : kKy kd x ρ = KO (keysOf x) kd ρ := rfl
theorem K_itKeys {a : M B} : K (itKeys a) ρ kd e = K a ρ (kKy kd) e := by
  unfold itKeys
  simp only [K_bind]
  congr 1; funext x ρ1
  exact K_lift
theorem keysOf_dic {kvs : List (D × D)} : keysOf (.ow (.dic true kvs)) = some (kvs.map (·.1)) := rfl
def strD : D → Option Txt | .str s => some s | _ => none
theorem strD_str {s : Txt} : strD (.str s) = some s := rfl
def getO (s : Txt) (ρ : Env) (i : Nat) (ds : List D) : Option B := match ds with | [d] => (hasO ρ i).bind fun o => getS o s d | _ => none
theorem getO_eq {s : Txt} {i : Nat} {d : D} : getO s ρ i [d] = (hasO ρ i).bind fun o => getS o s d := rfl
theorem getS_dic {kvs : List (D × D)} {s : Txt} {d : D} : getS (.dic false kvs) s d = some (.sh ((lookD kvs (.str s)).getD d)) := rfl
def kGt3 (i : Nat) (s : Txt) (k : Ct B β) : Ct B β := fun z ρ => KO ((keptO ρ [z]).bind (getO s ρ i)) k ρ
theorem kGt3_eq {i : Nat} {s : Txt} {z : B} : kGt3 i s k z ρ = KO ((keptO ρ [z]).bind (getO s ρ i)) k ρ := rfl
def kGt2 (i : Nat) (c : M B) (k : Ct B β) (e : Ex β) : Ct Txt β := fun s ρ => K c ρ (kGt3 i s k) e
theorem kGt2_eq {i : Nat} {c : M B} {s : Txt} : kGt2 i c k e s ρ = K c ρ (kGt3 i s k) e := rfl
def kGt1 (i : Nat) (c : M B) (k : Ct B β) (e : Ex β) : Ct B β := fun y ρ => KO (un1 strD (y.dat ρ)) (kGt2 i c k e) ρ
theorem kGt1_eq {i : Nat} {c : M B} {y : B} : kGt1 i c k e y ρ = KO (un1 strD (y.dat ρ)) (kGt2 i c k e) ρ := rfl
def kGt0 (i : Nat) (b c : M B) (k : Ct B β) (e : Ex β) : Ct O β := fun o ρ => if isDicS o = true then K b ρ (kGt1 i c k e) e else none
theorem kGt0_eq {i : Nat} {b c : M B} {kvs : List (D × D)} : kGt0 i b c k e (.dic false kvs) ρ = K b ρ (kGt1 i c k e) e := rfl
theorem K_mGetN {i : Nat} {b c : M B} : K (mGetN i b c) ρ k e = KO (hasO ρ i) (kGt0 i b c k e) ρ := by
  unfold mGetN
  simp only [K_bind, K_mHas]
  congr 1; funext o ρ1
  unfold kGt0
  cases isDicS o with
  | false => rfl
  | true =>
    simp only [if_true, K_bind, K_dat]
    congr 1; funext y ρ2
    unfold kGt1
    cases y.dat ρ2 with
    | none => rfl
    | some d =>
      cases d with
      | str s =>
        show K (bind c _) ρ2 k e = K c ρ2 (kGt3 i s k) e
        simp only [K_bind, K_kept]
        congr 1; funext z ρ3
        unfold kGt3
        cases keptO ρ3 [z] with
        | none => rfl
        | some ds =>
          show K _ ρ3 k e = KO (getO s ρ3 i ds) k ρ3
          match ds with
          | [] => rfl
          | [d] =>
            show K (bind (mHas i) fun o1 => lift (getS o1 s d)) ρ3 k e = _
            rw [K_bind, K_mHas, getO_eq]
            cases hasO ρ3 i with
            | none => rfl
            | some o => exact K_lift
          | _ :: _ :: _ => rfl
      | _ => rfl
theorem addAt_lst {xs : List D} {d : D} : addAt d (.lst xs) = if xs.length < LIM then some (.lst (xs ++ [d])) else none := rfl
theorem setAt_lst {xs : List D} {j : Int} {d : D} : setAt (.lst xs) (.int j) d = if decide (0 ≤ j) && decide (j.toNat < xs.length) then some (.lst (xs.set j.toNat d)) else none := rfl
theorem setAt_dicS {kvs : List (D × D)} {q d : D} : setAt (.dic false kvs) q d = if kvs.length < LIM then (if keyOf false q then some (.dic false (putD kvs q d)) else none) else none := rfl
theorem setAt_dicT {kvs : List (D × D)} {q d : D} : setAt (.dic true kvs) q d = if kvs.length < LIM then (if keyOf true q then some (.dic true (putD kvs q d)) else none) else none := rfl
def kFor (t : Tg) (body : S) (kf : Ct Fl β) (e : Ex β) : Ct (List D) β := fun ds ρ => K (forGo t body ds) ρ kf e
theorem kFor_eq {t : Tg} {body : S} {ds : List D} : kFor t body kf e ds ρ = K (forGo t body ds) ρ kf e := rfl
theorem K_sFor {t : Tg} {it : M (List D)} {body : S} : K (sFor t it body) ρ kf e = K it ρ (kFor t body kf e) e := by
  unfold sFor
  simp only [K_bind]
  rfl
def kFor2 (t : Tg) (body : S) (ds : List D) (kf : Ct Fl β) (e : Ex β) : Ct Fl β := fun f ρ => match f with
  | .nx => K (forGo t body ds) ρ kf e
  | .ct => K (forGo t body ds) ρ kf e
  | .bk => kf .nx ρ
  | .rt b => kf (.rt b) ρ
theorem kFor2_nx {t : Tg} {body : S} {ds : List D} : kFor2 t body ds kf e .nx ρ = K (forGo t body ds) ρ kf e := rfl
theorem kFor2_ct {t : Tg} {body : S} {ds : List D} : kFor2 t body ds kf e .ct ρ = K (forGo t body ds) ρ kf e := rfl
theorem kFor2_bk {t : Tg} {body : S} {ds : List D} : kFor2 t body ds kf e .bk ρ = kf .nx ρ := rfl
theorem kFor2_rt {t : Tg} {body : S} {ds : List D} {b : B} : kFor2 t body ds kf e (.rt b) ρ = kf (.rt b) ρ := rfl
def kFor1 (t : Tg) (body : S) (ds : List D) (kf : Ct Fl β) (e : Ex β) : Env → Option β := fun ρ => K body ρ (kFor2 t body ds kf e) e
theorem kFor1_eq {t : Tg} {body : S} {ds : List D} : kFor1 t body ds kf e ρ = K body ρ (kFor2 t body ds kf e) e := rfl
theorem K_for0 {t : Tg} {body : S} : K (forGo t body []) ρ kf e = kf .nx ρ := rfl
theorem K_for1 {t : Tg} {body : S} {d : D} {ds : List D} : K (forGo t body (d :: ds)) ρ kf e = KE (putTg ρ t d) (kFor1 t body ds kf e) := by
  cases h : putTg ρ t d with
  | none =>
    have u : forGo t body (d :: ds) ρ = none := by
      show (match putTg ρ t d with | none => none | some ρ1 => bind body _ ρ1) = _
      rw [h]
    unfold K
    rw [u]
    rfl
  | some ρ1 =>
    have v : K (forGo t body (d :: ds)) ρ kf e = K (bind body (fun f => match f with | .nx => forGo t body ds | .ct => forGo t body ds | .bk => ret .nx | .rt b => ret (.rt b))) ρ1 kf e := by
      unfold K
      rw [forGo_cons h] <;> rfl
    rw [v]
    show K (bind body _) ρ1 kf e = K body ρ1 _ e
    rw [K_bind]
    congr 1; funext f ρ2
    cases f <;> rfl
theorem K_sWhile {t : M Bool} {body : S} : K (sWhile t body) ρ kf e = K (whGo t body TURNS) ρ kf e := rfl
def kWh2 (t : M Bool) (body : S) (n : Nat) (kf : Ct Fl β) (e : Ex β) : Ct Fl β := fun f ρ => match f with
  | .nx => K (whGo t body n) ρ kf e
  | .ct => K (whGo t body n) ρ kf e
  | .bk => kf .nx ρ
  | .rt b => kf (.rt b) ρ
theorem kWh2_nx {t : M Bool} {body : S} {n : Nat} : kWh2 t body n kf e .nx ρ = K (whGo t body n) ρ kf e := rfl
theorem kWh2_ct {t : M Bool} {body : S} {n : Nat} : kWh2 t body n kf e .ct ρ = K (whGo t body n) ρ kf e := rfl
theorem kWh2_bk {t : M Bool} {body : S} {n : Nat} : kWh2 t body n kf e .bk ρ = kf .nx ρ := rfl
theorem kWh2_rt {t : M Bool} {body : S} {n : Nat} {b : B} : kWh2 t body n kf e (.rt b) ρ = kf (.rt b) ρ := rfl
def kWh1 (t : M Bool) (body : S) (n : Nat) (kf : Ct Fl β) (e : Ex β) : Ct Bool β := fun c ρ => if c = true then K body ρ (kWh2 t body n kf e) e else kf .nx ρ
theorem kWh1_eq {t : M Bool} {body : S} {n : Nat} {c : Bool} : kWh1 t body n kf e c ρ = if c = true then K body ρ (kWh2 t body n kf e) e else kf .nx ρ := rfl
theorem K_wh1 {t : M Bool} {body : S} {n : Nat} : K (whGo t body (n + 1)) ρ kf e = K t ρ (kWh1 t body n kf e) e := by
  show K (bind t _) ρ kf e = _
  rw [K_bind]
  congr 1; funext c ρ1
  cases c with
  | false => rfl
  | true =>
    show K (bind body _) ρ1 kf e = K body ρ1 _ e
    rw [K_bind]
    congr 1; funext f ρ2
    cases f <;> rfl
def kRet (kf : Ct Fl β) : Ct B β := fun x ρ => match x with
  | .pl _ => none
  | x => kf (.rt x) ρ
theorem kRet_sh {d : D} : kRet kf (.sh d) ρ = kf (.rt (.sh d)) ρ := rfl
theorem kRet_ow {d : O} : kRet kf (.ow d) ρ = kf (.rt (.ow d)) ρ := rfl
theorem kRet_tp {d : List SB} : kRet kf (.tp d) ρ = kf (.rt (.tp d)) ρ := rfl
theorem K_sRet {a : M B} : K (sRet a) ρ kf e = K a ρ (kRet kf) e := by
  unfold sRet
  simp only [K_bind]
  congr 1; funext x ρ1
  cases x <;> rfl
def tpO (bs : List B) : Option B := if bs.length ≤ 1000 then (sbBs bs).map B.tp else none
theorem tpO_eq {bs : List B} : tpO bs = if bs.length ≤ 1000 then (sbBs bs).map B.tp else none := rfl
def kTp (k : Ct B β) : Ct (List B) β := fun bs ρ => KO (tpO bs) k ρ
theorem kTp_eq {bs : List B} : kTp k bs ρ = KO (tpO bs) k ρ := rfl
theorem K_mTp {es : M (List B)} : K (mTp es) ρ k e = K es ρ (kTp k) e := by
  unfold mTp few
  simp only [K_bind]
  congr 1; funext bs ρ1
  unfold kTp tpO
  by_cases h : bs.length ≤ 1000
  · simp only [h, decide_true, if_true, K_bind, K_lift]; cases sbBs bs <;> rfl
  · simp [h, K_stuck, KO]
theorem sbBs_nil : sbBs [] = some [] := rfl
theorem sbBs_cons {b : B} {r : List B} : sbBs (b :: r) = (sbB b).bind fun x => (sbBs r).map fun xs => x :: xs := by
  show (match sbB b, sbBs r with | some x, some xs => some (x :: xs) | _, _ => none) = _
  cases sbB b <;> cases sbBs r <;> rfl
theorem sbB_sh {d : D} : sbB (.sh d) = some (.sh d) := rfl
theorem sbB_ow {d : O} : sbB (.ow d) = some (.ow d) := rfl
theorem K_sRaise {c : Nat} : K (sRaise c) ρ kf e = e c none ρ := rfl
def eTry (n : Nat) (hs : List ((Nat → Bool) × S)) (kf : Ct Fl β) (e : Ex β) : Ex β := fun c p ρ => if c < n then K (tryGo c p hs) ρ kf e else none
theorem eTry_eq {n c : Nat} {p : Option (Txt × D)} {hs : List ((Nat → Bool) × S)} : eTry n hs kf e c p ρ = if c < n then K (tryGo c p hs) ρ kf e else none := rfl
theorem K_sTry {n : Nat} {body : S} {hs : List ((Nat → Bool) × S)} : K (sTry n body hs) ρ kf e = K body ρ kf (eTry n hs kf e) := by
  unfold K sTry
  cases body ρ with
  | none => rfl
  | some q =>
    obtain ⟨r, ρ1⟩ := q
    cases r with
    | ok f => rfl
    | exc c p => show _ = eTry n hs kf e c p ρ1; unfold eTry K; by_cases h : c < n <;> simp [h]
theorem K_tryGo0 {c : Nat} {p : Option (Txt × D)} : K (tryGo c p []) ρ kf e = e c p ρ := rfl
theorem K_tryGo1 {c : Nat} {p : Option (Txt × D)} {t : Nat → Bool} {s : S} {r : List ((Nat → Bool) × S)} : K (tryGo c p ((t, s) :: r)) ρ kf e = if t c = true then K s ρ kf noX else K (tryGo c p r) ρ kf e := by
  show K (if t c then noExc s else tryGo c p r) ρ kf e = _
  rw [K_if, K_noExc]
/-! values -/
theorem Add_int {a b : Int} : iAdd (.int a) (.int b) = some (.sh (.int (a + b))) := rfl
theorem Add_tup {a b : List D} : iAdd (.tup a) (.tup b) = if a.length + b.length ≤ LIM then some (.sh (.tup (a ++ b))) else none := rfl
theorem Add_lst {a b : List D} : iAdd (.lst a) (.lst b) = if a.length + b.length ≤ LIM then some (.ow (.lst (a ++ b))) else none := rfl
theorem Add_str {a b : Txt} : iAdd (.str a) (.str b) = if a.length + b.length ≤ LIM then some (.sh (.str (a ++ b))) else none := rfl
theorem Sub_int {a b : Int} : iSub (.int a) (.int b) = some (.sh (.int (a - b))) := rfl
theorem Mul_int {a b : Int} : iMul (.int a) (.int b) = if smallI a || smallI b then some (.sh (.int (a * b))) else none := rfl
theorem Mul_lst {a : List D} {n : Int} : iMul (.lst a) (.int n) = if decide (0 ≤ n) && decide (n ≤ 1000) && decide (a.length ≤ 1000) then some (.ow (.lst (repL a n.toNat))) else none := rfl
theorem Fdiv_int {a b : Int} : iFdiv (.int a) (.int b) = if decide (0 < b) && decide (b < 1073741824) then some (.sh (.int (a / b))) else none := rfl
theorem Mod_int {a b : Int} : iMod (.int a) (.int b) = if decide (0 < b) then some (.sh (.int (a % b))) else none := rfl
theorem Lt_int {a b : Int} : iLt (.int a) (.int b) = some (.sh (.bl (decide (a < b)))) := rfl
theorem Le_int {a b : Int} : iLe (.int a) (.int b) = some (.sh (.bl (decide (a ≤ b)))) := rfl
theorem Gt_int {a b : Int} : iGt (.int a) (.int b) = some (.sh (.bl (decide (b < a)))) := rfl
theorem Ge_int {a b : Int} : iGe (.int a) (.int b) = some (.sh (.bl (decide (b ≤ a)))) := rfl
theorem Eq_eq {x y : D} : iEq x y = if x.dep ≤ 60 && y.dep ≤ 60 then some (.sh (.bl (D.eqv x y))) else none := rfl
theorem Ne_eq {x y : D} : iNe x y = if x.dep ≤ 60 && y.dep ≤ 60 then some (.sh (.bl (!D.eqv x y))) else none := rfl
theorem In_tup {x : D} {ys : List D} : iIn x (.tup ys) = if x.dep ≤ 60 && D.deps ys ≤ 60 then some (.sh (.bl (memD x ys))) else none := by
  unfold iIn isIn; dsimp only; generalize (decide (x.dep ≤ 60) && decide (D.deps ys ≤ 60)) = b; cases b <;> rfl
theorem In_lst {x : D} {ys : List D} : iIn x (.lst ys) = if x.dep ≤ 60 && D.deps ys ≤ 60 then some (.sh (.bl (memD x ys))) else none := by
  unfold iIn isIn; dsimp only; generalize (decide (x.dep ≤ 60) && decide (D.deps ys ≤ 60)) = b; cases b <;> rfl
theorem Nin_tup {x : D} {ys : List D} : iNin x (.tup ys) = if x.dep ≤ 60 && D.deps ys ≤ 60 then some (.sh (.bl (!memD x ys))) else none := by
  unfold iNin isIn; dsimp only; generalize (decide (x.dep ≤ 60) && decide (D.deps ys ≤ 60)) = b; cases b <;> rfl
theorem Nin_lst {x : D} {ys : List D} : iNin x (.lst ys) = if x.dep ≤ 60 && D.deps ys ≤ 60 then some (.sh (.bl (!memD x ys))) else none := by
  unfold iNin isIn; dsimp only; generalize (decide (x.dep ≤ 60) && decide (D.deps ys ≤ 60)) = b; cases b <;> rfl
theorem mem_nil {x : D} : memD x [] = false := rfl
theorem mem_cons {x y : D} {ys : List D} : memD x (y :: ys) = (D.eqv y x || memD x ys) := rfl
theorem Ix_tup {xs : List D} {i : Int} : iIx (.tup xs) (.int i) = (atI xs i).map B.sh := rfl
theorem Ix_lst {xs : List D} {i : Int} : iIx (.lst xs) (.int i) = (atI xs i).map B.sh := rfl
theorem atI_0 {α : Type} {x : α} {xs : List α} : atI (x :: xs) 0 = some x := rfl
theorem atI_1 {α : Type} {x y : α} {xs : List α} : atI (x :: y :: xs) 1 = some y := rfl
theorem atI_2 {α : Type} {x y z : α} {xs : List α} : atI (x :: y :: z :: xs) 2 = some z := rfl
theorem atI_3 {α : Type} {a b c d : α} {xs : List α} : atI (a :: b :: c :: d :: xs) 3 = some d := rfl
theorem atI_4 {α : Type} {a b c d f : α} {xs : List α} : atI (a :: b :: c :: d :: f :: xs) 4 = some f := rfl
theorem atI_5 {α : Type} {a b c d f g : α} {xs : List α} : atI (a :: b :: c :: d :: f :: g :: xs) 5 = some g := rfl
theorem atI_6 {α : Type} {a b c d f g h : α} {xs : List α} : atI (a :: b :: c :: d :: f :: g :: h :: xs) 6 = some h := rfl
theorem Len_tup {xs : List D} : iLen (.tup xs) = some (.sh (.int xs.length)) := rfl
theorem Len_lst {xs : List D} : iLen (.lst xs) = some (.sh (.int xs.length)) := rfl
theorem Len_dic {t : Bool} {kvs : List (D × D)} : iLen (.dic t kvs) = some (.sh (.int kvs.length)) := rfl
theorem Ix_dic {t : Bool} {kvs : List (D × D)} {q : D} : iIx (.dic t kvs) q = if keyOf t q then (lookD kvs q).map B.sh else none := by cases q <;> rfl
theorem In_dic {t : Bool} {kvs : List (D × D)} {q : D} : iIn q (.dic t kvs) = if keyOf t q then some (.sh (.bl (lookD kvs q).isSome)) else none := by
  unfold iIn isIn; dsimp only; generalize keyOf t q = b; cases b <;> rfl
theorem Nin_dic {t : Bool} {kvs : List (D × D)} {q : D} : iNin q (.dic t kvs) = if keyOf t q then some (.sh (.bl (!(lookD kvs q).isSome))) else none := by
  unfold iNin isIn; dsimp only; generalize keyOf t q = b; cases b <;> rfl
theorem Min_int {a b : Int} : iMin (.int a) (.int b) = some (.sh (.int (if b < a then b else a))) := rfl
theorem Len_str {xs : Txt} : iLen (.str xs) = some (.sh (.int xs.length)) := rfl
theorem Int_int {i : Int} : iInt (.int i) = some (.sh (.int i)) := rfl
theorem Int_bl {b : Bool} : iInt (.bl b) = some (.sh (.int (if b then 1 else 0))) := rfl
theorem Tuple_lst {xs : List D} : iTuple (.lst xs) = some (.sh (.tup xs)) := rfl
theorem Tuple_tup {xs : List D} : iTuple (.tup xs) = some (.sh (.tup xs)) := rfl
theorem List_lst {xs : List D} : iList (.lst xs) = some (.ow (.lst xs)) := rfl
theorem List_tup {xs : List D} : iList (.tup xs) = some (.ow (.lst xs)) := rfl
theorem List_dic {kvs : List (D × D)} : iList (.dic false kvs) = some (.ow (.lst (kvs.map (·.1)))) := rfl
theorem bools_nil : bools [] = some [] := rfl
theorem bools_cons {b : Bool} {r : List D} : bools (.bl b :: r) = (bools r).map fun bs => b :: bs := rfl
theorem All_lst {xs : List D} : iAll (.lst xs) = (bools xs).map fun bs => B.sh (.bl (bs.all id)) := rfl
theorem Any_lst {xs : List D} : iAny (.lst xs) = (bools xs).map fun bs => B.sh (.bl (bs.any id)) := rfl
theorem dep_non : D.dep .non = 0 := rfl
theorem dep_bl {b : Bool} : D.dep (.bl b) = 0 := rfl
theorem dep_int {b : Int} : D.dep (.int b) = 0 := rfl
theorem dep_str {b : Txt} : D.dep (.str b) = 0 := rfl
theorem dep_tupS {xs : List D} : D.dep (.tup xs) = D.deps xs + 1 := by simp [D.dep]
theorem dep_lstS {xs : List D} : D.dep (.lst xs) = D.deps xs + 1 := by simp [D.dep]
theorem deps_nil : D.deps [] = 0 := by simp [D.deps]
theorem deps_cons {x : D} {xs : List D} : D.deps (x :: xs) = max (D.dep x) (D.deps xs) := by simp [D.deps]
theorem isNon_non : D.isNon .non = true := rfl
theorem isNon_int {i : Int} : D.isNon (.int i) = false := rfl
theorem isNon_tup {i : List D} : D.isNon (.tup i) = false := rfl
theorem isNon_lst {i : List D} : D.isNon (.lst i) = false := rfl
theorem isNon_str {i : Txt} : D.isNon (.str i) = false := rfl
theorem isNon_bl {i : Bool} : D.isNon (.bl i) = false := rfl
theorem eqv_ss {x y : Txt} : D.eqv (.str x) (.str y) = (x == y) := by simp [D.eqv]
theorem eqv_ii {x y : Int} : D.eqv (.int x) (.int y) = (x == y) := by simp [D.eqv]
theorem eqv_bb {x y : Bool} : D.eqv (.bl x) (.bl y) = (x == y) := by simp [D.eqv]
theorem eqv_nn : D.eqv .non .non = true := by simp [D.eqv]
theorem eqv_tt {x y : List D} : D.eqv (.tup x) (.tup y) = D.eqvs x y := by simp [D.eqv]
theorem eqv_ll {x y : List D} : D.eqv (.lst x) (.lst y) = D.eqvs x y := by simp [D.eqv]
theorem eqvs_nn : D.eqvs [] [] = true := by simp [D.eqvs]
theorem eqvs_nc {x : D} {xs : List D} : D.eqvs [] (x :: xs) = false := by simp [D.eqvs]
theorem eqvs_cn {x : D} {xs : List D} : D.eqvs (x :: xs) [] = false := by simp [D.eqvs]
theorem eqvs_cc {x y : D} {xs ys : List D} : D.eqvs (x :: xs) (y :: ys) = (D.eqv x y && D.eqvs xs ys) := by simp [D.eqvs]
theorem upto_1 : upto 1 = [.int 0] := rfl
theorem upto_2 : upto 2 = [.int 0, .int 1] := rfl
theorem upto_3 : upto 3 = [.int 0, .int 1, .int 2] := rfl
theorem upto_7 : upto 7 = [.int 0, .int 1, .int 2, .int 3, .int 4, .int 5, .int 6] := rfl
theorem K_mAdd {a b : M B} : K (mAdd a b) ρ k e = K a ρ (kOp1 iAdd b k e) e := K_mOp
theorem K_mSub {a b : M B} : K (mSub a b) ρ k e = K a ρ (kOp1 iSub b k e) e := K_mOp
theorem K_mMul {a b : M B} : K (mMul a b) ρ k e = K a ρ (kOp1 iMul b k e) e := K_mOp
theorem K_mFdiv {a b : M B} : K (mFdiv a b) ρ k e = K a ρ (kOp1 iFdiv b k e) e := K_mOp
theorem K_mMod {a b : M B} : K (mMod a b) ρ k e = K a ρ (kOp1 iMod b k e) e := K_mOp
theorem K_mPow {a b : M B} : K (mPow a b) ρ k e = K a ρ (kOp1 iPow b k e) e := K_mOp
theorem K_mEq {a b : M B} : K (mEq a b) ρ k e = K a ρ (kOp1 iEq b k e) e := K_mOp
theorem K_mNe {a b : M B} : K (mNe a b) ρ k e = K a ρ (kOp1 iNe b k e) e := K_mOp
theorem K_mLt {a b : M B} : K (mLt a b) ρ k e = K a ρ (kOp1 iLt b k e) e := K_mOp
theorem K_mLe {a b : M B} : K (mLe a b) ρ k e = K a ρ (kOp1 iLe b k e) e := K_mOp
theorem K_mGt {a b : M B} : K (mGt a b) ρ k e = K a ρ (kOp1 iGt b k e) e := K_mOp
theorem K_mGe {a b : M B} : K (mGe a b) ρ k e = K a ρ (kOp1 iGe b k e) e := K_mOp
theorem K_mIn {a b : M B} : K (mIn a b) ρ k e = K a ρ (kOp1 iIn b k e) e := K_mOp
theorem K_mNin {a b : M B} : K (mNin a b) ρ k e = K a ρ (kOp1 iNin b k e) e := K_mOp
theorem K_mMin {a b : M B} : K (mMin a b) ρ k e = K a ρ (kOp1 iMin b k e) e := K_mOp
theorem K_mJoin {a b : M B} : K (mJoin a b) ρ k e = K a ρ (kOp1 iJoin b k e) e := K_mOp
theorem K_mIndex {a b : M B} : K (mIndex a b) ρ k e = K a ρ (kOp1 iIndex b k e) e := K_mOp
theorem K_mLen {a : M B} : K (mLen a) ρ k e = K a ρ (kUn iLen k) e := K_mUn
theorem K_mInt {a : M B} : K (mInt a) ρ k e = K a ρ (kUn iInt k) e := K_mUn
theorem K_mStr {a : M B} : K (mStr a) ρ k e = K a ρ (kUn iStr k) e := K_mUn
theorem K_mTuple {a : M B} : K (mTuple a) ρ k e = K a ρ (kUn iTuple k) e := K_mUn
theorem K_mList {a : M B} : K (mList a) ρ k e = K a ρ (kUn iList k) e := K_mUn
theorem K_mAll {a : M B} : K (mAll a) ρ k e = K a ρ (kUn iAll k) e := K_mUn
theorem K_mAny {a : M B} : K (mAny a) ρ k e = K a ρ (kUn iAny k) e := K_mUn
theorem K_mSorted {a : M B} : K (mSorted a) ρ k e = K a ρ (kUn iSorted k) e := K_mUn
theorem K_mDict {a : M B} : K (mDict a) ρ k e = K a ρ (kUn iDict k) e := K_mUn
theorem K_mIsA {t : Ty} {a : M B} : K (mIsA t a) ρ k e = K a ρ (kUn (iIsA t) k) e := K_mUn
theorem IsA_tup {t : Ty} {xs : List D} : iIsA t (.tup xs) = some (.sh (.bl (isA (.tup xs) t))) := rfl
theorem IsA_lst {t : Ty} {xs : List D} : iIsA t (.lst xs) = some (.sh (.bl (isA (.lst xs) t))) := rfl
theorem IsA_str {t : Ty} {xs : Txt} : iIsA t (.str xs) = some (.sh (.bl (isA (.str xs) t))) := rfl
theorem IsA_int {t : Ty} {i : Int} : iIsA t (.int i) = some (.sh (.bl (isA (.int i) t))) := rfl
theorem IsA_bl {t : Ty} {i : Bool} : iIsA t (.bl i) = some (.sh (.bl (isA (.bl i) t))) := rfl
theorem Sl_tup {xs : List D} {l h : Option Int} : iSl (.tup xs) l h = some (.sh (.tup (cutL xs (endI xs.length 0 l) (endI xs.length xs.length h)))) := rfl
theorem Sl_lst {xs : List D} {l h : Option Int} : iSl (.lst xs) l h = some (.ow (.lst (cutL xs (endI xs.length 0 l) (endI xs.length xs.length h)))) := rfl
theorem Sl_str {xs : Txt} {l h : Option Int} : iSl (.str xs) l h = some (.sh (.str (cutL xs (endI xs.length 0 l) (endI xs.length xs.length h)))) := rfl
theorem endI_no {n d : Nat} : endI n d none = d := rfl
theorem endI_so {n d : Nat} {i : Int} : endI n d (some i) = if i < 0 then (i + n).toNat else min i.toNat n := rfl
theorem cutL_eq {α : Type} {xs : List α} {a b : Nat} : cutL xs a b = (xs.drop a).take (b - a) := rfl
theorem Mul_tup {a : List D} {n : Int} : iMul (.tup a) (.int n) = if decide (2 ≤ n) && decide (n ≤ 1000) && decide (a.length ≤ 1000) && !a.isEmpty then some (.sh (.tup (repL a n.toNat))) else none := rfl
theorem txt_nc {a : Nat} {x : Txt} : (([] : Txt) == (a :: x)) = false := rfl
theorem txt_cn {a : Nat} {x : Txt} : ((a :: x) == ([] : Txt)) = false := rfl
theorem IsA_non {t : Ty} : iIsA t .non = some (.sh (.bl (isA .non t))) := rfl
end
end WF

set_option Elab.async false
set_option linter.all false
set_option maxRecDepth 100000
set_option maxHeartbeats 1000000
/-! WFQ: comprehensions whose turns change other names. -/
namespace WF
section
variable {ρ ρ1 ρ2 : Env}
/-- each turn brings an item that R ties to what was walked -/
theorem compGo_rel {t : Tg} {c : M Bool} {e : M B} (I : Env → Prop) (R : D → D → Prop) : ∀ {ds : List D}, (∀ d ∈ ds, ∀ ρ, I ρ → ∃ ρ1 ρ2 ρ3 x b, putTg (clr ρ t.slots) t d = some ρ1 ∧ c ρ1 = some (.ok true, ρ3) ∧ e ρ3 = some (.ok b, ρ2) ∧ noPl b = true ∧ b.dat ρ2 = some x ∧ R d x ∧ I ρ2) →
    ∀ acc ρ, I ρ → ∃ xs ρ', compGo t c e ds acc ρ = some (.ok (acc ++ xs), ρ') ∧ I ρ' ∧ xs.length = ds.length ∧ ∀ (i : Nat) d x, ds[i]? = some d → xs[i]? = some x → R d x
  | [], _, acc, ρ, h => ⟨[], ρ, by rw [List.append_nil]; rfl, h, rfl, fun i d x e => by simp at e⟩
  | d :: ds, st, acc, ρ, h => by
    obtain ⟨ρ1, ρ2, ρ3, x, b, e1, ec, ee, nb, ed, r, h2⟩ := st d List.mem_cons_self ρ h
    have u : compGo t c e (d :: ds) acc ρ = bind c (fun k => if k then bind e fun x => bind (kept [x]) fun v => compGo t c e ds (acc ++ v) else compGo t c e ds acc) ρ1 := by
      show (match putTg (clr ρ t.slots) t d with | none => none | some ρ1 => bind c _ ρ1) = _
      rw [e1]
    have ek : kept [b] ρ2 = some (.ok [x], ρ2) := by
      unfold kept
      rw [if_pos (by simp [nb])]
      show (match datsL ρ2 [b] with | none => none | some ds => some (Res.ok ds, ρ2)) = _
      have : datsL ρ2 [b] = some [x] := by
        show (match b.dat ρ2, datsL ρ2 [] with | some d, some ds => some (d :: ds) | _, _ => none) = _
        rw [ed]
        rfl
      rw [this]
    obtain ⟨xs, ρ', e3, h3, hl, hr⟩ := compGo_rel I R (fun d m => st d (List.mem_cons_of_mem _ m)) (acc ++ [x]) ρ2 h2
    refine ⟨x :: xs, ρ', ?_, h3, by simp [hl], fun i d' y q1 q2 => ?_⟩
    · rw [u, bind_eq ec]
      show bind e (fun x => bind (kept [x]) fun v => compGo t c e ds (acc ++ v)) ρ3 = _
      rw [bind_eq ee, bind_eq ek, e3, List.append_assoc]
      rfl
    · cases i with
      | zero => simp at q1 q2; subst q1; subst q2; exact r
      | succ i => exact hr i d' y (by simpa using q1) (by simpa using q2)
theorem mComp_rel {i : Nat} {it : M (List D)} {c : M Bool} {e : M B} {ds : List D} (I : Env → Prop) (R : D → D → Prop) (hit : it ρ = some (.ok ds, ρ1)) (hi : i < ρ1.length) (h0 : ρ1.at i = none) (hz : ds.length ≤ LIM) (hI : I ρ1)
    (st : ∀ d ∈ ds, ∀ ρ, I ρ → ∃ ρ1 ρ2 ρ3 x b, putTg (clr ρ [i]) (.one i) d = some ρ1 ∧ c ρ1 = some (.ok true, ρ3) ∧ e ρ3 = some (.ok b, ρ2) ∧ noPl b = true ∧ b.dat ρ2 = some x ∧ R d x ∧ I ρ2) :
    ∃ xs ρ', mComp (.one i) it c e ρ = some (.ok (.ow (.lst xs)), ρ'.set i none) ∧ I ρ' ∧ xs.length = ds.length ∧ ∀ (j : Nat) d x, ds[j]? = some d → xs[j]? = some x → R d x := by
  obtain ⟨xs, ρ', e1, h1, hl, hr⟩ := compGo_rel (t := .one i) I R st [] ρ1 hI
  refine ⟨xs, ρ', ?_, h1, hl, hr⟩
  unfold mComp
  rw [bind_eq hit]
  have fr : free ρ1 (Tg.one i).slots = true := by
    show (([i] : List Nat).all fun i => match ρ1.at i with | none => decide (i < ρ1.length) | some (.sh _) => true | some _ => false) = true
    simp [h0, hi]
  have ne : noExc (compGo (.one i) c e ds []) ρ1 = some (.ok xs, ρ') := by
    unfold noExc
    rw [e1]
    rfl
  show (if free ρ1 (Tg.one i).slots then match noExc (compGo (.one i) c e ds []) ρ1 with
      | some (.ok vs, ρ2) => if vs.length ≤ LIM then some (Res.ok (B.ow (.lst vs)), back ρ1 ρ2 (Tg.one i).slots) else none
      | _ => none else none) = _
  rw [fr, ne]
  show (if xs.length ≤ LIM then some (Res.ok (B.ow (.lst xs)), back ρ1 ρ' [i]) else none) = _
  rw [if_pos (by omega)]
  have : back ρ1 ρ' [i] = ρ'.set i none := by
    show ρ'.set i (ρ1.at i) = _
    rw [h0]
  rw [this]
end
end WF

set_option Elab.async false
set_option linter.all false
set_option maxRecDepth 100000
set_option maxHeartbeats 1000000
/-! WFW: slots, depths, the same data; pots and draws. Core Lean, WFA and WFA2 alone. -/
namespace WF
/-- a slot that may be bound anew -/
def Nio (o : Option SB) : Prop := ∀ x, o ≠ some (.io x)
theorem nio_no : Nio none := fun _ h => by cases h
theorem nio_sh {d : D} : Nio (some (.sh d)) := fun _ h => by cases h
theorem nio_ow {d : O} : Nio (some (.ow d)) := fun _ h => by cases h
theorem putS_nio {o : Option SB} {r : Env} {b : SB} (h : Nio o) : putS (o :: r) 0 b = some (some b :: r) := by
  unfold putS
  rw [if_pos (by simp)]
  cases o with
  | none => rfl
  | some c => cases c with
    | io x => exact absurd rfl (h x)
    | _ => rfl
/-- a slot that a comprehension may use -/
def Fre (o : Option SB) : Prop := o = none ∨ ∃ d, o = some (.sh d)
theorem fre_no : Fre none := .inl rfl
theorem fre_sh {d : D} : Fre (some (.sh d)) := .inr ⟨d, rfl⟩
theorem Fre.nio {o : Option SB} (h : Fre o) : Nio o := by
  rcases h with rfl | ⟨d, rfl⟩
  · exact nio_no
  · exact nio_sh
theorem fr1_fre {o : Option SB} {r : Env} (h : Fre o) : fr1 (o :: r) 0 = true := by
  rcases h with rfl | ⟨d, rfl⟩
  · exact fr1_no
  · rfl
mutual
theorem eqv_self : ∀ x : D, D.dep x ≤ 900 → D.eqv x x = true
  | .non, _ => by simp [D.eqv]
  | .bl _, _ => by simp [D.eqv]
  | .int _, _ => by simp [D.eqv]
  | .str _, _ => by simp [D.eqv]
  | .tup xs, h => by rw [eqv_tt]; exact eqvs_self xs (by rw [dep_tupS] at h; omega)
  | .lst xs, h => by rw [eqv_ll]; exact eqvs_self xs (by rw [dep_lstS] at h; omega)
  | .dic _ _, h => absurd h (by show ¬ (1000 ≤ 900); decide)
theorem eqvs_self : ∀ xs : List D, D.deps xs ≤ 900 → D.eqvs xs xs = true
  | [], _ => by simp [D.eqvs]
  | x :: xs, h => by
    rw [deps_cons] at h
    rw [eqvs_cc, eqv_self x (by omega), eqvs_self xs (by omega)]
    rfl
end
theorem deps_le {n : Nat} : ∀ {xs : List D}, (∀ x ∈ xs, D.dep x ≤ n) → D.deps xs ≤ n
  | [], _ => Nat.zero_le _
  | x :: xs, h => Nat.max_le.2 ⟨h x List.mem_cons_self, deps_le fun y m => h y (List.mem_cons_of_mem _ m)⟩
theorem mem_dep : ∀ {xs : List D} {x : D}, x ∈ xs → D.dep x ≤ D.deps xs
  | y :: ys, x, m => by
    rw [deps_cons]
    rcases List.mem_cons.mp m with h | h
    · subst h; exact Nat.le_max_left _ _
    · exact Nat.le_trans (mem_dep h) (Nat.le_max_right _ _)
theorem nodic {v : D} {n : Nat} (h : D.dep v ≤ n) (hn : n < 1000) : ∀ t kvs, v ≠ .dic t kvs := fun t kvs e => by
  subst e
  have h : 1000 ≤ n := h
  omega
theorem upto_len {n : Nat} : (upto n).length = n := by simp [upto]
theorem atI_nat {α : Type} {xs : List α} {j : Nat} (h : j < xs.length) : atI xs (j : Int) = some xs[j] := by
  unfold atI
  rw [if_pos (by omega), Int.toNat_natCast, List.getElem?_eq_getElem h]
/-! ### pots -/
/-- the pot of the law's draws -/
def Pot (g s : Int) : Prop := 0 ≤ g ∧ 0 ≤ s ∧ s < 2147483549
abbrev pot (g s : Int) : SB := .io (.lst [.int g, .int s])
abbrev oPot (g s : Int) : SB := .ow (.lst [.int g, .int s])
end WF

set_option linter.all false
set_option maxRecDepth 100000
namespace WF
namespace CM
abbrev t_Say : Txt := [83, 97, 121]
abbrev t__10 : Txt := [10]
abbrev t__32 : Txt := [32]
abbrev t__58_32 : Txt := [58, 32]
abbrev t__58_32no : Txt := [58, 32, 110, 111]
abbrev t__58_32yes : Txt := [58, 32, 121, 101, 115]
abbrev t_always : Txt := [97, 108, 119, 97, 121, 115]
abbrev t_bar : Txt := [98, 97, 114]
abbrev t_bars : Txt := [98, 97, 114, 115]
abbrev t_both : Txt := [98, 111, 116, 104]
abbrev t_both_32either_32last : Txt := [98, 111, 116, 104, 32, 101, 105, 116, 104, 101, 114, 32, 108, 97, 115, 116]
abbrev t_clear : Txt := [99, 108, 101, 97, 114]
abbrev t_come : Txt := [99, 111, 109, 101]
abbrev t_court : Txt := [99, 111, 117, 114, 116]
abbrev t_day : Txt := [100, 97, 121]
abbrev t_day_32use : Txt := [100, 97, 121, 32, 117, 115, 101]
abbrev t_either : Txt := [101, 105, 116, 104, 101, 114]
abbrev t_empty : Txt := []
abbrev t_gone : Txt := [103, 111, 110, 101]
abbrev t_handed : Txt := [104, 97, 110, 100, 101, 100]
abbrev t_kept : Txt := [107, 101, 112, 116]
abbrev t_lag : Txt := [108, 97, 103]
abbrev t_last : Txt := [108, 97, 115, 116]
abbrev t_morning : Txt := [109, 111, 114, 110, 105, 110, 103]
abbrev t_morning_32now : Txt := [109, 111, 114, 110, 105, 110, 103, 32, 110, 111, 119]
abbrev t_no : Txt := [110, 111]
abbrev t_nobody : Txt := [110, 111, 98, 111, 100, 121]
abbrev t_noted : Txt := [110, 111, 116, 101, 100]
abbrev t_now : Txt := [110, 111, 119]
abbrev t_once : Txt := [111, 110, 99, 101]
abbrev t_own : Txt := [111, 119, 110]
abbrev t_own_32win : Txt := [111, 119, 110, 32, 119, 105, 110]
abbrev t_paper : Txt := [112, 97, 112, 101, 114]
abbrev t_refused : Txt := [114, 101, 102, 117, 115, 101, 100]
abbrev t_say : Txt := [115, 97, 121]
abbrev t_two : Txt := [116, 119, 111]
abbrev t_use : Txt := [117, 115, 101]
abbrev t_void : Txt := [118, 111, 105, 100]
abbrev t_win : Txt := [119, 105, 110]
abbrev t_words : Txt := [119, 111, 114, 100, 115]
abbrev t_words_32bars_32lag_32court_32once_32void_32paper : Txt := [119, 111, 114, 100, 115, 32, 98, 97, 114, 115, 32, 108, 97, 103, 32, 99, 111, 117, 114, 116, 32, 111, 110, 99, 101, 32, 118, 111, 105, 100, 32, 112, 97, 112, 101, 114]
abbrev t_wrong : Txt := [119, 114, 111, 110, 103]
abbrev t_x : Txt := [120]
abbrev t_yes : Txt := [121, 101, 115]
def c_EVENTS : D := D.tup [(.tup [(.str t_clear), (.int 0)]), (.tup [(.str t_clear), (.int 1)]), (.tup [(.str t_come), (.int 0)]), (.tup [(.str t_come), (.int 1)]), (.tup [(.str t_come), (.int 2)]), (.tup [(.str t_court), (.int 0)]), (.tup [(.str t_court), (.int 1)]), (.tup [(.str t_morning)]), (.tup [(.str t_paper), (.int 0)]), (.tup [(.str t_paper), (.int 1)]), (.tup [(.str t_say), (.int 0), (.str t_always)]), (.tup [(.str t_say), (.int 0), (.str t_bar)]), (.tup [(.str t_say), (.int 0), (.str t_no)]), (.tup [(.str t_say), (.int 0), (.str t_once)]), (.tup [(.str t_say), (.int 1), (.str t_always)]), (.tup [(.str t_say), (.int 1), (.str t_bar)]), (.tup [(.str t_say), (.int 1), (.str t_no)]), (.tup [(.str t_say), (.int 1), (.str t_once)])]
def c_HARMS : D := D.tup [(.str t_kept), (.str t_nobody), (.str t_two), (.str t_wrong)]
def c_MOST_EVENTS : D := D.int 60
def c_OTHER : D := D.int 2
def c_PART_NAMES : D := D.tup [(.str t_words), (.str t_bars), (.str t_lag), (.str t_court), (.str t_once), (.str t_void), (.str t_paper)]
def c_VALUES : D := D.tup [(.tup [(.str t_both), (.str t_either), (.str t_last)]), (.tup [(.str t_own), (.str t_win)]), (.tup [(.str t_morning), (.str t_now)]), (.tup [(.str t_morning), (.str t_now)]), (.tup [(.str t_day), (.str t_use)]), (.tup [(.bl false), (.bl true)]), (.tup [(.bl false), (.bl true)])]
def c_WORDS : D := D.tup [(.str t_always), (.str t_bar), (.str t_no), (.str t_once)]
def isC_FetchError (c : Nat) : Bool := true
def isC_InvalidRule (c : Nat) : Bool := c == 1
def isC_InvalidRow (c : Nat) : Bool := c == 2
def isC_InvalidHarm (c : Nat) : Bool := c == 3
def isC_InvalidParent (c : Nat) : Bool := c == 4
def isC_InvalidPart (c : Nat) : Bool := c == 5
def isC_InvalidPerson (c : Nat) : Bool := c == 6
def isC_InvalidWord (c : Nat) : Bool := c == 7
def isC_NothingToUndo (c : Nat) : Bool := c == 8
def isC_TooMany (c : Nat) : Bool := c == 9
def isC_WrongLine (c : Nat) : Bool := c == 10
def isC_Failed (c : Nat) : Bool := c == 11
def f_is_same : Fn := mkFn 2 2
  (sSeq (sIf (tOr (tV (mIsA .bool (mP 0))) (tV (mIsA .bool (mP 1)))) (sRet (mAnd (mIsA .bool (mP 0)) (mAnd (mIsA .bool (mP 1)) (mEq (mP 0) (mP 1))))) sPass)
  (sRet (mAnd (mIsA .str (mP 0)) (mAnd (mIsA .str (mP 1)) (mEq (mP 0) (mP 1))))))
def ce0_is_rule : M B :=
  (mCall f_is_same (mCons (mV 1) (mCons (mV 3) mNil)))
def ce1_is_rule : M B :=
  (mAny (mComp (.one 3) (items (mV 2)) yes ce0_is_rule))
def f_is_rule : Fn := mkFn 1 4
  (sSeq (sIf (tOr (tNot (tV (mIsA .tuple (mP 0)))) (tV (mNe (mLen (mP 0)) (mLen (mK c_PART_NAMES))))) (sRet (mK (.bl false))) sPass)
  (sRet (mAll (mComp (.tup [1, 2]) (itZip (mV 0) (mK c_VALUES)) yes ce1_is_rule))))
def f_is_number : Fn := mkFn 2 2
  (sRet (mAnd (mIsA .int (mP 0)) (mAnd (mNot (mIsA .bool (mP 0))) (mLeLe (mK (.int 0)) (mP 0) (mP 1)))))
def f_is_word : Fn := mkFn 1 1
  (sRet (mAnd (mIsA .str (mP 0)) (mIn (mP 0) (mK c_WORDS))))
def f_is_event : Fn := mkFn 1 1
  (sSeq (sIf (tOr (tNot (tV (mIsA .tuple (mP 0)))) (tOr (tV (mEq (mP 0) (mK (.tup [])))) (tNot (tV (mIsA .str (mIx (mP 0) (mK (.int 0)))))))) (sRet (mK (.bl false))) sPass)
  (sSeq (sIf (tV (mEq (mIx (mP 0) (mK (.int 0))) (mK (.str t_morning)))) (sRet (mEq (mLen (mP 0)) (mK (.int 1)))) sPass)
  (sSeq (sIf (tV (mEq (mIx (mP 0) (mK (.int 0))) (mK (.str t_say)))) (sRet (mAnd (mEq (mLen (mP 0)) (mK (.int 3))) (mAnd (mCall f_is_number (mCons (mIx (mP 0) (mK (.int 1))) (mCons (mK (.int 1)) mNil))) (mCall f_is_word (mCons (mIx (mP 0) (mK (.int 2))) mNil))))) sPass)
  (sSeq (sIf (tV (mEq (mIx (mP 0) (mK (.int 0))) (mK (.str t_come)))) (sRet (mAnd (mEq (mLen (mP 0)) (mK (.int 2))) (mCall f_is_number (mCons (mIx (mP 0) (mK (.int 1))) (mCons (mK (.int 2)) mNil))))) sPass)
  (sRet (mAnd (mIn (mIx (mP 0) (mK (.int 0))) (mK (.tup [(.str t_clear), (.str t_court), (.str t_paper)]))) (mAnd (mEq (mLen (mP 0)) (mK (.int 2))) (mCall f_is_number (mCons (mIx (mP 0) (mK (.int 1))) (mCons (mK (.int 1)) mNil))))))))))
def ce0_are_events : M B :=
  (mCall f_is_event (mCons (mV 1) mNil))
def f_are_events : Fn := mkFn 1 2
  (sRet (mAnd (mIsA .tuple (mP 0)) (mAnd (mLe (mLen (mP 0)) (mK c_MOST_EVENTS)) (mAll (mComp (.one 1) (items (mV 0)) yes ce0_are_events)))))
def f_need_rule : Fn := mkFn 1 1
  (sIf (tNot (tV (mCall f_is_rule (mCons (mP 0) mNil)))) (sRaise 1) sPass)
def cc0_rules_near : M Bool :=
  (tNot (tV (mCall f_is_same (mCons (mV 4) (mCons (mIx (mP 0) (mP 2)) mNil)))))
def ce0_rules_near : M B :=
  (mAdd (mAdd (mSl (mP 0) none (some (mP 2))) (mTup (mCons (mV 4) mNil))) (mSl (mP 0) (some (mAdd (mP 2) (mK (.int 1)))) none))
def fb0_rules_near : S :=
  (sSet 1 (mAdd (mP 1) (mComp (.one 4) (items (mV 3)) cc0_rules_near ce0_rules_near)))
def f_rules_near : Fn := mkFn 1 5
  (sSeq (sSet 1 (mLst (ret (List.map B.sh []))))
  (sSeq (sFor (.tup [2, 3]) (itEnum (mK c_VALUES)) fb0_rules_near)
  (sRet (mSorted (mP 1)))))
def f_is_row : Fn := mkFn 1 1
  (sRet (mCall f_are_events (mCons (mP 0) mNil)))
def f_near : Fn := mkFn 1 1
  (sSeq (sDrop (mCall f_need_rule (mCons (mP 0) mNil)))
  (sRet (mCall f_rules_near (mCons (mP 0) mNil))))
def f__law_pot : Fn := mkFn 2 3
  (sSeq (sSet 2 (mIf (tV (mGe (mP 0) (mPow (mK (.int 10)) (mK (.int 18))))) (mAdd (mFdiv (mP 0) (mK (.int 5))) (mP 1)) (mK (.int 0))))
  (sRet (mLst (mCons (mV 2) (mCons (mAdd (mMod (mInt (mAdd (mMul (mP 0) (mK (.int 43))) (mMul (mK (.int 6007)) (mP 1)))) (mK (.int 1610612711))) (mK (.int 6))) mNil)))))
def f__law_lot : Fn := mkFn 2 4
  (sSeq (sIf (tV (mGt (mIx (mP 0) (mK (.int 0))) (mK (.int 0)))) (sSeq (sSet 2 (mMod (mInt (mIx (mP 0) (mK (.int 0)))) (mP 1)))
  (sSeq (sIxSet 0 (mK (.int 0)) (mFdiv (mIx (mP 0) (mK (.int 0))) (mP 1)))
  (sRet (mMv 2)))) sPass)
  (sSeq (sIxSet 0 (mK (.int 1)) (mMod (mInt (mAdd (mMul (mIx (mP 0) (mK (.int 1))) (mK (.int 1103515))) (mK (.int 12343)))) (mK (.int 2147483549))))
  (sSeq (sSet 3 (mMod (mInt (mMul (mIx (mP 0) (mK (.int 1))) (mAdd (mIx (mP 0) (mK (.int 1))) (mK (.int 87))))) (mK (.int 2147483497))))
  (sRet (mMod (mInt (mFdiv (mP 3) (mK (.int 743)))) (mP 1))))))
def f__law_pick : Fn := mkFn 2 2
  (sRet (mIx (mP 1) (mCall f__law_lot (mCons (mP 0) (mCons (mLen (mP 1)) mNil)))))
def f__law_values : Fn := mkFn 0 1
  (sSeq (sSet 0 (mLst (mCons (mLst (ret (List.map B.sh [(.str t_both), (.str t_either), (.str t_last)]))) (mCons (mLst (ret (List.map B.sh [(.str t_own), (.str t_win)]))) (mCons (mLst (ret (List.map B.sh [(.str t_morning), (.str t_now)]))) (mCons (mLst (ret (List.map B.sh [(.str t_morning), (.str t_now)]))) (mCons (mLst (ret (List.map B.sh [(.str t_day), (.str t_use)]))) mNil)))))))
  (sRet (mAdd (mP 0) (mLst (mCons (mLst (ret (List.map B.sh [(.bl false), (.bl true)]))) (mCons (mLst (ret (List.map B.sh [(.bl false), (.bl true)]))) mNil))))))
def ce0__law_rule : M B :=
  (mCall f__law_pick (mCons (mP 0) (mCons (mV 1) mNil)))
def f__law_rule : Fn := mkFn 1 2
  (sRet (mTuple (mComp (.one 1) (items (mCall f__law_values mNil)) yes ce0__law_rule)))
def f__law_words : Fn := mkFn 0 0
  (sRet (mLst (ret (List.map B.sh [(.str t_always), (.str t_bar), (.str t_no), (.str t_once)]))))
def f__law_event : Fn := mkFn 1 4
  (sSeq (sSet 1 (mLst (ret (List.map B.sh [(.str t_say), (.str t_say), (.str t_say), (.str t_come), (.str t_come), (.str t_come), (.str t_morning), (.str t_morning), (.str t_paper), (.str t_court), (.str t_clear)]))))
  (sSeq (sSet 2 (mCall f__law_pick (mCons (mP 0) (mCons (mV 1) mNil))))
  (sSeq (sIf (tV (mEq (mP 2) (mK (.str t_morning)))) (sRet (mTp (mCons (mMv 2) mNil))) sPass)
  (sSeq (sIf (tV (mEq (mP 2) (mK (.str t_come)))) (sRet (mTp (mCons (mMv 2) (mCons (mCall f__law_pick (mCons (mP 0) (mCons (mLst (ret (List.map B.sh [(.int 0), (.int 1), (.int 2), (.int 2)]))) mNil))) mNil)))) sPass)
  (sSeq (sSet 3 (mCall f__law_lot (mCons (mP 0) (mCons (mK (.int 2)) mNil))))
  (sRet (mIf (tV (mEq (mP 2) (mK (.str t_say)))) (mTp (mCons (mMv 2) (mCons (mMv 3) (mCons (mCall f__law_pick (mCons (mP 0) (mCons (mAdd (mCall f__law_words mNil) (mLst (ret (List.map B.sh [(.str t_always)])))) mNil))) mNil)))) (mTp (mCons (mMv 2) (mCons (mMv 3) mNil))))))))))
def ce0__law_row : M B :=
  (mCall f__law_event (mCons (mP 0) mNil))
def f__law_row : Fn := mkFn 2 3
  (sRet (mTuple (mComp (.one 2) (itRange (mCall f__law_lot (mCons (mP 0) (mCons (mAdd (mP 1) (mK (.int 1))) mNil)))) yes ce0__law_row)))
def fb0__law_is_rule : S :=
  (sIf (tOr (tNot (tV (mIsA .str (mIx (mP 0) (mP 2))))) (tV (mNin (mIx (mP 0) (mP 2)) (mSplit (mIx (mP 1) (mP 2)) (mK (.str t__32)))))) (sRet (mK (.bl false))) sPass)
def f__law_is_rule : Fn := mkFn 1 3
  (sSeq (sIf (tOr (tNot (tV (mIsA .tuple (mP 0)))) (tV (mNe (mLen (mP 0)) (mK (.int 7))))) (sRet (mK (.bl false))) sPass)
  (sSeq (sSet 1 (mLst (ret (List.map B.sh [(.str t_both_32either_32last), (.str t_own_32win), (.str t_morning_32now), (.str t_morning_32now), (.str t_day_32use)]))))
  (sSeq (sFor (.one 2) (itRange (mK (.int 5))) fb0__law_is_rule)
  (sRet (mAnd (mIsA .bool (mIx (mP 0) (mK (.int 5)))) (mIsA .bool (mIx (mP 0) (mK (.int 6)))))))))
def f__law_is_event : Fn := mkFn 1 1
  (sSeq (sIf (tOr (tNot (tV (mIsA .tuple (mP 0)))) (tOr (tV (mEq (mP 0) (mK (.tup [])))) (tNot (tV (mIsA .str (mIx (mP 0) (mK (.int 0)))))))) (sRet (mK (.bl false))) sPass)
  (sSeq (sIf (tV (mEq (mIx (mP 0) (mK (.int 0))) (mK (.str t_morning)))) (sRet (mEq (mLen (mP 0)) (mK (.int 1)))) sPass)
  (sSeq (sIf (tOr (tV (mNin (mIx (mP 0) (mK (.int 0))) (mK (.tup [(.str t_clear), (.str t_come), (.str t_court), (.str t_paper), (.str t_say)])))) (tV (mNe (mLen (mP 0)) (mIf (tV (mEq (mIx (mP 0) (mK (.int 0))) (mK (.str t_say)))) (mK (.int 3)) (mK (.int 2)))))) (sRet (mK (.bl false))) sPass)
  (sSeq (sIf (tOr (tV (mIsA .bool (mIx (mP 0) (mK (.int 1))))) (tNot (tV (mIsA .int (mIx (mP 0) (mK (.int 1))))))) (sRet (mK (.bl false))) sPass)
  (sSeq (sIf (tNot (tV (mLeLe (mK (.int 0)) (mIx (mP 0) (mK (.int 1))) (mIf (tV (mEq (mIx (mP 0) (mK (.int 0))) (mK (.str t_come)))) (mK (.int 2)) (mK (.int 1)))))) (sRet (mK (.bl false))) sPass)
  (sRet (mOr (mEq (mLen (mP 0)) (mK (.int 2))) (mAnd (mIsA .str (mIx (mP 0) (mK (.int 2)))) (mIn (mIx (mP 0) (mK (.int 2))) (mK (.tup [(.str t_always), (.str t_bar), (.str t_no), (.str t_once)])))))))))))
def cc0__law_is_row : M Bool :=
  (tNot (tV (mCall f__law_is_event (mCons (mV 1) mNil))))
def ce0__law_is_row : M B :=
  (mV 1)
def f__law_is_row : Fn := mkFn 1 2
  (sSeq (sIf (tOr (tNot (tV (mIsA .tuple (mP 0)))) (tV (mGt (mLen (mP 0)) (mK (.int 60))))) (sRet (mK (.bl false))) sPass)
  (sRet (mEq (mComp (.one 1) (items (mV 0)) cc0__law_is_row ce0__law_is_row) (mLst (ret (List.map B.sh []))))))
def f__law_odd : Fn := mkFn 1 2
  (sSeq (sSet 1 (mLst (mCons (mK .non) (mCons (mK (.bl true)) (mCons (mK (.bl false)) (mCons (mK (.int 0)) (mCons (mK (.int 1)) (mCons (mK (.int 2)) (mCons (mK (.int 3)) (mCons (mK (.int (-1))) (mCons (mPow (mK (.int 10)) (mK (.int 30))) (mCons (mK (.str t_empty)) (mCons (mK (.str t_both)) (mCons (mK (.str t_win)) (mCons (mK (.str t_now)) (mCons (mK (.str t_day)) (mCons (mK (.str t_always)) (mCons (mK (.str t_once)) (mCons (mK (.str t_come)) mNil)))))))))))))))))))
  (sSeq (sSet 1 (mAdd (mP 1) (mLst (mCons (mK (.str t_Say)) (mCons (mK (.tup [])) (mCons (mLst (ret (List.map B.sh []))) (mCons (mK (.tup [(.str t_morning)])) (mCons (mK (.tup [(.str t_come), (.int 2)])) (mCons (mK (.tup [(.str t_paper), (.bl true)])) (mCons (mK (.tup [(.str t_say), (.int 0), (.str t_bar)])) (mCons (mK (.tup [(.str t_say), (.int 1)])) mNil)))))))))))
  (sRet (mCall f__law_pick (mCons (mP 0) (mCons (mV 1) mNil))))))
def f__law_bent : Nat → Fn
  | 0 => fun _ => none
  | n + 1 => mkFn 2 4
    (sSeq (sIf (tOr (tNot (tV (mIsA .tuple (mP 1)))) (tOr (tV (mEq (mP 1) (mK (.tup [])))) (tV (mEq (mCall f__law_lot (mCons (mP 0) (mCons (mK (.int 7)) mNil))) (mK (.int 0)))))) (sRet (mIf (tV (mIsA .bool (mP 1))) (mNot (mP 1)) (mCall f__law_odd (mCons (mP 0) mNil)))) sPass)
  (sSeq (sPar [2, 3] (mCons (mCall f__law_lot (mCons (mP 0) (mCons (mLen (mP 1)) mNil))) (mCons (mCall f__law_lot (mCons (mP 0) (mCons (mK (.int 11)) mNil))) mNil)))
  (sSeq (sIf (tV (mEq (mP 3) (mK (.int 0)))) (sRet (mAdd (mSl (mP 1) none (some (mP 2))) (mSl (mP 1) (some (mAdd (mP 2) (mK (.int 1)))) none))) sPass)
  (sSeq (sIf (tV (mEq (mP 3) (mK (.int 1)))) (sRet (mAdd (mSl (mP 1) none (some (mAdd (mP 2) (mK (.int 1))))) (mSl (mP 1) (some (mP 2)) none))) sPass)
  (sSeq (sIf (tV (mEq (mP 3) (mK (.int 2)))) (sRet (mAdd (mAdd (mSl (mP 1) none (some (mP 2))) (mTup (mCons (mCall f__law_odd (mCons (mP 0) mNil)) mNil))) (mSl (mP 1) (some (mP 2)) none))) sPass)
  (sSeq (sIf (tV (mEq (mP 3) (mK (.int 3)))) (sRet (mList (mP 1))) sPass)
  (sRet (mAdd (mAdd (mSl (mP 1) none (some (mP 2))) (mTup (mCons (mCall (f__law_bent n) (mCons (mP 0) (mCons (mIx (mP 1) (mP 2)) mNil))) mNil))) (mSl (mP 1) (some (mAdd (mP 2) (mK (.int 1)))) none)))))))))
def cc0__law_near : M Bool :=
  (tV (mNe (mP 4) (mIx (mP 0) (mP 3))))
def ce0__law_near : M B :=
  (mAdd (mAdd (mSl (mP 0) none (some (mP 3))) (mTup (mCons (mV 4) mNil))) (mSl (mP 0) (some (mAdd (mP 3) (mK (.int 1)))) none))
def fb0__law_near : S :=
  (sSet 1 (mAdd (mP 1) (mComp (.one 4) (items (mIx (mP 2) (mP 3))) cc0__law_near ce0__law_near)))
def f__law_near : Fn := mkFn 1 5
  (sSeq (sPar [1, 2] (mCons (mLst (ret (List.map B.sh []))) (mCons (mCall f__law_values mNil) mNil)))
  (sSeq (sFor (.one 3) (itRange (mK (.int 7))) fb0__law_near)
  (sRet (mSorted (mP 1)))))
def f_need_row : Fn := mkFn 1 1
  (sIf (tNot (tV (mCall f_are_events (mCons (mP 0) mNil)))) (sRaise 2) sPass)
def f_begin : Fn := mkFn 0 0
  (sRet (mK (.tup [(.tup [(.str t_no), (.str t_no)]), (.tup [(.bl false), (.bl false)]), (.tup [(.str t_no), (.str t_no)]), (.tup [(.bl false), (.bl false)]), (.bl true)])))
def f_put_at : Fn := mkFn 3 3
  (sRet (mIf (tV (mEq (mP 1) (mK (.int 0)))) (mTup (mCons (mV 2) (mCons (mIx (mP 0) (mK (.int 1))) mNil))) (mTup (mCons (mIx (mP 0) (mK (.int 0))) (mCons (mV 2) mNil)))))
def f_spoken : Fn := mkFn 4 4
  (sSeq (sIf (tV (mEq (mIx (mP 0) (mK (.int 0))) (mK (.str t_last)))) (sSet 1 (mK (.tup [(.str t_no), (.str t_no)]))) sPass)
  (sRet (mCall f_put_at (mCons (mP 1) (mCons (mP 2) (mCons (mP 3) mNil))))))
def ce0_worded : M B :=
  (mIf (tAnd (tV (mIx (mP 0) (mK (.int 5)))) (tV (mP 5))) (mK (.str t_no)) (mV 4))
def f_worded : Fn := mkFn 4 6
  (sSeq (sIf (tAnd (tV (mNotN (mP 3))) (tV (mIx (mP 0) (mK (.int 6))))) (sSet 1 (mCall f_spoken (mCons (mP 0) (mCons (mP 1) (mCons (mP 3) (mCons (mK (.str t_once)) mNil)))))) sPass)
  (sRet (mTuple (mComp (.tup [4, 5]) (itZip (mV 1) (mV 2)) yes ce0_worded))))
def ce0_may : M B :=
  (mIn (mP 7) (mK (.tup [(.str t_always), (.str t_once)])))
def f_may : Fn := mkFn 5 8
  (sSeq (sIf (tV (mNe (mP 3) (mK c_OTHER))) (sRet (mNot (mIx (mP 2) (mP 3)))) sPass)
  (sSeq (sSet 5 (mCall f_worded (mCons (mP 0) (mCons (mP 1) (mCons (mP 2) (mCons (mP 4) mNil))))))
  (sSeq (sIf (tAnd (tV (mEq (mIx (mP 0) (mK (.int 1))) (mK (.str t_win)))) (tV (mIn (mK (.str t_bar)) (mP 5)))) (sRet (mK (.bl false))) sPass)
  (sSeq (sSet 6 (mComp (.one 7) (items (mV 5)) yes ce0_may))
  (sRet (mIf (tV (mEq (mIx (mP 0) (mK (.int 0))) (mK (.str t_both)))) (mAll (mP 6)) (mAny (mP 6))))))))
def ce0_used_up : M B :=
  (mIf (tV (mEq (mP 1) (mK (.str t_once)))) (mK (.str t_no)) (mV 1))
def f_used_up : Fn := mkFn 1 2
  (sRet (mTuple (mComp (.one 1) (items (mV 0)) yes ce0_used_up)))
def f_come : Fn := mkFn 4 9
  (sSeq (sUnp [4, 5, 6, 7, 8] (mV 1))
  (sSeq (sIf (tNot (tV (mP 8))) (sRet (mTup (mCons (mV 1) (mCons (mK (.str t_gone)) mNil)))) sPass)
  (sSeq (sIf (tNot (tV (mCall f_may (mCons (mP 0) (mCons (mV 6) (mCons (mV 7) (mCons (mP 2) (mCons (mP 3) mNil)))))))) (sRet (mTup (mCons (mV 1) (mCons (mK (.str t_refused)) mNil)))) sPass)
  (sSeq (sIf (tAnd (tV (mEq (mP 2) (mK c_OTHER))) (tV (mEq (mIx (mP 0) (mK (.int 4))) (mK (.str t_use))))) (sPar [4, 6] (mCons (mCall f_used_up (mCons (mV 4) mNil)) (mCons (mCall f_used_up (mCons (mV 6) mNil)) mNil))) sPass)
  (sRet (mTup (mCons (mTup (mCons (mV 4) (mCons (mV 5) (mCons (mV 6) (mCons (mV 7) (mCons (mK (.bl false)) mNil)))))) (mCons (mK (.str t_handed)) mNil))))))))
def ce0_morning : M B :=
  (mIf (tAnd (tV (mEq (mP 8) (mK (.str t_once)))) (tV (mEq (mP 9) (mK (.str t_once))))) (mK (.str t_no)) (mV 8))
def f_morning : Fn := mkFn 2 10
  (sSeq (sUnp [2, 3, 4, 5, 6] (mV 1))
  (sSeq (sIf (tV (mEq (mIx (mP 0) (mK (.int 4))) (mK (.str t_day)))) (sSeq (sSet 7 (mLZip (mV 2) (mV 4)))
  (sSet 2 (mTuple (mComp (.tup [8, 9]) (items (mV 7)) yes ce0_morning)))) sPass)
  (sRet (mTp (mCons (mMv 2) (mCons (mMv 3) (mCons (mMv 2) (mCons (mMv 3) (mCons (mK (.bl true)) mNil)))))))))
def f_step : Fn := mkFn 3 8
  (sSeq (sUnp [3, 4, 5, 6, 7] (mV 1))
  (sSeq (sIf (tV (mEq (mIx (mP 2) (mK (.int 0))) (mK (.str t_come)))) (sRet (mCall f_come (mCons (mP 0) (mCons (mP 1) (mCons (mIx (mP 2) (mK (.int 1))) (mCons (mK .non) mNil)))))) sPass)
  (sSeq (sIf (tV (mEq (mIx (mP 2) (mK (.int 0))) (mK (.str t_paper)))) (sRet (mCall f_come (mCons (mP 0) (mCons (mP 1) (mCons (mK c_OTHER) (mCons (mIx (mP 2) (mK (.int 1))) mNil)))))) sPass)
  (sSeq (sIf (tV (mEq (mIx (mP 2) (mK (.int 0))) (mK (.str t_morning)))) (sRet (mTup (mCons (mCall f_morning (mCons (mP 0) (mCons (mP 1) mNil))) (mCons (mK (.str t_noted)) mNil)))) sPass)
  (sSeq (sIf (tV (mEq (mIx (mP 2) (mK (.int 0))) (mK (.str t_say)))) (sSeq (sSet 3 (mCall f_spoken (mCons (mP 0) (mCons (mV 3) (mCons (mIx (mP 2) (mK (.int 1))) (mCons (mIx (mP 2) (mK (.int 2))) mNil))))))
  (sSet 5 (mIf (tV (mEq (mIx (mP 0) (mK (.int 2))) (mK (.str t_now)))) (mV 3) (mV 5)))) (sSeq (sSet 4 (mCall f_put_at (mCons (mV 4) (mCons (mIx (mP 2) (mK (.int 1))) (mCons (mEq (mIx (mP 2) (mK (.int 0))) (mK (.str t_court))) mNil)))))
  (sSet 6 (mIf (tV (mEq (mIx (mP 0) (mK (.int 3))) (mK (.str t_now)))) (mV 4) (mV 6)))))
  (sRet (mTup (mCons (mTup (mCons (mV 3) (mCons (mV 4) (mCons (mV 5) (mCons (mV 6) (mCons (mV 7) mNil)))))) (mCons (mK (.str t_noted)) mNil)))))))))
def fb0_led : S :=
  (sSeq (sUnp [2, 5] (mCall f_step (mCons (mP 0) (mCons (mV 2) (mCons (mV 4) mNil)))))
  (sDrop (mApp 3 (mV 5))))
def f_led : Fn := mkFn 2 6
  (sSeq (sSet 2 (mCall f_begin mNil))
  (sSeq (sSet 3 (mLst (ret (List.map B.sh []))))
  (sSeq (sFor (.one 4) (items (mV 1)) fb0_led)
  (sRet (mTp (mCons (mMv 2) (mCons (mMv 3) mNil)))))))
def ce0_truly_may : M B :=
  (mCall f_may (mCons (mP 0) (mCons (mIx (mP 1) (mK (.int 0))) (mCons (mIx (mP 1) (mK (.int 1))) (mCons (mV 3) (mCons (mIf (tV (mEq (mP 3) (mK c_OTHER))) (mV 2) (mK .non)) mNil))))))
def f_truly_may : Fn := mkFn 3 4
  (sRet (mTuple (mComp (.one 3) (itRange (mK (.int 3))) yes ce0_truly_may)))
def ce0_door_lets : M B :=
  (mCall f_may (mCons (mP 0) (mCons (mIx (mP 1) (mK (.int 2))) (mCons (mIx (mP 1) (mK (.int 3))) (mCons (mV 2) (mCons (mK .non) mNil))))))
def f_door_lets : Fn := mkFn 2 3
  (sRet (mTuple (mComp (.one 2) (itRange (mK (.int 3))) yes ce0_door_lets)))
def f_first_stand : Fn := mkFn 1 1
  (sSeq (sDrop (mCall f_need_rule (mCons (mP 0) mNil)))
  (sRet (mCall f_begin mNil)))
def f_stand_behind : Fn := mkFn 2 2
  (sSeq (sDrop (mCall f_need_rule (mCons (mP 0) mNil)))
  (sSeq (sDrop (mCall f_need_row (mCons (mP 1) mNil)))
  (sRet (mIx (mCall f_led (mCons (mP 0) (mCons (mP 1) mNil))) (mK (.int 0))))))
def f_told : Fn := mkFn 2 2
  (sSeq (sDrop (mCall f_need_rule (mCons (mP 0) mNil)))
  (sSeq (sDrop (mCall f_need_row (mCons (mP 1) mNil)))
  (sRet (mIx (mCall f_led (mCons (mP 0) (mCons (mP 1) mNil))) (mK (.int 1))))))
def f_who_may : Fn := mkFn 2 3
  (sSeq (sDrop (mCall f_need_rule (mCons (mP 0) mNil)))
  (sSeq (sDrop (mCall f_need_row (mCons (mP 1) mNil)))
  (sSeq (sSet 2 (mIx (mCall f_led (mCons (mP 0) (mCons (mP 1) mNil))) (mK (.int 0))))
  (sRet (mTup (mCons (mCall f_truly_may (mCons (mP 0) (mCons (mV 2) (mCons (mK .non) mNil)))) (mCons (mCall f_door_lets (mCons (mP 0) (mCons (mV 2) mNil))) mNil)))))))
def f__law_new : Fn := mkFn 0 0
  (sRet (mK (.tup [(.tup [(.str t_no), (.str t_no)]), (.tup [(.bl false), (.bl false)]), (.tup [(.str t_no), (.str t_no)]), (.tup [(.bl false), (.bl false)]), (.bl true)])))
def f__law_said : Fn := mkFn 4 5
  (sSeq (sSet 4 (mIf (tV (mEq (mIx (mP 0) (mK (.int 0))) (mK (.str t_last)))) (mLst (ret (List.map B.sh [(.str t_no), (.str t_no)]))) (mList (mP 1))))
  (sSeq (sIxSet 4 (mV 2) (mV 3))
  (sRet (mTuple (mP 4)))))
def cc0__law_may : M Bool :=
  (tNot (tAnd (tV (mIx (mP 0) (mK (.int 5)))) (tV (mIx (mP 2) (mP 6)))))
def ce0__law_may : M B :=
  (mIx (mP 1) (mP 6))
def cc1__law_may : M Bool :=
  (tOr (tV (mEq (mP 8) (mK (.str t_always)))) (tV (mEq (mP 8) (mK (.str t_once)))))
def ce1__law_may : M B :=
  (mV 8)
def f__law_may : Fn := mkFn 5 9
  (sSeq (sIf (tV (mLt (mP 3) (mK (.int 2)))) (sRet (mNot (mIx (mP 2) (mP 3)))) sPass)
  (sSeq (sIf (tAnd (tV (mNotN (mP 4))) (tV (mIx (mP 0) (mK (.int 6))))) (sSet 1 (mCall f__law_said (mCons (mP 0) (mCons (mP 1) (mCons (mP 4) (mCons (mK (.str t_once)) mNil)))))) sPass)
  (sSeq (sSet 5 (mComp (.one 6) (items (mK (.tup [(.int 0), (.int 1)]))) cc0__law_may ce0__law_may))
  (sSeq (sIf (tAnd (tV (mIn (mK (.str t_bar)) (mP 5))) (tV (mEq (mIx (mP 0) (mK (.int 1))) (mK (.str t_win))))) (sRet (mK (.bl false))) sPass)
  (sSeq (sSet 7 (mLen (mComp (.one 8) (items (mV 5)) cc1__law_may ce1__law_may)))
  (sRet (mIf (tV (mEq (mIx (mP 0) (mK (.int 0))) (mK (.str t_both)))) (mEq (mP 7) (mK (.int 2))) (mGt (mP 7) (mK (.int 0))))))))))
def ce0__law_comes : M B :=
  (mIf (tV (mEq (mP 9) (mK (.str t_once)))) (mK (.str t_no)) (mV 9))
def ce1__law_comes : M B :=
  (mIf (tV (mEq (mP 9) (mK (.str t_once)))) (mK (.str t_no)) (mV 9))
def f__law_comes : Fn := mkFn 4 10
  (sSeq (sUnp [4, 5, 6, 7, 8] (mV 1))
  (sSeq (sIf (tNot (tV (mP 8))) (sRet (mTup (mCons (mV 1) (mCons (mK (.str t_gone)) mNil)))) sPass)
  (sSeq (sIf (tNot (tV (mCall f__law_may (mCons (mP 0) (mCons (mV 6) (mCons (mV 7) (mCons (mP 2) (mCons (mP 3) mNil)))))))) (sRet (mTup (mCons (mV 1) (mCons (mK (.str t_refused)) mNil)))) sPass)
  (sSeq (sIf (tAnd (tV (mEq (mP 2) (mK (.int 2)))) (tV (mEq (mIx (mP 0) (mK (.int 4))) (mK (.str t_use))))) (sSeq (sSet 4 (mTuple (mComp (.one 9) (items (mV 4)) yes ce0__law_comes)))
  (sSet 6 (mTuple (mComp (.one 9) (items (mV 6)) yes ce1__law_comes)))) sPass)
  (sRet (mTup (mCons (mTup (mCons (mV 4) (mCons (mV 5) (mCons (mV 6) (mCons (mV 7) (mCons (mK (.bl false)) mNil)))))) (mCons (mK (.str t_handed)) mNil))))))))
def ce0__law_on : M B :=
  (mAnd (mEq (mIx (mP 3) (mP 10)) (mK (.str t_once))) (mEq (mIx (mP 5) (mP 10)) (mK (.str t_once))))
def ce1__law_on : M B :=
  (mIf (tV (mIx (mP 9) (mP 10))) (mK (.str t_no)) (mIx (mP 3) (mP 10)))
def f__law_on : Fn := mkFn 3 12
  (sSeq (sUnp [3, 4, 5, 6, 7] (mV 1))
  (sSeq (sIf (tV (mIn (mIx (mP 2) (mK (.int 0))) (mK (.tup [(.str t_come), (.str t_paper)])))) (sSeq (sSet 8 (mIf (tV (mEq (mIx (mP 2) (mK (.int 0))) (mK (.str t_paper)))) (mIx (mP 2) (mK (.int 1))) (mK .non)))
  (sRet (mCall f__law_comes (mCons (mP 0) (mCons (mP 1) (mCons (mIf (tV (mEq (mIx (mP 2) (mK (.int 0))) (mK (.str t_paper)))) (mK (.int 2)) (mIx (mP 2) (mK (.int 1)))) (mCons (mV 8) mNil))))))) sPass)
  (sSeq (sIf (tV (mEq (mIx (mP 2) (mK (.int 0))) (mK (.str t_morning)))) (sSeq (sIf (tV (mEq (mIx (mP 0) (mK (.int 4))) (mK (.str t_day)))) (sSeq (sSet 9 (mComp (.one 10) (items (mK (.tup [(.int 0), (.int 1)]))) yes ce0__law_on))
  (sSet 3 (mTuple (mComp (.one 10) (items (mK (.tup [(.int 0), (.int 1)]))) yes ce1__law_on)))) sPass)
  (sRet (mTup (mCons (mTup (mCons (mV 3) (mCons (mV 4) (mCons (mV 3) (mCons (mV 4) (mCons (mK (.bl true)) mNil)))))) (mCons (mK (.str t_noted)) mNil))))) sPass)
  (sSeq (sIf (tV (mEq (mIx (mP 2) (mK (.int 0))) (mK (.str t_say)))) (sSeq (sSet 3 (mCall f__law_said (mCons (mP 0) (mCons (mV 3) (mCons (mIx (mP 2) (mK (.int 1))) (mCons (mIx (mP 2) (mK (.int 2))) mNil))))))
  (sRet (mTup (mCons (mTup (mCons (mV 3) (mCons (mV 4) (mCons (mIf (tV (mEq (mIx (mP 0) (mK (.int 2))) (mK (.str t_now)))) (mV 3) (mV 5)) (mCons (mV 6) (mCons (mV 7) mNil)))))) (mCons (mK (.str t_noted)) mNil))))) sPass)
  (sSeq (sSet 11 (mList (mP 4)))
  (sSeq (sIxSet 11 (mIx (mP 2) (mK (.int 1))) (mEq (mIx (mP 2) (mK (.int 0))) (mK (.str t_court))))
  (sSeq (sSet 11 (mTuple (mP 11)))
  (sRet (mTup (mCons (mTup (mCons (mV 3) (mCons (mV 11) (mCons (mV 5) (mCons (mIf (tV (mEq (mIx (mP 0) (mK (.int 3))) (mK (.str t_now)))) (mV 11) (mV 6)) (mCons (mV 7) mNil)))))) (mCons (mK (.str t_noted)) mNil)))))))))))
def ce0__law_rights : M B :=
  (mCall f__law_may (mCons (mP 0) (mCons (mIx (mP 1) (mK (.int 0))) (mCons (mIx (mP 1) (mK (.int 1))) (mCons (mV 3) (mCons (mP 2) mNil))))))
def f__law_rights : Fn := mkFn 3 4
  (sRet (mComp (.one 3) (items (mK (.tup [(.int 0), (.int 1), (.int 2)]))) yes ce0__law_rights))
def fb0__law_led : S :=
  (sSeq (sUnp [2, 5] (mCall f__law_on (mCons (mP 0) (mCons (mV 2) (mCons (mV 4) mNil)))))
  (sDrop (mApp 3 (mV 5))))
def f__law_led : Fn := mkFn 2 6
  (sSeq (sPar [2, 3] (mCons (mCall f__law_new mNil) (mCons (mLst (ret (List.map B.sh []))) mNil)))
  (sSeq (sFor (.one 4) (items (mV 1)) fb0__law_led)
  (sRet (mTp (mCons (mMv 2) (mCons (mMv 3) mNil))))))
def ce0__law_known : M B :=
  (mCall f__law_may (mCons (mP 0) (mCons (mIx (mP 1) (mK (.int 2))) (mCons (mIx (mP 1) (mK (.int 3))) (mCons (mV 2) (mCons (mK .non) mNil))))))
def f__law_known : Fn := mkFn 2 3
  (sRet (mTuple (mComp (.one 2) (items (mK (.tup [(.int 0), (.int 1), (.int 2)]))) yes ce0__law_known)))
def f_need_harm : Fn := mkFn 1 1
  (sIf (tOr (tNot (tV (mIsA .str (mP 0)))) (tV (mNin (mP 0) (mK c_HARMS)))) (sRaise 3) sPass)
def f_harms_of : Fn := mkFn 4 6
  (sSeq (sIf (tV (mNin (mIx (mP 2) (mK (.int 0))) (mK (.tup [(.str t_come), (.str t_paper)])))) (sRet (mLst (ret (List.map B.sh [])))) sPass)
  (sSeq (sSet 4 (mCall f_truly_may (mCons (mP 0) (mCons (mP 1) (mCons (mIf (tV (mEq (mIx (mP 2) (mK (.int 0))) (mK (.str t_paper)))) (mIx (mP 2) (mK (.int 1))) (mK .non)) mNil)))))
  (sSeq (sSet 5 (mIx (mP 4) (mIf (tV (mEq (mIx (mP 2) (mK (.int 0))) (mK (.str t_come)))) (mIx (mP 2) (mK (.int 1))) (mK c_OTHER))))
  (sSeq (sIf (tV (mEq (mP 3) (mK (.str t_handed)))) (sRet (mIf (tV (mP 5)) (mLst (ret (List.map B.sh []))) (mLst (ret (List.map B.sh [(.str t_wrong)]))))) sPass)
  (sSeq (sIf (tV (mEq (mP 3) (mK (.str t_gone)))) (sRet (mIf (tV (mP 5)) (mLst (ret (List.map B.sh [(.str t_two)]))) (mLst (ret (List.map B.sh []))))) sPass)
  (sRet (mIf (tV (mP 5)) (mLst (ret (List.map B.sh [(.str t_kept)]))) (mMul (mLst (ret (List.map B.sh [(.str t_nobody)]))) (mInt (mNin (mK (.bl true)) (mP 4)))))))))))
def wb0_way_to : S :=
  (sSeq (sUnp [1, 3] (mIx (mP 0) (mP 1)))
  (sSet 2 (mAdd (mTup (mCons (mV 3) mNil)) (mP 2))))
def f_way_to : Fn := mkFn 2 4
  (sSeq (sSet 2 (mK (.tup [])))
  (sSeq (sWhile (tV (mNotN (mIx (mP 0) (mP 1)))) wb0_way_to)
  (sRet (mMv 2))))
def fb0_search : S :=
  (sSeq (sUnp [9, 10] (mCall f_step (mCons (mP 0) (mCons (mV 7) (mCons (mV 8) mNil)))))
  (sSeq (sIf (tV (mIn (mP 2) (mCall f_harms_of (mCons (mP 0) (mCons (mV 7) (mCons (mV 8) (mCons (mV 10) mNil))))))) (sRet (mTup (mCons (mV 4) (mCons (mAdd (mCall f_way_to (mCons (mV 4) (mCons (mV 7) mNil))) (mTup (mCons (mV 8) mNil))) mNil)))) sPass)
  (sIf (tV (mNin (mP 9) (mP 4))) (sSeq (sIxSet 4 (mV 9) (mTup (mCons (mV 7) (mCons (mV 8) mNil))))
  (sDrop (mApp 6 (mV 9)))) sPass)))
def fb1_search : S :=
  (sFor (.one 8) (items (mV 1)) fb0_search)
def wb0_search : S :=
  (sSeq (sSet 6 (mLst (ret (List.map B.sh []))))
  (sSeq (sFor (.one 7) (items (mV 5)) fb1_search)
  (sSet 5 (mV 6))))
def f_search : Fn := mkFn 3 11
  (sSeq (sSet 3 (mCall f_begin mNil))
  (sSeq (sPar [4, 5] (mCons (mDic1 (mV 3) (mK .non)) (mCons (mLst (mCons (mV 3) mNil)) mNil)))
  (sSeq (sWhile (tV (mNe (mP 5) (mLst (ret (List.map B.sh []))))) wb0_search)
  (sRet (mTp (mCons (mMv 4) (mCons (mK .non) mNil)))))))
def fb0_harms_in : S :=
  (sIxSet 1 (mV 4) (mK (.bl true)))
def fb1_harms_in : S :=
  (sFor (.one 4) (items (mCall f_harms_of (mCons (mP 0) (mCons (mV 2) (mCons (mV 3) (mCons (mIx (mCall f_step (mCons (mP 0) (mCons (mV 2) (mCons (mV 3) mNil)))) (mK (.int 1))) mNil)))))) fb0_harms_in)
def fb2_harms_in : S :=
  (sFor (.one 3) (items (mK c_EVENTS)) fb1_harms_in)
def f_harms_in : Fn := mkFn 1 5
  (sSeq (sSet 1 mDic0)
  (sSeq (sFor (.one 2) (itKeys (mIx (mCall f_search (mCons (mP 0) (mCons (mK c_EVENTS) (mCons (mK (.str t_empty)) mNil)))) (mK (.int 0)))) fb2_harms_in)
  (sRet (mSorted (mP 1)))))
def f_harms : Fn := mkFn 1 1
  (sSeq (sDrop (mCall f_need_rule (mCons (mP 0) mNil)))
  (sRet (mCall f_harms_in (mCons (mP 0) mNil))))
def f_first_row : Fn := mkFn 2 2
  (sSeq (sDrop (mCall f_need_rule (mCons (mP 0) mNil)))
  (sSeq (sDrop (mCall f_need_harm (mCons (mP 1) mNil)))
  (sRet (mIx (mCall f_search (mCons (mP 0) (mCons (mK c_EVENTS) (mCons (mP 1) mNil)))) (mK (.int 1))))))
def f_count_stands : Fn := mkFn 1 1
  (sSeq (sDrop (mCall f_need_rule (mCons (mP 0) mNil)))
  (sRet (mLen (mIx (mCall f_search (mCons (mP 0) (mCons (mK c_EVENTS) (mCons (mK (.str t_empty)) mNil)))) (mK (.int 0))))))
def ce0__law_events : M B :=
  (mTup (mCons (mK (.str t_come)) (mCons (mV 1) mNil)))
def ce1__law_events : M B :=
  (mTup (mCons (mV 3) (mCons (mV 2) mNil)))
def ce2__law_events : M B :=
  (mTup (mCons (mK (.str t_say)) (mCons (mV 2) (mCons (mV 3) mNil))))
def fb0__law_events : S :=
  (sSeq (sSet 0 (mAdd (mP 0) (mComp (.one 3) (items (mK (.tup [(.str t_clear), (.str t_court), (.str t_paper)]))) yes ce1__law_events)))
  (sSet 0 (mAdd (mP 0) (mComp (.one 3) (items (mCall f__law_words mNil)) yes ce2__law_events))))
def f__law_events : Fn := mkFn 0 4
  (sSeq (sSet 0 (mAdd (mLst (ret (List.map B.sh [(.tup [(.str t_morning)])]))) (mComp (.one 1) (items (mK (.tup [(.int 0), (.int 1), (.int 2)]))) yes ce0__law_events)))
  (sSeq (sFor (.one 2) (items (mK (.tup [(.int 0), (.int 1)]))) fb0__law_events)
  (sRet (mSorted (mP 0)))))
def f__law_harms : Fn := mkFn 4 8
  (sSeq (sIf (tV (mNin (mIx (mP 2) (mK (.int 0))) (mK (.tup [(.str t_come), (.str t_paper)])))) (sRet (mLst (ret (List.map B.sh [])))) sPass)
  (sSeq (sSet 4 (mIf (tV (mEq (mIx (mP 2) (mK (.int 0))) (mK (.str t_paper)))) (mIx (mP 2) (mK (.int 1))) (mK .non)))
  (sSeq (sSet 5 (mCall f__law_rights (mCons (mP 0) (mCons (mP 1) (mCons (mV 4) mNil)))))
  (sSeq (sSet 6 (mIf (tV (mEq (mIx (mP 2) (mK (.int 0))) (mK (.str t_paper)))) (mIx (mP 5) (mK (.int 2))) (mIx (mP 5) (mIx (mP 2) (mK (.int 1))))))
  (sSeq (sSet 7 (mAdd (mMul (mLst (ret (List.map B.sh [(.str t_kept)]))) (mInt (mAnd (mP 6) (mEq (mP 3) (mK (.str t_refused)))))) (mMul (mLst (ret (List.map B.sh [(.str t_two)]))) (mInt (mAnd (mP 6) (mEq (mP 3) (mK (.str t_gone))))))))
  (sSeq (sSet 7 (mAdd (mP 7) (mMul (mLst (ret (List.map B.sh [(.str t_nobody)]))) (mInt (mAnd (mNin (mK (.bl true)) (mP 5)) (mEq (mP 3) (mK (.str t_refused))))))))
  (sRet (mAdd (mP 7) (mMul (mLst (ret (List.map B.sh [(.str t_wrong)]))) (mInt (mAnd (mNot (mP 6)) (mEq (mP 3) (mK (.str t_handed))))))))))))))
def fb0__law_graph : S :=
  (sIxSet 6 (mV 10) (mMin (mV 9) (mGetN 6 (mV 10) (mV 9))))
def fb1__law_graph : S :=
  (sSeq (sUnp [11, 12] (mCall f__law_on (mCons (mP 0) (mCons (mV 8) (mCons (mV 7) mNil)))))
  (sSeq (sFor (.one 10) (items (mCall f__law_harms (mCons (mP 0) (mCons (mV 8) (mCons (mV 7) (mCons (mV 12) mNil)))))) fb0__law_graph)
  (sIf (tV (mNin (mP 11) (mP 3))) (sSeq (sIxSet 3 (mV 11) (mV 9))
  (sDrop (mApp 4 (mV 11)))) sPass)))
def wb0__law_graph : S :=
  (sSeq (sPar [8, 9] (mCons (mIx (mP 4) (mP 5)) (mCons (mAdd (mIx (mP 3) (mIx (mP 4) (mP 5))) (mK (.int 1))) mNil)))
  (sSeq (sFor (.one 7) (items (mV 1)) fb1__law_graph)
  (sSet 5 (mAdd (mP 5) (mK (.int 1))))))
def f__law_graph : Fn := mkFn 2 13
  (sSeq (sSet 2 (mCall f__law_new mNil))
  (sSeq (sPar [3, 4, 5, 6] (mCons (mDic1 (mV 2) (mK (.int 0))) (mCons (mLst (mCons (mV 2) mNil)) (mCons (mK (.int 0)) (mCons mDic0 mNil)))))
  (sSeq (sWhile (tV (mLt (mP 5) (mLen (mP 4)))) wb0__law_graph)
  (sRet (mTp (mCons (mMv 3) (mCons (mMv 6) mNil)))))))
def fb0__law_leads : S :=
  (sSeq (sUnp [6, 7] (mCall f__law_on (mCons (mP 0) (mCons (mV 3) (mCons (mV 5) mNil)))))
  (sPar [4, 3] (mCons (mCall f__law_harms (mCons (mP 0) (mCons (mV 3) (mCons (mV 5) (mCons (mV 7) mNil))))) (mCons (mV 6) mNil))))
def f__law_leads : Fn := mkFn 3 8
  (sSeq (sPar [3, 4] (mCons (mCall f__law_new mNil) (mCons (mLst (ret (List.map B.sh []))) mNil)))
  (sSeq (sFor (.one 5) (items (mV 1)) fb0__law_leads)
  (sRet (mIn (mP 2) (mP 4)))))
def cc0_events_of : M Bool :=
  (tV (mIn (mIx (mP 2) (mK (.int 0))) (mK (.tup [(.str t_come), (.str t_morning)]))))
def ce0_events_of : M B :=
  (mV 2)
def cc1_events_of : M Bool :=
  (tAnd (tV (mIn (mIx (mP 2) (mK (.int 0))) (mK (.tup [(.str t_paper), (.str t_say)])))) (tV (mEq (mIx (mP 2) (mK (.int 1))) (mP 0))))
def ce1_events_of : M B :=
  (mV 2)
def f_events_of : Fn := mkFn 1 3
  (sSeq (sSet 1 (mComp (.one 2) (items (mK c_EVENTS)) cc0_events_of ce0_events_of))
  (sRet (mAdd (mP 1) (mComp (.one 2) (items (mK c_EVENTS)) cc1_events_of ce1_events_of))))
def cc0_alone : M Bool :=
  (tV (mNotN (mIx (mCall f_search (mCons (mP 0) (mCons (mCall f_events_of (mCons (mV 2) mNil)) (mCons (mP 1) mNil)))) (mK (.int 1)))))
def ce0_alone : M B :=
  (mV 2)
def f_alone : Fn := mkFn 2 3
  (sSeq (sDrop (mCall f_need_rule (mCons (mP 0) mNil)))
  (sSeq (sDrop (mCall f_need_harm (mCons (mP 1) mNil)))
  (sRet (mComp (.one 2) (items (mK (.tup [(.int 0), (.int 1)]))) cc0_alone ce0_alone))))
def fb0__law_own : S :=
  (sIf (tOr (tV (mIn (mIx (mP 2) (mK (.int 0))) (mK (.tup [(.str t_come), (.str t_morning)])))) (tAnd (tV (mIn (mIx (mP 2) (mK (.int 0))) (mK (.tup [(.str t_paper), (.str t_say)])))) (tV (mEq (mIx (mP 2) (mK (.int 1))) (mP 0))))) (sDrop (mApp 1 (mV 2))) sPass)
def f__law_own : Fn := mkFn 1 3
  (sSeq (sSet 1 (mLst (ret (List.map B.sh []))))
  (sSeq (sFor (.one 2) (items (mCall f__law_events mNil)) fb0__law_own)
  (sRet (mMv 1))))
def f_need_parent : Fn := mkFn 1 1
  (sIf (tNot (tV (mCall f_is_number (mCons (mP 0) (mCons (mK (.int 1)) mNil))))) (sRaise 4) sPass)
def fb0_way_in : S :=
  (sSeq (sUnp [10, 11] (mCall f_step (mCons (mP 0) (mCons (mV 8) (mCons (mV 9) mNil)))))
  (sSeq (sIf (tAnd (tV (mEq (mP 11) (mK (.str t_handed)))) (tV (mIn (mP 9) (mTup (mCons (mTup (mCons (mK (.str t_come)) (mCons (mK c_OTHER) mNil))) (mCons (mTup (mCons (mK (.str t_paper)) (mCons (mV 2) mNil))) mNil)))))) (sRet (mAdd (mCall f_way_to (mCons (mV 5) (mCons (mV 8) mNil))) (mTup (mCons (mV 9) mNil)))) sPass)
  (sIf (tV (mNin (mP 10) (mP 5))) (sSeq (sIxSet 5 (mV 10) (mTup (mCons (mV 8) (mCons (mV 9) mNil))))
  (sDrop (mApp 7 (mV 10)))) sPass)))
def fb1_way_in : S :=
  (sFor (.one 9) (items (mV 4)) fb0_way_in)
def wb0_way_in : S :=
  (sSeq (sSet 7 (mLst (ret (List.map B.sh []))))
  (sSeq (sFor (.one 8) (items (mV 6)) fb1_way_in)
  (sSet 6 (mV 7))))
def f_way_in : Fn := mkFn 3 12
  (sSeq (sDrop (mCall f_need_rule (mCons (mP 0) mNil)))
  (sSeq (sDrop (mCall f_need_row (mCons (mP 1) mNil)))
  (sSeq (sDrop (mCall f_need_parent (mCons (mP 2) mNil)))
  (sSeq (sPar [3, 4] (mCons (mIx (mCall f_led (mCons (mP 0) (mCons (mP 1) mNil))) (mK (.int 0))) (mCons (mCall f_events_of (mCons (mP 2) mNil)) mNil)))
  (sSeq (sPar [5, 6] (mCons (mDic1 (mV 3) (mK .non)) (mCons (mLst (mCons (mV 3) mNil)) mNil)))
  (sSeq (sWhile (tV (mNe (mP 6) (mLst (ret (List.map B.sh []))))) wb0_way_in)
  (sRet (mK .non))))))))
def cc0_single_changes : M Bool :=
  (tV (mIsN (mIx (mCall f_search (mCons (mV 2) (mCons (mK c_EVENTS) (mCons (mP 1) mNil)))) (mK (.int 1)))))
def ce0_single_changes : M B :=
  (mV 2)
def f_single_changes : Fn := mkFn 2 3
  (sSeq (sDrop (mCall f_need_rule (mCons (mP 0) mNil)))
  (sSeq (sDrop (mCall f_need_harm (mCons (mP 1) mNil)))
  (sSeq (sIf (tV (mIsN (mIx (mCall f_search (mCons (mP 0) (mCons (mK c_EVENTS) (mCons (mP 1) mNil)))) (mK (.int 1))))) (sRet (mLst (mCons (mV 0) mNil))) sPass)
  (sRet (mComp (.one 2) (items (mCall f_rules_near (mCons (mP 0) mNil))) cc0_single_changes ce0_single_changes)))))
def fb0_parted : S :=
  (sSeq (sPar [10, 11] (mCons (mCall f_step (mCons (mP 0) (mCons (mIx (mP 6) (mK (.int 0))) (mCons (mV 8) mNil)))) (mCons (mCall f_step (mCons (mP 1) (mCons (mIx (mP 6) (mK (.int 1))) (mCons (mV 8) mNil)))) mNil)))
  (sSeq (sIf (tV (mNe (mIx (mP 10) (mK (.int 1))) (mIx (mP 11) (mK (.int 1))))) (sRet (mAdd (mP 7) (mTup (mCons (mV 8) mNil)))) sPass)
  (sSeq (sSet 9 (mTup (mCons (mIx (mP 10) (mK (.int 0))) (mCons (mIx (mP 11) (mK (.int 0))) mNil))))
  (sIf (tV (mNin (mP 9) (mP 3))) (sSeq (sIxSet 3 (mV 9) (mK (.bl true)))
  (sDrop (mApp 5 (mTup (mCons (mV 9) (mCons (mAdd (mP 7) (mTup (mCons (mV 8) mNil))) mNil)))))) sPass))))
def fb1_parted : S :=
  (sFor (.one 8) (items (mK c_EVENTS)) fb0_parted)
def wb0_parted : S :=
  (sSeq (sSet 5 (mLst (ret (List.map B.sh []))))
  (sSeq (sFor (.tup [6, 7]) (items (mV 4)) fb1_parted)
  (sSet 4 (mV 5))))
def f_parted : Fn := mkFn 2 12
  (sSeq (sSet 2 (mTup (mCons (mCall f_begin mNil) (mCons (mCall f_begin mNil) mNil))))
  (sSeq (sPar [3, 4] (mCons (mDic1 (mV 2) (mK (.bl true))) (mCons (mLst (mCons (mTup (mCons (mV 2) (mCons (mK (.tup [])) mNil))) mNil)) mNil)))
  (sSeq (sWhile (tV (mNe (mP 4) (mLst (ret (List.map B.sh []))))) wb0_parted)
  (sRet (mK .non)))))
def f_alike : Fn := mkFn 2 2
  (sSeq (sDrop (mCall f_need_rule (mCons (mP 0) mNil)))
  (sSeq (sDrop (mCall f_need_rule (mCons (mP 1) mNil)))
  (sRet (mIsN (mCall f_parted (mCons (mP 0) (mCons (mP 1) mNil)))))))
def f_parting : Fn := mkFn 2 2
  (sSeq (sDrop (mCall f_need_rule (mCons (mP 0) mNil)))
  (sSeq (sDrop (mCall f_need_rule (mCons (mP 1) mNil)))
  (sRet (mCall f_parted (mCons (mP 0) (mCons (mP 1) mNil))))))
def cc0_like_rules : M Bool :=
  (tV (mIsN (mCall f_parted (mCons (mP 0) (mCons (mV 1) mNil)))))
def ce0_like_rules : M B :=
  (mV 1)
def f_like_rules : Fn := mkFn 1 2
  (sSeq (sDrop (mCall f_need_rule (mCons (mP 0) mNil)))
  (sRet (mComp (.one 1) (items (mCall f_rules_near (mCons (mP 0) mNil))) cc0_like_rules ce0_like_rules)))
def f_line_of : Fn := mkFn 2 2
  (sSeq (sIf (tV (mIsA .bool (mP 1))) (sRet (mAdd (mP 0) (mIf (tV (mP 1)) (mK (.str t__58_32yes)) (mK (.str t__58_32no))))) sPass)
  (sRet (mAdd (mAdd (mP 0) (mK (.str t__58_32))) (mP 1))))
def ce0_rule_lines : M B :=
  (mCall f_line_of (mCons (mV 1) (mCons (mV 2) mNil)))
def f_rule_lines : Fn := mkFn 1 3
  (sRet (mComp (.tup [1, 2]) (itZip (mK c_PART_NAMES) (mV 0)) yes ce0_rule_lines))
def cc0_value_in : M Bool :=
  (tV (mEq (mCall f_line_of (mCons (mIx (mK c_PART_NAMES) (mP 0)) (mCons (mV 2) mNil))) (mP 1)))
def ce0_value_in : M B :=
  (mV 2)
def f_value_in : Fn := mkFn 2 3
  (sSeq (sIf (tV (mGe (mP 0) (mLen (mK c_PART_NAMES)))) (sRet (mLst (ret (List.map B.sh [])))) sPass)
  (sRet (mComp (.one 2) (items (mIx (mK c_VALUES) (mP 0))) cc0_value_in ce0_value_in)))
def fb0__law_rule_lines : S :=
  (sSeq (sSet 4 (mIx (mP 0) (mP 3)))
  (sSeq (sIf (tV (mIsA .bool (mP 4))) (sSet 4 (mIf (tV (mP 4)) (mK (.str t_yes)) (mK (.str t_no)))) sPass)
  (sDrop (mApp 2 (mAdd (mAdd (mIx (mP 1) (mP 3)) (mK (.str t__58_32))) (mP 4))))))
def f__law_rule_lines : Fn := mkFn 1 5
  (sSeq (sPar [1, 2] (mCons (mSplit (mK (.str t_words_32bars_32lag_32court_32once_32void_32paper)) (mK (.str t__32))) (mCons (mLst (ret (List.map B.sh []))) mNil)))
  (sSeq (sFor (.one 3) (itRange (mK (.int 7))) fb0__law_rule_lines)
  (sRet (mMv 2))))
def fb0__law_due_rule : S :=
  (sSeq (sSet 6 (mAdd (mAdd (mMul (mK (.tup [(.str t_x)])) (mP 3)) (mTup (mCons (mV 5) mNil))) (mMul (mK (.tup [(.str t_x)])) (mSub (mK (.int 6)) (mP 3)))))
  (sSet 4 (mAdd (mP 4) (mMul (mLst (mCons (mV 5) mNil)) (mInt (mEq (mIx (mCall f__law_rule_lines (mCons (mV 6) mNil)) (mP 3)) (mIx (mP 1) (mP 3))))))))
def fb1__law_due_rule : S :=
  (sSeq (sSet 4 (mLst (ret (List.map B.sh []))))
  (sSeq (sIf (tV (mLt (mP 3) (mK (.int 7)))) (sFor (.one 5) (items (mIx (mCall f__law_values mNil) (mP 3))) fb0__law_due_rule) sPass)
  (sSeq (sIf (tV (mEq (mP 4) (mLst (ret (List.map B.sh []))))) (sRet (mAdd (mP 3) (mK (.int 1)))) sPass)
  (sSet 2 (mAdd (mP 2) (mTup (mCons (mIx (mP 4) (mK (.int 0))) mNil)))))))
def f__law_due_rule : Fn := mkFn 1 7
  (sSeq (sIf (tNot (tV (mIsA .str (mP 0)))) (sRet (mK (.int 0))) sPass)
  (sSeq (sPar [1, 2] (mCons (mSplit (mP 0) (mK (.str t__10))) (mCons (mK (.tup [])) mNil)))
  (sSeq (sFor (.one 3) (itRange (mLen (mP 1))) fb1__law_due_rule)
  (sRet (mIf (tV (mEq (mLen (mP 2)) (mK (.int 7)))) (mMv 2) (mAdd (mLen (mP 1)) (mK (.int 1))))))))
def f_need_part : Fn := mkFn 1 1
  (sIf (tOr (tNot (tV (mIsA .str (mP 0)))) (tV (mNin (mP 0) (mK c_PART_NAMES)))) (sRaise 5) sPass)
def wb0__wall : S :=
  sPass
def f__wall : Fn := mkFn 1 1
  (sWhile (tV (mK (.bl true))) wb0__wall)
def fb0__law_turned : S :=
  (sSeq (sIf (tAnd (tV (mGt (mLen (mP 2)) (mK (.int 1)))) (tV (mLt (mIx (mP 2) (mK (.int 1))) (mK (.int 2))))) (sSet 2 (mAdd (mAdd (mSl (mP 2) none (some (mK (.int 1)))) (mTup (mCons (mSub (mK (.int 1)) (mIx (mP 2) (mK (.int 1)))) mNil))) (mSl (mP 2) (some (mK (.int 2))) none))) sPass)
  (sSet 1 (mAdd (mP 1) (mTup (mCons (mV 2) mNil)))))
def f__law_turned : Fn := mkFn 1 3
  (sSeq (sSet 1 (mK (.tup [])))
  (sSeq (sFor (.one 2) (items (mV 0)) fb0__law_turned)
  (sRet (mMv 1))))
def f__law_deeper : Fn := mkFn 1 1
  (sRet (mIx (mP 0) (mK (.int 100))))
def ce0__law_slow : M B :=
  (mLen (mCall f_first_row (mCons (mV 1) (mCons (mV 4) mNil))))
def f__law_slow : Fn := mkFn 1 5
  (sSeq (sSet 1 (mTup (mCons (mK (.str t_last)) (mCons (mV 0) (mCons (mK (.str t_morning)) (mCons (mK (.str t_now)) (mCons (mK (.str t_use)) (mCons (mK (.bl false)) (mCons (mK (.bl true)) mNil)))))))))
  (sSeq (sSet 2 (mK (.tup [(.tup [(.str t_say), (.int 0), (.str t_always)]), (.tup [(.str t_come), (.int 2)]), (.tup [(.str t_morning)]), (.tup [(.str t_come), (.int 2)]), (.tup [(.str t_come), (.int 1)])])))
  (sSeq (sSet 3 (mLst (mCons (mAnd (mEq (mComp (.one 4) (items (mCall f_harms (mCons (mV 1) mNil))) yes ce0__law_slow) (mLst (ret (List.map B.sh [(.int 2), (.int 3), (.int 2), (.int 4)])))) (mEq (mCall f_alone (mCons (mV 1) (mCons (mK (.str t_wrong)) mNil))) (mLst (ret (List.map B.sh [(.int 0), (.int 1)]))))) mNil)))
  (sSeq (sDrop (mApp 3 (mEq (mCall f_told (mCons (mV 1) (mCons (mV 2) mNil))) (mLst (ret (List.map B.sh [(.str t_noted), (.str t_refused), (.str t_noted), (.str t_handed), (.str t_gone)]))))))
  (sSeq (sDrop (mApp 3 (mEq (mSl (mCall f_stand_behind (mCons (mV 1) (mCons (mV 2) mNil))) none (some (mK (.int 3)))) (mK (.tup [(.tup [(.str t_always), (.str t_no)]), (.tup [(.bl false), (.bl false)]), (.tup [(.str t_always), (.str t_no)])])))))
  (sSeq (sDrop (mApp 3 (mEq (mCall f_who_may (mCons (mV 1) (mCons (mSl (mP 2) none (some (mK (.int 1)))) mNil))) (mK (.tup [(.tup [(.bl true), (.bl true), (.bl true)]), (.tup [(.bl true), (.bl true), (.bl false)])])))))
  (sSeq (sDrop (mApp 3 (mEq (mCall f_way_in (mCons (mV 1) (mCons (mK (.tup [(.tup [(.str t_say), (.int 1), (.str t_bar)])])) (mCons (mK (.int 0)) mNil)))) (mK (.tup [(.tup [(.str t_paper), (.int 0)])])))))
  (sRet (mAdd (mP 3) (mLst (mCons (mEq (mCall f_single_changes (mCons (mV 1) (mCons (mK (.str t_wrong)) mNil))) (mLst (mCons (mAdd (mAdd (mSl (mP 1) none (some (mK (.int 2)))) (mK (.tup [(.str t_now)]))) (mSl (mP 1) (some (mK (.int 3))) none)) mNil))) mNil)))))))))))
def f__law_strict : Fn := mkFn 1 4
  (sSeq (sSet 1 (mTup (mCons (mK (.str t_both)) (mCons (mK (.str t_own)) (mCons (mK (.str t_now)) (mCons (mV 0) (mCons (mK (.str t_use)) (mCons (mK (.bl true)) (mCons (mK (.bl true)) mNil)))))))))
  (sSeq (sSet 2 (mK (.tup [(.tup [(.str t_say), (.int 0), (.str t_always)]), (.tup [(.str t_say), (.int 1), (.str t_always)]), (.tup [(.str t_court), (.int 0)]), (.tup [(.str t_morning)])])))
  (sSeq (sSet 2 (mAdd (mP 2) (mK (.tup [(.tup [(.str t_come), (.int 2)]), (.tup [(.str t_clear), (.int 0)]), (.tup [(.str t_morning)])]))))
  (sSeq (sSet 3 (mLst (mCons (mEq (mSl (mCall f_told (mCons (mV 1) (mCons (mAdd (mP 2) (mK (.tup [(.tup [(.str t_come), (.int 2)])]))) mNil))) (some (mK (.int 4))) none) (mLst (ret (List.map B.sh [(.str t_refused), (.str t_noted), (.str t_noted), (.str t_handed)])))) mNil)))
  (sSeq (sDrop (mApp 3 (mAnd (mIsN (mCall f_way_in (mCons (mV 1) (mCons (mK (.tup [])) (mCons (mK (.int 1)) mNil))))) (mEq (mCall f_alone (mCons (mV 1) (mCons (mK (.str t_wrong)) mNil))) (mLst (ret (List.map B.sh [])))))))
  (sSeq (sDrop (mApp 3 (mEq (mCall f_way_in (mCons (mV 1) (mCons (mK (.tup [(.tup [(.str t_say), (.int 1), (.str t_once)])])) (mCons (mK (.int 0)) mNil)))) (mK (.tup [(.tup [(.str t_paper), (.int 0)])])))))
  (sSeq (sDrop (mApp 3 (mCall f_alike (mCons (mV 1) (mCons (mAdd (mAdd (mSl (mP 1) none (some (mK (.int 1)))) (mK (.tup [(.str t_win)]))) (mSl (mP 1) (some (mK (.int 2))) none)) mNil)))))
  (sRet (mAdd (mP 3) (mLst (mCons (mEq (mIx (mCall f_harms (mCons (mV 1) mNil)) (mK (.int (-1)))) (mIf (tV (mEq (mP 0) (mK (.str t_now)))) (mK (.str t_two)) (mK (.str t_wrong)))) mNil)))))))))))
end CM
end WF

set_option linter.all false
set_option maxRecDepth 100000
namespace WF
namespace K05
open CM
def ce0_law : M B :=
  (mIx (mCall f__law_graph (mCons (mV 3) (mCons (mCall f__law_own (mCons (mV 7) mNil)) mNil))) (mK (.int 1)))
def cc0_law : M Bool :=
  (tV (mIn (mP 5) (mIx (mP 4) (mP 7))))
def ce1_law : M B :=
  (mV 7)
def fb0_law : S :=
  (sSeq (sSet 6 (mCall f_alone (mCons (mV 3) (mCons (mV 5) mNil))))
  (sIf (tOr (tV (mNe (mP 6) (mComp (.one 7) (items (mK (.tup [(.int 0), (.int 1)]))) cc0_law ce1_law))) (tNot (tV (mIsA .list (mP 6))))) (sRet (mK (.bl false))) sPass))
def fb1_law : S :=
  (sSeq (sSet 2 (mCall f__law_pot (mCons (mV 1) (mCons (mK (.int 27)) mNil))))
  (sSeq (sSet 3 (mCall f__law_rule (mCons (mP 2) mNil)))
  (sSeq (sSet 4 (mComp (.one 7) (items (mK (.tup [(.int 0), (.int 1)]))) yes ce0_law))
  (sFor (.one 5) (items (mK (.tup [(.str t_kept), (.str t_nobody), (.str t_two), (.str t_wrong)]))) fb0_law))))
def f_law : Fn := mkFn 1 8
  (sSeq (sFor (.one 1) (items (mSl (mAdd (mLst (ret (List.map B.sh [(.int 0)]))) (mP 0)) none (some (mK (.int 2))))) fb1_law)
  (sSeq (sSet 3 (mK (.tup [(.str t_both), (.str t_own), (.str t_morning), (.str t_morning), (.str t_day), (.bl true), (.bl true)])))
  (sSeq (sIf (tOr (tV (mNe (mCall f_alone (mCons (mV 3) (mCons (mK (.str t_kept)) mNil))) (mLst (ret (List.map B.sh []))))) (tOr (tV (mNe (mCall f_alone (mCons (mV 3) (mCons (mK (.str t_wrong)) mNil))) (mLst (ret (List.map B.sh []))))) (tV (mNe (mCall f_alone (mCons (mV 3) (mCons (mK (.str t_two)) mNil))) (mLst (ret (List.map B.sh [(.int 0), (.int 1)]))))))) (sRet (mK (.bl false))) sPass)
  (sRet (mEq (mCall f_alone (mCons (mAdd (mK (.tup [(.str t_last)])) (mSl (mP 3) (some (mK (.int 1))) none)) (mCons (mK (.str t_wrong)) mNil))) (mLst (ret (List.map B.sh [(.int 0), (.int 1)]))))))))
end K05
end WF

set_option Elab.async false
set_option linter.all false
/-! WFM2: the model: rules, stands, events as plain data; what happens. No mirror in sight. -/
namespace WF
namespace M2
inductive Wd | always | bar | no | once
deriving DecidableEq, Repr
inductive Ws | both | either | last
deriving DecidableEq, Repr
inductive Wh | a | b | o
deriving DecidableEq, Repr
structure Ru where
  ws : Ws
  win : Bool
  lag : Bool
  court : Bool
  use : Bool
  void : Bool
  paper : Bool
deriving DecidableEq, Repr
structure Sd where
  s0 : Wd
  s1 : Wd
  c0 : Bool
  c1 : Bool
  l0 : Wd
  l1 : Wd
  k0 : Bool
  k1 : Bool
  th : Bool
deriving DecidableEq, Repr
inductive Ev | say (p : Bool) (w : Wd) | court (p : Bool) | clear (p : Bool) | come (w : Wh) | paper (p : Bool) | morning
deriving DecidableEq, Repr
inductive Td | noted | handed | refused | gone
deriving DecidableEq, Repr
def sd0 : Sd := ⟨.no, .no, false, false, .no, .no, false, false, true⟩
def spoken (ws : Ws) (x y : Wd) (p : Bool) (w : Wd) : Wd × Wd :=
  match ws, p with
  | .last, false => (w, .no)
  | .last, true => (.no, w)
  | _, false => (w, y)
  | _, true => (x, w)
def Wd.good : Wd → Bool | .always => true | .once => true | _ => false
def Wd.void (v c : Bool) (w : Wd) : Wd := if v && c then .no else w
def worded (r : Ru) (x y : Wd) (c d : Bool) (g : Option Bool) : Wd × Wd :=
  let q := match g with
    | some p => if r.paper then spoken r.ws x y p .once else (x, y)
    | none => (x, y)
  (q.1.void r.void c, q.2.void r.void d)
def mayW (ws : Ws) (win : Bool) (x y : Wd) : Bool :=
  if win && (x == .bar || y == .bar) then false else if ws == .both then x.good && y.good else x.good || y.good
def may (r : Ru) (x y : Wd) (c d : Bool) (w : Wh) (g : Option Bool) : Bool :=
  match w with
  | .a => !c
  | .b => !d
  | .o => mayW r.ws r.win (worded r x y c d g).1 (worded r x y c d g).2
def Wd.up : Wd → Wd | .once => .no | w => w
def come (r : Ru) (s : Sd) (w : Wh) (g : Option Bool) : Sd × Td :=
  if s.th then
    if may r s.l0 s.l1 s.k0 s.k1 w g then
      if w == .o && r.use then (⟨s.s0.up, s.s1.up, s.c0, s.c1, s.l0.up, s.l1.up, s.k0, s.k1, false⟩, .handed) else ({ s with th := false }, .handed)
    else (s, .refused)
  else (s, .gone)
def Wd.day (w o : Wd) : Wd := if w == .once && o == .once then .no else w
def morn (r : Ru) (s : Sd) : Sd :=
  let x := if r.use then s.s0 else s.s0.day s.l0
  let y := if r.use then s.s1 else s.s1.day s.l1
  ⟨x, y, s.c0, s.c1, x, y, s.c0, s.c1, true⟩
def put (c d : Bool) (p v : Bool) : Bool × Bool := if p then (c, v) else (v, d)
def crt (r : Ru) (s : Sd) (p v : Bool) : Sd :=
  let q := put s.c0 s.c1 p v
  if r.court then { s with c0 := q.1, c1 := q.2, k0 := q.1, k1 := q.2 } else { s with c0 := q.1, c1 := q.2 }
def step (r : Ru) (s : Sd) : Ev → Sd × Td
  | .say p w =>
    let q := spoken r.ws s.s0 s.s1 p w
    (if r.lag then { s with s0 := q.1, s1 := q.2, l0 := q.1, l1 := q.2 } else { s with s0 := q.1, s1 := q.2 }, .noted)
  | .court p => (crt r s p true, .noted)
  | .clear p => (crt r s p false, .noted)
  | .come w => come r s w none
  | .paper p => come r s .o (some p)
  | .morning => (morn r s, .noted)
/-- who may by what was said; by what is known -/
def truly (r : Ru) (s : Sd) (w : Wh) (g : Option Bool) : Bool := may r s.s0 s.s1 s.c0 s.c1 w g
def lets (r : Ru) (s : Sd) (w : Wh) : Bool := may r s.l0 s.l1 s.k0 s.k1 w none
def led (r : Ru) : Sd → List Ev → Sd × List Td
  | s, [] => (s, [])
  | s, e :: es => ((led r (step r s e).1 es).1, (step r s e).2 :: (led r (step r s e).1 es).2)
end M2
end WF

set_option Elab.async false
set_option linter.all false
set_option maxRecDepth 100000
set_option maxHeartbeats 1000000
/-! C1: pots, draws. -/
namespace WF
namespace CM
local macro_rules | `(tactic| simp_arith [$ls,*]) => `(tactic| simp only [KO_some, KO_none, KO_ite, KE_some, KE_none, KE_ite, K_ret, K_stuck, K_lift, kId_eq, eId_eq, un1_some, op2_some, dat_sh, dat_ow, dat_pl, dat_tp, sbsD_nil, sbsD_cons, toD_sh, toD_ow, toD_io, toD_lst, toD_dic, at_zero, at_succ, kV_sh, kV_lst, kV_dic, K_mV, kP_sh, kP_ow, kP_io, K_mP, kM_sh, kM_ow, K_mMv, K_mK, kOp2_eq, kOp1_eq, K_mOp, kUn_eq, K_mUn, K_mNeg, isNB_eq, notNB_eq, K_mIsN, K_mNotN, lele_int, kLL3_eq, kLL2_eq, kLL1_eq, K_mLeLe, kTV_eq, K_tV, kTA_eq, K_tAnd, kTO_eq, K_tOr, kTN_eq, K_tNot, K_yes, kMA2_eq, kMA1_eq, K_mAnd, kMO2_eq, kMO1_eq, K_mOr, notB_bl, K_mNot, kIf_eq, K_mIf, boolV_bl, tru_bl, tru_non, tru_int, tru_str, tru_tup, tru_lst, K_mNil, kC2_eq, kC1_eq, K_mCons, keptO_nil, keptO_sh, keptO_ow, keptO_tp, tupO_eq, lstO_eq, kTup_eq, kLst_eq, K_mTup, K_mLst, fzO_eq, kFz_eq, K_mFz, lzip2_eq, kLZ2_eq, kLZ1_eq, K_mLZip, K_mDic0, dic1_eq, kD2_eq, kD1_eq, K_mDic1, elB_sh, elB_ow, ixO_sh, ixO_ow, ixO_pl, ixO_tp, kIx2_eq, kIx1_eq, K_mIx, slO_eq, kSl3_eq, kSl2_eq, kSl1_eq, K_mSl, intD_int, K_mEndN, kEnd_eq, K_mEndS, K_mRev, get3_eq, kG3_eq, kG2_eq, kG1_eq, K_mGet, txtB_str, kSp3_eq, kSp2_eq, kSp1_eq, K_mSplit, lent_nil, lent_sh1, lent_ow, lent_tp, lent_pl, nodup0, nodup1, nodup2, handL_nil, handL_cons, handB_sh, handB_lst, handB_dic, handB_tp, handB_pl, lendS_sh, lendS_ow, lendS_io, argsO_eq, backL_nil, backL_cons, backB_sh, backB_ow, backB_tp, backB_plN, backB_plS, putE_zero, putE_succ, put_ow, put_io, sput_sh, KF_ok, KF_exc, KF_none, KF_ite, KF_r, kArg_eq, kCall_eq, K_mCall, ioS_io, ioS_sh, ioS_ow, ioS_no, outs0, outs1, outs2, outs3, outs4, outs5, kFn_rt, kFn_nx, eFn_eq, mkFn_eq, rep0, repS, itO_eq, kIt_eq, K_items, dItems_tup, dItems_lst, rngD_int, kRg_eq, K_itRange, zipO_eq, kZ2_eq, kZ1_eq, K_itZip, enO_eq, kEn_eq, K_itEnum, zip2_tup, zip2_lst, zipD_cons, zipD_nil, zipD_nil2, enumD_tup, enumD_lst, putS_succ, putS_no, putS_sh, putS_ow, putTg_one, putTg_tup, putSs_nil, putSs_cons, slots_one, slots_tup, clr_nil, clr_cons, back_nil, back_cons, free_nil, free_cons, fr1_succ, fr1_no, fr1_sh, kCoE_eq, kCo_eq, K_mComp, K_comp0, kCo3_eq, kCo2_eq, kCo1_eq, kCo0_eq, K_comp1, K_sPass, K_sBreak, K_sCont, kSeq_nx, kSeq_rt, kSeq_bk, kSeq_ct, K_sSeq, kDrop_eq, K_sDrop, K_sIf, kNx_eq, ownO_sh, ownO_ow, ownO_tp, setO_eq, kSet_eq, K_sSet, ownOs_nil, ownOs_cons, putA_nil, putA_cons, parO_eq, kPar_eq, K_sPar, tupB_tp, tupB_sh, unpO_eq, kUnp_eq, K_sUnp, putOE_zero, putOE_succ, obj_ow, obj_io, hasO_zero, hasO_succ, xsO_eq, kXS3_eq, kXS2_eq, kXS1_eq, K_sIxSet, apO_eq, kNon_eq, kAp2_eq, kAp1_eq, K_mApp, kKy_eq, K_itKeys, keysOf_dic, strD_str, getO_eq, getS_dic, kGt3_eq, kGt2_eq, kGt1_eq, kGt0_eq, K_mGetN, addAt_lst, setAt_lst, setAt_dicS, setAt_dicT, kFor_eq, K_sFor, kFor2_nx, kFor2_ct, kFor2_bk, kFor2_rt, kFor1_eq, K_for0, K_for1, kWh2_nx, kWh2_ct, kWh2_bk, kWh2_rt, kWh1_eq, kRet_sh, kRet_ow, kRet_tp, K_sRet, tpO_eq, kTp_eq, K_mTp, sbBs_nil, sbBs_cons, sbB_sh, sbB_ow, K_sRaise, eTry_eq, K_sTry, K_tryGo0, K_tryGo1, Add_int, Add_tup, Add_lst, Add_str, Sub_int, Mul_int, Mul_lst, Fdiv_int, Mod_int, Lt_int, Le_int, Gt_int, Ge_int, Eq_eq, Ne_eq, In_tup, In_lst, Nin_tup, Nin_lst, mem_nil, mem_cons, Ix_tup, Ix_lst, atI_0, atI_1, atI_2, atI_3, atI_4, atI_5, atI_6, Len_tup, Len_lst, Len_dic, Ix_dic, In_dic, Nin_dic, Min_int, Len_str, Int_int, Int_bl, Tuple_lst, Tuple_tup, List_lst, List_tup, List_dic, bools_nil, bools_cons, All_lst, Any_lst, dep_non, dep_bl, dep_int, dep_str, dep_tupS, dep_lstS, deps_nil, deps_cons, isNon_non, isNon_int, isNon_tup, isNon_lst, isNon_str, isNon_bl, eqv_ss, eqv_ii, eqv_bb, eqv_nn, eqv_tt, eqv_ll, eqvs_nn, eqvs_nc, eqvs_cn, eqvs_cc, upto_1, upto_2, upto_3, upto_7, K_mAdd, K_mSub, K_mMul, K_mFdiv, K_mMod, K_mPow, K_mEq, K_mNe, K_mLt, K_mLe, K_mGt, K_mGe, K_mIn, K_mNin, K_mMin, K_mJoin, K_mIndex, K_mLen, K_mInt, K_mStr, K_mTuple, K_mList, K_mAll, K_mAny, K_mSorted, K_mDict, K_mIsA, IsA_tup, IsA_lst, IsA_str, IsA_int, IsA_bl, Mul_tup, txt_nc, txt_cn, IsA_non, isA, LIM, List.drop_zero, List.take_zero, List.drop_succ_cons, List.take_succ_cons, List.drop_nil, List.take_nil, Nat.sub_zero, reduceIte, ite_true, ite_false, Nat.reduceAdd, Nat.reduceMul, Nat.reduceSub, Nat.reduceLT, Nat.reduceLeDiff, Nat.reduceEqDiff, Nat.reduceBEq, Nat.reduceBNe, Nat.reducePow, Int.reduceAdd, Int.reduceMul, Int.reduceNeg, Int.reduceSub, Int.reduceLE, Int.reduceLT, Int.reduceEq, Int.reduceBEq, Int.reduceBNe, Int.reducePow, Int.reduceToNat, Int.reduceNe, Int.reduceMod, Int.reduceDiv, Int.cast_ofNat_Int, Int.ofNat_zero, Int.ofNat_one, List.cons_beq_cons, and_true, true_and, and_self, and_false, false_and, not_false_eq_true, not_true_eq_false, or_true, true_or, or_false, false_or, List.map_cons, List.map_nil, List.length_cons, List.length_nil, List.cons_append, List.nil_append, List.append_nil, List.set_cons_zero, List.set_cons_succ, Option.bind_some, Option.bind_none, Option.map_some, Option.map_none, List.head?_cons, if_true, Bool.and_true, Bool.true_and, Bool.and_false, Bool.false_and, Bool.or_true, Bool.true_or, Bool.or_false, Bool.false_or, Bool.not_true, Bool.not_false, Bool.not_not, Bool.and_self, Bool.or_self, decide_true, decide_false, decide_eq_true_eq, beq_self_eq_true, Bool.false_eq_true, List.all_cons, List.all_nil, List.any_cons, List.any_nil, id_eq, Nat.max_self, Nat.sub_self, Nat.zero_le, Bool.decide_eq_true, List.isEmpty_cons, List.isEmpty_nil, ite_self, Nat.max_zero, Nat.zero_max, $ls,*])
theorem lot_spec {g s n : Int} (p : Pot g s) (h1 : 1 ≤ n) (h2 : n < 1000) : ∃ g' s' k, Pot g' s' ∧ 0 ≤ k ∧ k < n ∧ f__law_lot [pot g s, .sh (.int n)] = some (.ok (.sh (.int k)), [some (pot g' s'), none]) := by
  obtain ⟨p1, p2, p3⟩ := p
  have n1 : (0 : Int) < n := by omega
  have n2 : n < 1073741824 := by omega
  by_cases hg : 0 < g
  · refine ⟨g / n, s, g % n, ⟨Int.ediv_nonneg p1 (by omega), p2, p3⟩, Int.emod_nonneg _ (by omega), Int.emod_lt_of_pos _ n1, ?_⟩
    rw [f__law_lot, mkFn_eq]
    simp_arith [hg, n1, n2, Int.toNat_zero, Int.toNat_one]
  · have e1 : 0 ≤ (s * 1103515 + 12343) % 2147483549 := Int.emod_nonneg _ (by omega)
    have e2 : (s * 1103515 + 12343) % 2147483549 < 2147483549 := Int.emod_lt_of_pos _ (by omega)
    have c1 : smallI 1103515 = true := by decide
    have c2 : smallI ((s * 1103515 + 12343) % 2147483549) = true := by unfold smallI; rw [Bool.and_eq_true, decide_eq_true_eq, decide_eq_true_eq]; omega
    refine ⟨g, (s * 1103515 + 12343) % 2147483549, ((((s * 1103515 + 12343) % 2147483549) * (((s * 1103515 + 12343) % 2147483549) + 87)) % 2147483497 / 743) % n, ⟨p1, e1, e2⟩, Int.emod_nonneg _ (by omega), Int.emod_lt_of_pos _ n1, ?_⟩
    rw [f__law_lot, mkFn_eq]
    simp_arith [hg, n1, n2, c1, c2, Int.toNat_zero, Int.toNat_one]
theorem pick_spec {g s : Int} {xs : List D} (p : Pot g s) (h0 : xs ≠ []) (hl : xs.length < 1000) : ∃ g' s' x, Pot g' s' ∧ x ∈ xs ∧ f__law_pick [pot g s, .sh (.lst xs)] = some (.ok (.sh x), [some (pot g' s'), none]) := by
  have hn : 1 ≤ (xs.length : Int) := by
    cases xs with
    | nil => exact absurd rfl h0
    | cons a r => simp; omega
  obtain ⟨g', s', k, p', k0, k1, e⟩ := lot_spec p hn (by omega)
  obtain ⟨j, rfl⟩ := Int.eq_ofNat_of_zero_le k0
  have hj : j < xs.length := by omega
  refine ⟨g', s', xs[j], p', List.getElem_mem hj, ?_⟩
  rw [f__law_pick, mkFn_eq]
  simp_arith [e, atI_nat hj]
theorem pot_spec (cell salt : Int) (h0 : 0 ≤ salt) (h1 : salt < 100000) : ∃ g s, Pot g s ∧ f__law_pot [.sh (.int cell), .sh (.int salt)] = some (.ok (.ow (.lst [.int g, .int s])), [none, none]) := by
  have e1 : 0 ≤ (cell * 43 + 6007 * salt) % 1610612711 := Int.emod_nonneg _ (by omega)
  have e2 : (cell * 43 + 6007 * salt) % 1610612711 < 1610612711 := Int.emod_lt_of_pos _ (by omega)
  have s1 : smallI 43 = true := by decide
  have s2 : smallI 6007 = true := by decide
  have pw : iPow (.int 10) (.int 18) = some (.sh (.int 1000000000000000000)) := by rfl
  by_cases h : 1000000000000000000 ≤ cell
  · refine ⟨cell / 5 + salt, (cell * 43 + 6007 * salt) % 1610612711 + 6, ⟨by omega, by omega, by omega⟩, ?_⟩
    rw [f__law_pot, mkFn_eq]
    simp_arith [pw, h, s1, s2]
  · refine ⟨0, (cell * 43 + 6007 * salt) % 1610612711 + 6, ⟨by omega, by omega, by omega⟩, ?_⟩
    rw [f__law_pot, mkFn_eq]
    simp_arith [pw, h, s1, s2]
theorem words_spec : f__law_words [] = some (.ok (.ow (.lst [.str t_always, .str t_bar, .str t_no, .str t_once])), []) := rfl
end CM
end WF

set_option Elab.async false
set_option linter.all false
set_option maxRecDepth 100000
set_option maxHeartbeats 1000000
/-! C2: how the model's rules, stands, events stand as data; draws of them. -/
namespace WF
namespace CM
local macro_rules | `(tactic| simp_arith [$ls,*]) => `(tactic| simp only [KO_some, KO_none, KO_ite, KE_some, KE_none, KE_ite, K_ret, K_stuck, K_lift, kId_eq, eId_eq, un1_some, op2_some, dat_sh, dat_ow, dat_pl, dat_tp, sbsD_nil, sbsD_cons, toD_sh, toD_ow, toD_io, toD_lst, toD_dic, at_zero, at_succ, kV_sh, kV_lst, kV_dic, K_mV, kP_sh, kP_ow, kP_io, K_mP, kM_sh, kM_ow, K_mMv, K_mK, kOp2_eq, kOp1_eq, K_mOp, kUn_eq, K_mUn, K_mNeg, isNB_eq, notNB_eq, K_mIsN, K_mNotN, lele_int, kLL3_eq, kLL2_eq, kLL1_eq, K_mLeLe, kTV_eq, K_tV, kTA_eq, K_tAnd, kTO_eq, K_tOr, kTN_eq, K_tNot, K_yes, kMA2_eq, kMA1_eq, K_mAnd, kMO2_eq, kMO1_eq, K_mOr, notB_bl, K_mNot, kIf_eq, K_mIf, boolV_bl, tru_bl, tru_non, tru_int, tru_str, tru_tup, tru_lst, K_mNil, kC2_eq, kC1_eq, K_mCons, keptO_nil, keptO_sh, keptO_ow, keptO_tp, tupO_eq, lstO_eq, kTup_eq, kLst_eq, K_mTup, K_mLst, fzO_eq, kFz_eq, K_mFz, lzip2_eq, kLZ2_eq, kLZ1_eq, K_mLZip, K_mDic0, dic1_eq, kD2_eq, kD1_eq, K_mDic1, elB_sh, elB_ow, ixO_sh, ixO_ow, ixO_pl, ixO_tp, kIx2_eq, kIx1_eq, K_mIx, slO_eq, kSl3_eq, kSl2_eq, kSl1_eq, K_mSl, intD_int, K_mEndN, kEnd_eq, K_mEndS, K_mRev, get3_eq, kG3_eq, kG2_eq, kG1_eq, K_mGet, txtB_str, kSp3_eq, kSp2_eq, kSp1_eq, K_mSplit, lent_nil, lent_sh1, lent_ow, lent_tp, lent_pl, nodup0, nodup1, nodup2, handL_nil, handL_cons, handB_sh, handB_lst, handB_dic, handB_tp, handB_pl, lendS_sh, lendS_ow, lendS_io, argsO_eq, backL_nil, backL_cons, backB_sh, backB_ow, backB_tp, backB_plN, backB_plS, putE_zero, putE_succ, put_ow, put_io, sput_sh, KF_ok, KF_exc, KF_none, KF_ite, KF_r, kArg_eq, kCall_eq, K_mCall, ioS_io, ioS_sh, ioS_ow, ioS_no, outs0, outs1, outs2, outs3, outs4, outs5, kFn_rt, kFn_nx, eFn_eq, mkFn_eq, rep0, repS, itO_eq, kIt_eq, K_items, dItems_tup, dItems_lst, rngD_int, kRg_eq, K_itRange, zipO_eq, kZ2_eq, kZ1_eq, K_itZip, enO_eq, kEn_eq, K_itEnum, zip2_tup, zip2_lst, zipD_cons, zipD_nil, zipD_nil2, enumD_tup, enumD_lst, putS_succ, putS_no, putS_sh, putS_ow, putTg_one, putTg_tup, putSs_nil, putSs_cons, slots_one, slots_tup, clr_nil, clr_cons, back_nil, back_cons, free_nil, free_cons, fr1_succ, fr1_no, fr1_sh, kCoE_eq, kCo_eq, K_mComp, K_comp0, kCo3_eq, kCo2_eq, kCo1_eq, kCo0_eq, K_comp1, K_sPass, K_sBreak, K_sCont, kSeq_nx, kSeq_rt, kSeq_bk, kSeq_ct, K_sSeq, kDrop_eq, K_sDrop, K_sIf, kNx_eq, ownO_sh, ownO_ow, ownO_tp, setO_eq, kSet_eq, K_sSet, ownOs_nil, ownOs_cons, putA_nil, putA_cons, parO_eq, kPar_eq, K_sPar, tupB_tp, tupB_sh, unpO_eq, kUnp_eq, K_sUnp, putOE_zero, putOE_succ, obj_ow, obj_io, hasO_zero, hasO_succ, xsO_eq, kXS3_eq, kXS2_eq, kXS1_eq, K_sIxSet, apO_eq, kNon_eq, kAp2_eq, kAp1_eq, K_mApp, kKy_eq, K_itKeys, keysOf_dic, strD_str, getO_eq, getS_dic, kGt3_eq, kGt2_eq, kGt1_eq, kGt0_eq, K_mGetN, addAt_lst, setAt_lst, setAt_dicS, setAt_dicT, kFor_eq, K_sFor, kFor2_nx, kFor2_ct, kFor2_bk, kFor2_rt, kFor1_eq, K_for0, K_for1, kWh2_nx, kWh2_ct, kWh2_bk, kWh2_rt, kWh1_eq, kRet_sh, kRet_ow, kRet_tp, K_sRet, tpO_eq, kTp_eq, K_mTp, sbBs_nil, sbBs_cons, sbB_sh, sbB_ow, K_sRaise, eTry_eq, K_sTry, K_tryGo0, K_tryGo1, Add_int, Add_tup, Add_lst, Add_str, Sub_int, Mul_int, Mul_lst, Fdiv_int, Mod_int, Lt_int, Le_int, Gt_int, Ge_int, Eq_eq, Ne_eq, In_tup, In_lst, Nin_tup, Nin_lst, mem_nil, mem_cons, Ix_tup, Ix_lst, atI_0, atI_1, atI_2, atI_3, atI_4, atI_5, atI_6, Len_tup, Len_lst, Len_dic, Ix_dic, In_dic, Nin_dic, Min_int, Len_str, Int_int, Int_bl, Tuple_lst, Tuple_tup, List_lst, List_tup, List_dic, bools_nil, bools_cons, All_lst, Any_lst, dep_non, dep_bl, dep_int, dep_str, dep_tupS, dep_lstS, deps_nil, deps_cons, isNon_non, isNon_int, isNon_tup, isNon_lst, isNon_str, isNon_bl, eqv_ss, eqv_ii, eqv_bb, eqv_nn, eqv_tt, eqv_ll, eqvs_nn, eqvs_nc, eqvs_cn, eqvs_cc, upto_1, upto_2, upto_3, upto_7, K_mAdd, K_mSub, K_mMul, K_mFdiv, K_mMod, K_mPow, K_mEq, K_mNe, K_mLt, K_mLe, K_mGt, K_mGe, K_mIn, K_mNin, K_mMin, K_mJoin, K_mIndex, K_mLen, K_mInt, K_mStr, K_mTuple, K_mList, K_mAll, K_mAny, K_mSorted, K_mDict, K_mIsA, IsA_tup, IsA_lst, IsA_str, IsA_int, IsA_bl, Mul_tup, txt_nc, txt_cn, IsA_non, isA, LIM, List.drop_zero, List.take_zero, List.drop_succ_cons, List.take_succ_cons, List.drop_nil, List.take_nil, Nat.sub_zero, reduceIte, ite_true, ite_false, Nat.reduceAdd, Nat.reduceMul, Nat.reduceSub, Nat.reduceLT, Nat.reduceLeDiff, Nat.reduceEqDiff, Nat.reduceBEq, Nat.reduceBNe, Nat.reducePow, Int.reduceAdd, Int.reduceMul, Int.reduceNeg, Int.reduceSub, Int.reduceLE, Int.reduceLT, Int.reduceEq, Int.reduceBEq, Int.reduceBNe, Int.reducePow, Int.reduceToNat, Int.reduceNe, Int.reduceMod, Int.reduceDiv, Int.cast_ofNat_Int, Int.ofNat_zero, Int.ofNat_one, List.cons_beq_cons, and_true, true_and, and_self, and_false, false_and, not_false_eq_true, not_true_eq_false, or_true, true_or, or_false, false_or, List.map_cons, List.map_nil, List.length_cons, List.length_nil, List.cons_append, List.nil_append, List.append_nil, List.set_cons_zero, List.set_cons_succ, Option.bind_some, Option.bind_none, Option.map_some, Option.map_none, List.head?_cons, if_true, Bool.and_true, Bool.true_and, Bool.and_false, Bool.false_and, Bool.or_true, Bool.true_or, Bool.or_false, Bool.false_or, Bool.not_true, Bool.not_false, Bool.not_not, Bool.and_self, Bool.or_self, decide_true, decide_false, decide_eq_true_eq, beq_self_eq_true, Bool.false_eq_true, List.all_cons, List.all_nil, List.any_cons, List.any_nil, id_eq, Nat.max_self, Nat.sub_self, Nat.zero_le, Bool.decide_eq_true, List.isEmpty_cons, List.isEmpty_nil, ite_self, Nat.max_zero, Nat.zero_max, $ls,*])
open M2
def eWd : Wd → D | .always => .str t_always | .bar => .str t_bar | .no => .str t_no | .once => .str t_once
def eWs : Ws → D | .both => .str t_both | .either => .str t_either | .last => .str t_last
def eBars : Bool → D | true => .str t_win | false => .str t_own
def eNow : Bool → D | true => .str t_now | false => .str t_morning
def eUse : Bool → D | true => .str t_use | false => .str t_day
def eP : Bool → D | true => .int 1 | false => .int 0
def eWh : Wh → D | .a => .int 0 | .b => .int 1 | .o => .int 2
def eTd : Td → D | .noted => .str t_noted | .handed => .str t_handed | .refused => .str t_refused | .gone => .str t_gone
abbrev pr (a b : D) : D := .tup [a, b]
def eRu (r : Ru) : D := .tup [eWs r.ws, eBars r.win, eNow r.lag, eNow r.court, eUse r.use, .bl r.void, .bl r.paper]
def eSd (s : Sd) : D := .tup [pr (eWd s.s0) (eWd s.s1), pr (.bl s.c0) (.bl s.c1), pr (eWd s.l0) (eWd s.l1), pr (.bl s.k0) (.bl s.k1), .bl s.th]
def eEv : Ev → D
  | .say p w => .tup [.str t_say, eP p, eWd w]
  | .court p => .tup [.str t_court, eP p]
  | .clear p => .tup [.str t_clear, eP p]
  | .come w => .tup [.str t_come, eWh w]
  | .paper p => .tup [.str t_paper, eP p]
  | .morning => .tup [.str t_morning]
def eRow (es : List Ev) : D := .tup (es.map eEv)
def eSg : Option Bool → D | none => .non | some p => eP p
theorem dep_eWd (w : Wd) : D.dep (eWd w) = 0 := by cases w <;> rfl
theorem dep_eSd (s : Sd) : D.dep (eSd s) = 2 := by
  obtain ⟨a, b, c, d, e, f, g, h, i⟩ := s
  simp [eSd, dep_tupS, deps_cons, deps_nil, dep_eWd, dep_bl]
theorem dep_eEv (e : Ev) : D.dep (eEv e) = 1 := by
  cases e with
  | say p w => cases p <;> cases w <;> rfl
  | court p => cases p <;> rfl
  | clear p => cases p <;> rfl
  | come w => cases w <;> rfl
  | paper p => cases p <;> rfl
  | morning => rfl
theorem dep_eRu (r : Ru) : D.dep (eRu r) = 1 := by
  obtain ⟨a, b, c, d, e, f, g⟩ := r
  cases a <;> cases b <;> cases c <;> cases d <;> cases e <;> rfl
theorem dep_eTd (t : Td) : D.dep (eTd t) = 0 := by cases t <;> rfl
theorem deps_row (es : List Ev) : D.deps (es.map eEv) ≤ 1 := deps_le fun x m => by
  obtain ⟨e, _, rfl⟩ := List.mem_map.mp m
  rw [dep_eEv]; exact Nat.le_refl _
theorem dep_eRow (es : List Ev) : D.dep (eRow es) ≤ 2 := by
  show D.dep (.tup _) ≤ 2
  rw [dep_tupS]
  have := deps_row es
  omega
/-! ### drawn rules -/
theorem values_spec : f__law_values [] = some (.ok (.ow (.lst [.lst [.str t_both, .str t_either, .str t_last], .lst [.str t_own, .str t_win], .lst [.str t_morning, .str t_now], .lst [.str t_morning, .str t_now], .lst [.str t_day, .str t_use], .lst [.bl false, .bl true], .lst [.bl false, .bl true]])), []) := rfl
theorem two_of {f : Bool → D} {x : D} (h : x ∈ [f false, f true]) : ∃ b, x = f b := by
  simp at h
  rcases h with rfl | rfl
  · exact ⟨false, rfl⟩
  · exact ⟨true, rfl⟩
theorem rule_draw {g s : Int} (p : Pot g s) : ∃ g' s' r, Pot g' s' ∧ f__law_rule [pot g s] = some (.ok (.sh (eRu r)), [some (pot g' s')]) := by
  obtain ⟨g1, s1, x1, p1, m1, e1⟩ := pick_spec (xs := [.str t_both, .str t_either, .str t_last]) p (by simp) (by simp)
  obtain ⟨g2, s2, x2, p2, m2, e2⟩ := pick_spec (xs := [.str t_own, .str t_win]) p1 (by simp) (by simp)
  obtain ⟨g3, s3, x3, p3, m3, e3⟩ := pick_spec (xs := [.str t_morning, .str t_now]) p2 (by simp) (by simp)
  obtain ⟨g4, s4, x4, p4, m4, e4⟩ := pick_spec (xs := [.str t_morning, .str t_now]) p3 (by simp) (by simp)
  obtain ⟨g5, s5, x5, p5, m5, e5⟩ := pick_spec (xs := [.str t_day, .str t_use]) p4 (by simp) (by simp)
  obtain ⟨g6, s6, x6, p6, m6, e6⟩ := pick_spec (xs := [.bl false, .bl true]) p5 (by simp) (by simp)
  obtain ⟨g7, s7, x7, p7, m7, e7⟩ := pick_spec (xs := [.bl false, .bl true]) p6 (by simp) (by simp)
  obtain ⟨ws, rfl⟩ : ∃ w, x1 = eWs w := by
    simp at m1
    rcases m1 with rfl | rfl | rfl
    · exact ⟨.both, rfl⟩
    · exact ⟨.either, rfl⟩
    · exact ⟨.last, rfl⟩
  obtain ⟨b2, rfl⟩ := two_of (f := eBars) m2
  obtain ⟨b3, rfl⟩ := two_of (f := eNow) m3
  obtain ⟨b4, rfl⟩ := two_of (f := eNow) m4
  obtain ⟨b5, rfl⟩ := two_of (f := eUse) m5
  obtain ⟨b6, rfl⟩ := two_of (f := D.bl) m6
  obtain ⟨b7, rfl⟩ := two_of (f := D.bl) m7
  refine ⟨g7, s7, ⟨ws, b2, b3, b4, b5, b6, b7⟩, p7, ?_⟩
  rw [f__law_rule, mkFn_eq]
  simp_arith [ce0__law_rule, values_spec, e1, e2, e3, e4, e5, e6, e7, eRu]
/-! ### drawn events, rows -/
def evWords : List D := [.str t_say, .str t_say, .str t_say, .str t_come, .str t_come, .str t_come, .str t_morning, .str t_morning, .str t_paper, .str t_court, .str t_clear]
theorem lot2 {g s : Int} (p : Pot g s) : ∃ g' s' q, Pot g' s' ∧ f__law_lot [pot g s, .sh (.int 2)] = some (.ok (.sh (eP q)), [some (pot g' s'), none]) := by
  obtain ⟨g', s', k, p', k0, k1, e⟩ := lot_spec (n := 2) p (by decide) (by decide)
  rcases (by omega : k = 0 ∨ k = 1) with rfl | rfl
  · exact ⟨g', s', false, p', e⟩
  · exact ⟨g', s', true, p', e⟩
theorem event_draw {g s : Int} (p : Pot g s) : ∃ g' s' v xs, Pot g' s' ∧ eEv v = .tup xs ∧ f__law_event [pot g s] = some (.ok (.tp (xs.map SB.sh)), [some (pot g' s')]) := by
  obtain ⟨g1, s1, x, p1, mx, e1⟩ := pick_spec (xs := [.str t_say, .str t_say, .str t_say, .str t_come, .str t_come, .str t_come, .str t_morning, .str t_morning, .str t_paper, .str t_court, .str t_clear]) p (by decide) (by decide)
  simp at mx
  rcases mx with rfl | rfl | rfl | rfl | rfl | rfl
  · obtain ⟨g2, s2, q, p2, e2⟩ := lot2 p1
    obtain ⟨g3, s3, y, p3, my, e3⟩ := pick_spec (xs := [.str t_always, .str t_bar, .str t_no, .str t_once, .str t_always]) p2 (by decide) (by decide)
    obtain ⟨w, rfl⟩ : ∃ w, y = eWd w := by
      simp at my
      rcases my with rfl | rfl | rfl | rfl | rfl
      · exact ⟨.always, rfl⟩
      · exact ⟨.bar, rfl⟩
      · exact ⟨.no, rfl⟩
      · exact ⟨.once, rfl⟩
      · exact ⟨.always, rfl⟩
    refine ⟨g3, s3, .say q w, _, p3, rfl, ?_⟩
    rw [f__law_event, mkFn_eq]
    simp_arith [e1, e2, e3, words_spec]
  · obtain ⟨g2, s2, y, p2, my, e2⟩ := pick_spec (xs := [.int 0, .int 1, .int 2, .int 2]) p1 (by decide) (by decide)
    obtain ⟨w, rfl⟩ : ∃ w, y = eWh w := by
      simp at my
      rcases my with rfl | rfl | rfl
      · exact ⟨.a, rfl⟩
      · exact ⟨.b, rfl⟩
      · exact ⟨.o, rfl⟩
    refine ⟨g2, s2, .come w, _, p2, rfl, ?_⟩
    rw [f__law_event, mkFn_eq]
    simp_arith [e1, e2]
  · refine ⟨g1, s1, .morning, _, p1, rfl, ?_⟩
    rw [f__law_event, mkFn_eq]
    simp_arith [e1]
  · obtain ⟨g2, s2, q, p2, e2⟩ := lot2 p1
    refine ⟨g2, s2, .paper q, _, p2, rfl, ?_⟩
    rw [f__law_event, mkFn_eq]
    simp_arith [e1, e2]
  · obtain ⟨g2, s2, q, p2, e2⟩ := lot2 p1
    refine ⟨g2, s2, .court q, _, p2, rfl, ?_⟩
    rw [f__law_event, mkFn_eq]
    simp_arith [e1, e2]
  · obtain ⟨g2, s2, q, p2, e2⟩ := lot2 p1
    refine ⟨g2, s2, .clear q, _, p2, rfl, ?_⟩
    rw [f__law_event, mkFn_eq]
    simp_arith [e1, e2]
end CM
end WF

set_option Elab.async false
set_option linter.all false
set_option maxRecDepth 100000
set_option maxHeartbeats 1000000
/-! C3: drawn rows. -/
namespace WF
namespace CM
local macro_rules | `(tactic| simp_arith [$ls,*]) => `(tactic| simp only [KO_some, KO_none, KO_ite, KE_some, KE_none, KE_ite, K_ret, K_stuck, K_lift, kId_eq, eId_eq, un1_some, op2_some, dat_sh, dat_ow, dat_pl, dat_tp, sbsD_nil, sbsD_cons, toD_sh, toD_ow, toD_io, toD_lst, toD_dic, at_zero, at_succ, kV_sh, kV_lst, kV_dic, K_mV, kP_sh, kP_ow, kP_io, K_mP, kM_sh, kM_ow, K_mMv, K_mK, kOp2_eq, kOp1_eq, K_mOp, kUn_eq, K_mUn, K_mNeg, isNB_eq, notNB_eq, K_mIsN, K_mNotN, lele_int, kLL3_eq, kLL2_eq, kLL1_eq, K_mLeLe, kTV_eq, K_tV, kTA_eq, K_tAnd, kTO_eq, K_tOr, kTN_eq, K_tNot, K_yes, kMA2_eq, kMA1_eq, K_mAnd, kMO2_eq, kMO1_eq, K_mOr, notB_bl, K_mNot, kIf_eq, K_mIf, boolV_bl, tru_bl, tru_non, tru_int, tru_str, tru_tup, tru_lst, K_mNil, kC2_eq, kC1_eq, K_mCons, keptO_nil, keptO_sh, keptO_ow, keptO_tp, tupO_eq, lstO_eq, kTup_eq, kLst_eq, K_mTup, K_mLst, fzO_eq, kFz_eq, K_mFz, lzip2_eq, kLZ2_eq, kLZ1_eq, K_mLZip, K_mDic0, dic1_eq, kD2_eq, kD1_eq, K_mDic1, elB_sh, elB_ow, ixO_sh, ixO_ow, ixO_pl, ixO_tp, kIx2_eq, kIx1_eq, K_mIx, slO_eq, kSl3_eq, kSl2_eq, kSl1_eq, K_mSl, intD_int, K_mEndN, kEnd_eq, K_mEndS, K_mRev, get3_eq, kG3_eq, kG2_eq, kG1_eq, K_mGet, txtB_str, kSp3_eq, kSp2_eq, kSp1_eq, K_mSplit, lent_nil, lent_sh1, lent_ow, lent_tp, lent_pl, nodup0, nodup1, nodup2, handL_nil, handL_cons, handB_sh, handB_lst, handB_dic, handB_tp, handB_pl, lendS_sh, lendS_ow, lendS_io, argsO_eq, backL_nil, backL_cons, backB_sh, backB_ow, backB_tp, backB_plN, backB_plS, putE_zero, putE_succ, put_ow, put_io, sput_sh, KF_ok, KF_exc, KF_none, KF_ite, KF_r, kArg_eq, kCall_eq, K_mCall, ioS_io, ioS_sh, ioS_ow, ioS_no, outs0, outs1, outs2, outs3, outs4, outs5, kFn_rt, kFn_nx, eFn_eq, mkFn_eq, rep0, repS, itO_eq, kIt_eq, K_items, dItems_tup, dItems_lst, rngD_int, kRg_eq, K_itRange, zipO_eq, kZ2_eq, kZ1_eq, K_itZip, enO_eq, kEn_eq, K_itEnum, zip2_tup, zip2_lst, zipD_cons, zipD_nil, zipD_nil2, enumD_tup, enumD_lst, putS_succ, putS_no, putS_sh, putS_ow, putTg_one, putTg_tup, putSs_nil, putSs_cons, slots_one, slots_tup, clr_nil, clr_cons, back_nil, back_cons, free_nil, free_cons, fr1_succ, fr1_no, fr1_sh, kCoE_eq, kCo_eq, K_mComp, K_comp0, kCo3_eq, kCo2_eq, kCo1_eq, kCo0_eq, K_comp1, K_sPass, K_sBreak, K_sCont, kSeq_nx, kSeq_rt, kSeq_bk, kSeq_ct, K_sSeq, kDrop_eq, K_sDrop, K_sIf, kNx_eq, ownO_sh, ownO_ow, ownO_tp, setO_eq, kSet_eq, K_sSet, ownOs_nil, ownOs_cons, putA_nil, putA_cons, parO_eq, kPar_eq, K_sPar, tupB_tp, tupB_sh, unpO_eq, kUnp_eq, K_sUnp, putOE_zero, putOE_succ, obj_ow, obj_io, hasO_zero, hasO_succ, xsO_eq, kXS3_eq, kXS2_eq, kXS1_eq, K_sIxSet, apO_eq, kNon_eq, kAp2_eq, kAp1_eq, K_mApp, kKy_eq, K_itKeys, keysOf_dic, strD_str, getO_eq, getS_dic, kGt3_eq, kGt2_eq, kGt1_eq, kGt0_eq, K_mGetN, addAt_lst, setAt_lst, setAt_dicS, setAt_dicT, kFor_eq, K_sFor, kFor2_nx, kFor2_ct, kFor2_bk, kFor2_rt, kFor1_eq, K_for0, K_for1, kWh2_nx, kWh2_ct, kWh2_bk, kWh2_rt, kWh1_eq, kRet_sh, kRet_ow, kRet_tp, K_sRet, tpO_eq, kTp_eq, K_mTp, sbBs_nil, sbBs_cons, sbB_sh, sbB_ow, K_sRaise, eTry_eq, K_sTry, K_tryGo0, K_tryGo1, Add_int, Add_tup, Add_lst, Add_str, Sub_int, Mul_int, Mul_lst, Fdiv_int, Mod_int, Lt_int, Le_int, Gt_int, Ge_int, Eq_eq, Ne_eq, In_tup, In_lst, Nin_tup, Nin_lst, mem_nil, mem_cons, Ix_tup, Ix_lst, atI_0, atI_1, atI_2, atI_3, atI_4, atI_5, atI_6, Len_tup, Len_lst, Len_dic, Ix_dic, In_dic, Nin_dic, Min_int, Len_str, Int_int, Int_bl, Tuple_lst, Tuple_tup, List_lst, List_tup, List_dic, bools_nil, bools_cons, All_lst, Any_lst, dep_non, dep_bl, dep_int, dep_str, dep_tupS, dep_lstS, deps_nil, deps_cons, isNon_non, isNon_int, isNon_tup, isNon_lst, isNon_str, isNon_bl, eqv_ss, eqv_ii, eqv_bb, eqv_nn, eqv_tt, eqv_ll, eqvs_nn, eqvs_nc, eqvs_cn, eqvs_cc, upto_1, upto_2, upto_3, upto_7, K_mAdd, K_mSub, K_mMul, K_mFdiv, K_mMod, K_mPow, K_mEq, K_mNe, K_mLt, K_mLe, K_mGt, K_mGe, K_mIn, K_mNin, K_mMin, K_mJoin, K_mIndex, K_mLen, K_mInt, K_mStr, K_mTuple, K_mList, K_mAll, K_mAny, K_mSorted, K_mDict, K_mIsA, IsA_tup, IsA_lst, IsA_str, IsA_int, IsA_bl, Mul_tup, txt_nc, txt_cn, IsA_non, isA, LIM, List.drop_zero, List.take_zero, List.drop_succ_cons, List.take_succ_cons, List.drop_nil, List.take_nil, Nat.sub_zero, reduceIte, ite_true, ite_false, Nat.reduceAdd, Nat.reduceMul, Nat.reduceSub, Nat.reduceLT, Nat.reduceLeDiff, Nat.reduceEqDiff, Nat.reduceBEq, Nat.reduceBNe, Nat.reducePow, Int.reduceAdd, Int.reduceMul, Int.reduceNeg, Int.reduceSub, Int.reduceLE, Int.reduceLT, Int.reduceEq, Int.reduceBEq, Int.reduceBNe, Int.reducePow, Int.reduceToNat, Int.reduceNe, Int.reduceMod, Int.reduceDiv, Int.cast_ofNat_Int, Int.ofNat_zero, Int.ofNat_one, List.cons_beq_cons, and_true, true_and, and_self, and_false, false_and, not_false_eq_true, not_true_eq_false, or_true, true_or, or_false, false_or, List.map_cons, List.map_nil, List.length_cons, List.length_nil, List.cons_append, List.nil_append, List.append_nil, List.set_cons_zero, List.set_cons_succ, Option.bind_some, Option.bind_none, Option.map_some, Option.map_none, List.head?_cons, if_true, Bool.and_true, Bool.true_and, Bool.and_false, Bool.false_and, Bool.or_true, Bool.true_or, Bool.or_false, Bool.false_or, Bool.not_true, Bool.not_false, Bool.not_not, Bool.and_self, Bool.or_self, decide_true, decide_false, decide_eq_true_eq, beq_self_eq_true, Bool.false_eq_true, List.all_cons, List.all_nil, List.any_cons, List.any_nil, id_eq, Nat.max_self, Nat.sub_self, Nat.zero_le, Bool.decide_eq_true, List.isEmpty_cons, List.isEmpty_nil, ite_self, Nat.max_zero, Nat.zero_max, $ls,*])
open M2
theorem sbsD_sh : ∀ ds : List D, sbsD (ds.map SB.sh) = some ds
  | [] => rfl
  | d :: ds => by
    rw [List.map_cons, sbsD_cons, sbsD_sh ds]
    rfl
theorem all_of {xs : List D} (h : ∀ x ∈ xs, ∃ e : Ev, x = eEv e) : ∃ es : List Ev, xs = es.map eEv := by
  induction xs with
  | nil => exact ⟨[], rfl⟩
  | cons x xs ih =>
    obtain ⟨e, rfl⟩ := h x List.mem_cons_self
    obtain ⟨es, rfl⟩ := ih fun y m => h y (List.mem_cons_of_mem _ m)
    exact ⟨e :: es, rfl⟩
theorem row_draw {g s : Int} {m : Nat} (p : Pot g s) (hm : m < 900) : ∃ g' s' es, Pot g' s' ∧ es.length ≤ m ∧ f__law_row [pot g s, .sh (.int m)] = some (.ok (.sh (eRow es)), [some (pot g' s'), none]) := by
  obtain ⟨g1, s1, k, p1, k0, k1, e1⟩ := lot_spec (n := (m : Int) + 1) p (by omega) (by omega)
  have hk : k < 4611686018427387904 := by omega
  have hk' : -4611686018427387904 ≤ k := by omega
  have hit : itRange (mCall f__law_lot (mCons (mP 0) (mCons (mAdd (mP 1) (mK (.int 1))) mNil))) [some (pot g s), some (.sh (.int m)), none] = some (.ok (upto k.toNat), [some (pot g1 s1), some (.sh (.int m)), none]) := by
    rw [K_id (m := itRange _)]
    simp_arith [e1, hk, hk']
  obtain ⟨xs, ρ', e, ⟨g', s', o, p', rfl⟩, hl, hr⟩ := mComp_rel (i := 2) (c := yes) (e := ce0__law_row) (fun ρ => ∃ g s o, Pot g s ∧ ρ = [some (pot g s), some (.sh (.int m)), o]) (fun d x => ∃ v, x = eEv v) hit (by simp) rfl (by rw [upto_len]; show _ ≤ 16777216; omega) ⟨g1, s1, none, p1, rfl⟩ fun d md ρ ⟨g, s, o, p, h⟩ => by
    subst h
    obtain ⟨g', s', v, xs, p', hv, e⟩ := event_draw p
    refine ⟨[some (pot g s), some (.sh (.int m)), some (.sh d)], [some (pot g' s'), some (.sh (.int m)), some (.sh d)], [some (pot g s), some (.sh (.int m)), some (.sh d)], eEv v, .tp (xs.map SB.sh), rfl, rfl, ?_, rfl, ?_, ⟨v, rfl⟩, g', s', _, p', rfl⟩
    · rw [K_id (m := ce0__law_row), ce0__law_row]
      simp_arith [e]
    · rw [dat_tp, sbsD_sh, hv]
      rfl
  obtain ⟨es, rfl⟩ := all_of (xs := xs) fun x mx => by
    obtain ⟨j, hj, ex⟩ := List.getElem_of_mem mx
    have hj' : j < (upto k.toNat).length := by omega
    exact hr j _ x (List.getElem?_eq_getElem hj') (by rw [List.getElem?_eq_getElem hj, ex])
  refine ⟨g', s', es, p', by rw [List.length_map, upto_len] at hl; omega, ?_⟩
  rw [f__law_row, mkFn_eq]
  simp_arith [-K_mComp, K_eq e, eRow]
end CM
end WF

set_option Elab.async false
set_option linter.all false
set_option maxRecDepth 100000
set_option maxHeartbeats 1000000
/-! C4: what the program's steps compute. -/
namespace WF
namespace CM
local macro_rules | `(tactic| simp_arith [$ls,*]) => `(tactic| simp only [KO_some, KO_none, KO_ite, KE_some, KE_none, KE_ite, K_ret, K_stuck, K_lift, kId_eq, eId_eq, un1_some, op2_some, dat_sh, dat_ow, dat_pl, dat_tp, sbsD_nil, sbsD_cons, toD_sh, toD_ow, toD_io, toD_lst, toD_dic, at_zero, at_succ, kV_sh, kV_lst, kV_dic, K_mV, kP_sh, kP_ow, kP_io, K_mP, kM_sh, kM_ow, K_mMv, K_mK, kOp2_eq, kOp1_eq, K_mOp, kUn_eq, K_mUn, K_mNeg, isNB_eq, notNB_eq, K_mIsN, K_mNotN, lele_int, kLL3_eq, kLL2_eq, kLL1_eq, K_mLeLe, kTV_eq, K_tV, kTA_eq, K_tAnd, kTO_eq, K_tOr, kTN_eq, K_tNot, K_yes, kMA2_eq, kMA1_eq, K_mAnd, kMO2_eq, kMO1_eq, K_mOr, notB_bl, K_mNot, kIf_eq, K_mIf, boolV_bl, tru_bl, tru_non, tru_int, tru_str, tru_tup, tru_lst, K_mNil, kC2_eq, kC1_eq, K_mCons, keptO_nil, keptO_sh, keptO_ow, keptO_tp, tupO_eq, lstO_eq, kTup_eq, kLst_eq, K_mTup, K_mLst, fzO_eq, kFz_eq, K_mFz, lzip2_eq, kLZ2_eq, kLZ1_eq, K_mLZip, K_mDic0, dic1_eq, kD2_eq, kD1_eq, K_mDic1, elB_sh, elB_ow, ixO_sh, ixO_ow, ixO_pl, ixO_tp, kIx2_eq, kIx1_eq, K_mIx, slO_eq, kSl3_eq, kSl2_eq, kSl1_eq, K_mSl, intD_int, K_mEndN, kEnd_eq, K_mEndS, K_mRev, get3_eq, kG3_eq, kG2_eq, kG1_eq, K_mGet, txtB_str, kSp3_eq, kSp2_eq, kSp1_eq, K_mSplit, lent_nil, lent_sh1, lent_ow, lent_tp, lent_pl, nodup0, nodup1, nodup2, handL_nil, handL_cons, handB_sh, handB_lst, handB_dic, handB_tp, handB_pl, lendS_sh, lendS_ow, lendS_io, argsO_eq, backL_nil, backL_cons, backB_sh, backB_ow, backB_tp, backB_plN, backB_plS, putE_zero, putE_succ, put_ow, put_io, sput_sh, KF_ok, KF_exc, KF_none, KF_ite, KF_r, kArg_eq, kCall_eq, K_mCall, ioS_io, ioS_sh, ioS_ow, ioS_no, outs0, outs1, outs2, outs3, outs4, outs5, kFn_rt, kFn_nx, eFn_eq, mkFn_eq, rep0, repS, itO_eq, kIt_eq, K_items, dItems_tup, dItems_lst, rngD_int, kRg_eq, K_itRange, zipO_eq, kZ2_eq, kZ1_eq, K_itZip, enO_eq, kEn_eq, K_itEnum, zip2_tup, zip2_lst, zipD_cons, zipD_nil, zipD_nil2, enumD_tup, enumD_lst, putS_succ, putS_no, putS_sh, putS_ow, putTg_one, putTg_tup, putSs_nil, putSs_cons, slots_one, slots_tup, clr_nil, clr_cons, back_nil, back_cons, free_nil, free_cons, fr1_succ, fr1_no, fr1_sh, kCoE_eq, kCo_eq, K_mComp, K_comp0, kCo3_eq, kCo2_eq, kCo1_eq, kCo0_eq, K_comp1, K_sPass, K_sBreak, K_sCont, kSeq_nx, kSeq_rt, kSeq_bk, kSeq_ct, K_sSeq, kDrop_eq, K_sDrop, K_sIf, kNx_eq, ownO_sh, ownO_ow, ownO_tp, setO_eq, kSet_eq, K_sSet, ownOs_nil, ownOs_cons, putA_nil, putA_cons, parO_eq, kPar_eq, K_sPar, tupB_tp, tupB_sh, unpO_eq, kUnp_eq, K_sUnp, putOE_zero, putOE_succ, obj_ow, obj_io, hasO_zero, hasO_succ, xsO_eq, kXS3_eq, kXS2_eq, kXS1_eq, K_sIxSet, apO_eq, kNon_eq, kAp2_eq, kAp1_eq, K_mApp, kKy_eq, K_itKeys, keysOf_dic, strD_str, getO_eq, getS_dic, kGt3_eq, kGt2_eq, kGt1_eq, kGt0_eq, K_mGetN, addAt_lst, setAt_lst, setAt_dicS, setAt_dicT, kFor_eq, K_sFor, kFor2_nx, kFor2_ct, kFor2_bk, kFor2_rt, kFor1_eq, K_for0, K_for1, kWh2_nx, kWh2_ct, kWh2_bk, kWh2_rt, kWh1_eq, kRet_sh, kRet_ow, kRet_tp, K_sRet, tpO_eq, kTp_eq, K_mTp, sbBs_nil, sbBs_cons, sbB_sh, sbB_ow, K_sRaise, eTry_eq, K_sTry, K_tryGo0, K_tryGo1, Add_int, Add_tup, Add_lst, Add_str, Sub_int, Mul_int, Mul_lst, Fdiv_int, Mod_int, Lt_int, Le_int, Gt_int, Ge_int, Eq_eq, Ne_eq, In_tup, In_lst, Nin_tup, Nin_lst, mem_nil, mem_cons, Ix_tup, Ix_lst, atI_0, atI_1, atI_2, atI_3, atI_4, atI_5, atI_6, Len_tup, Len_lst, Len_dic, Ix_dic, In_dic, Nin_dic, Min_int, Len_str, Int_int, Int_bl, Tuple_lst, Tuple_tup, List_lst, List_tup, List_dic, bools_nil, bools_cons, All_lst, Any_lst, dep_non, dep_bl, dep_int, dep_str, dep_tupS, dep_lstS, deps_nil, deps_cons, isNon_non, isNon_int, isNon_tup, isNon_lst, isNon_str, isNon_bl, eqv_ss, eqv_ii, eqv_bb, eqv_nn, eqv_tt, eqv_ll, eqvs_nn, eqvs_nc, eqvs_cn, eqvs_cc, upto_1, upto_2, upto_3, upto_7, K_mAdd, K_mSub, K_mMul, K_mFdiv, K_mMod, K_mPow, K_mEq, K_mNe, K_mLt, K_mLe, K_mGt, K_mGe, K_mIn, K_mNin, K_mMin, K_mJoin, K_mIndex, K_mLen, K_mInt, K_mStr, K_mTuple, K_mList, K_mAll, K_mAny, K_mSorted, K_mDict, K_mIsA, IsA_tup, IsA_lst, IsA_str, IsA_int, IsA_bl, Mul_tup, txt_nc, txt_cn, IsA_non, isA, LIM, List.drop_zero, List.take_zero, List.drop_succ_cons, List.take_succ_cons, List.drop_nil, List.take_nil, Nat.sub_zero, reduceIte, ite_true, ite_false, Nat.reduceAdd, Nat.reduceMul, Nat.reduceSub, Nat.reduceLT, Nat.reduceLeDiff, Nat.reduceEqDiff, Nat.reduceBEq, Nat.reduceBNe, Nat.reducePow, Int.reduceAdd, Int.reduceMul, Int.reduceNeg, Int.reduceSub, Int.reduceLE, Int.reduceLT, Int.reduceEq, Int.reduceBEq, Int.reduceBNe, Int.reducePow, Int.reduceToNat, Int.reduceNe, Int.reduceMod, Int.reduceDiv, Int.cast_ofNat_Int, Int.ofNat_zero, Int.ofNat_one, List.cons_beq_cons, and_true, true_and, and_self, and_false, false_and, not_false_eq_true, not_true_eq_false, or_true, true_or, or_false, false_or, List.map_cons, List.map_nil, List.length_cons, List.length_nil, List.cons_append, List.nil_append, List.append_nil, List.set_cons_zero, List.set_cons_succ, Option.bind_some, Option.bind_none, Option.map_some, Option.map_none, List.head?_cons, if_true, Bool.and_true, Bool.true_and, Bool.and_false, Bool.false_and, Bool.or_true, Bool.true_or, Bool.or_false, Bool.false_or, Bool.not_true, Bool.not_false, Bool.not_not, Bool.and_self, Bool.or_self, decide_true, decide_false, decide_eq_true_eq, beq_self_eq_true, Bool.false_eq_true, List.all_cons, List.all_nil, List.any_cons, List.any_nil, id_eq, Nat.max_self, Nat.sub_self, Nat.zero_le, Bool.decide_eq_true, List.isEmpty_cons, List.isEmpty_nil, ite_self, Nat.max_zero, Nat.zero_max, $ls,*])
open M2
section
variable {r : Ru} {s : Sd}
theorem Ix_ru0 : iIx (eRu r) (.int 0) = some (.sh (eWs r.ws)) := rfl
theorem Ix_ru1 : iIx (eRu r) (.int 1) = some (.sh (eBars r.win)) := rfl
theorem Ix_ru2 : iIx (eRu r) (.int 2) = some (.sh (eNow r.lag)) := rfl
theorem Ix_ru3 : iIx (eRu r) (.int 3) = some (.sh (eNow r.court)) := rfl
theorem Ix_ru4 : iIx (eRu r) (.int 4) = some (.sh (eUse r.use)) := rfl
theorem Ix_ru5 : iIx (eRu r) (.int 5) = some (.sh (.bl r.void)) := rfl
theorem Ix_ru6 : iIx (eRu r) (.int 6) = some (.sh (.bl r.paper)) := rfl
theorem Ix_sd0 : iIx (eSd s) (.int 0) = some (.sh (pr (eWd s.s0) (eWd s.s1))) := rfl
theorem Ix_sd1 : iIx (eSd s) (.int 1) = some (.sh (pr (.bl s.c0) (.bl s.c1))) := rfl
theorem Ix_sd2 : iIx (eSd s) (.int 2) = some (.sh (pr (eWd s.l0) (eWd s.l1))) := rfl
theorem Ix_sd3 : iIx (eSd s) (.int 3) = some (.sh (pr (.bl s.k0) (.bl s.k1))) := rfl
theorem Ix_sd4 : iIx (eSd s) (.int 4) = some (.sh (.bl s.th)) := rfl
theorem tupB_sd : tupB (.sh (eSd s)) = some [.sh (pr (eWd s.s0) (eWd s.s1)), .sh (pr (.bl s.c0) (.bl s.c1)), .sh (pr (eWd s.l0) (eWd s.l1)), .sh (pr (.bl s.k0) (.bl s.k1)), .sh (.bl s.th)] := rfl
theorem isNon_eP {p : Bool} : D.isNon (eP p) = false := by cases p <;> rfl
theorem eq_ws {a b : Ws} : D.eqv (eWs a) (eWs b) = (a == b) := by cases a <;> cases b <;> rfl
theorem eq_last {a : Ws} : D.eqv (eWs a) (.str t_last) = (a == .last) := by cases a <;> rfl
theorem eq_both {a : Ws} : D.eqv (eWs a) (.str t_both) = (a == .both) := by cases a <;> rfl
theorem eq_win {a : Bool} : D.eqv (eBars a) (.str t_win) = a := by cases a <;> rfl
theorem eq_now {a : Bool} : D.eqv (eNow a) (.str t_now) = a := by cases a <;> rfl
theorem eq_use {a : Bool} : D.eqv (eUse a) (.str t_use) = a := by cases a <;> rfl
theorem eq_day {a : Bool} : D.eqv (eUse a) (.str t_day) = !a := by cases a <;> rfl
theorem eq_bar {a : Wd} : D.eqv (eWd a) (.str t_bar) = (a == .bar) := by cases a <;> rfl
theorem eq_once {a : Wd} : D.eqv (eWd a) (.str t_once) = (a == .once) := by cases a <;> rfl
theorem eq_always {a : Wd} : D.eqv (eWd a) (.str t_always) = (a == .always) := by cases a <;> rfl
theorem qe_always {a : Wd} : D.eqv (.str t_always) (eWd a) = (a == .always) := by cases a <;> rfl
theorem qe_once {a : Wd} : D.eqv (.str t_once) (eWd a) = (a == .once) := by cases a <;> rfl
theorem mem_good {a : Wd} : memD (eWd a) [.str t_always, .str t_once] = a.good := by cases a <;> rfl
theorem dep_eWs {a : Ws} : D.dep (eWs a) = 0 := by cases a <;> rfl
theorem dep_eBars {a : Bool} : D.dep (eBars a) = 0 := by cases a <;> rfl
theorem dep_eNow {a : Bool} : D.dep (eNow a) = 0 := by cases a <;> rfl
theorem dep_eUse {a : Bool} : D.dep (eUse a) = 0 := by cases a <;> rfl
theorem dep_eP {a : Bool} : D.dep (eP a) = 0 := by cases a <;> rfl
theorem dep_eWh {a : Wh} : D.dep (eWh a) = 0 := by cases a <;> rfl
end
theorem put_at_spec (a b v : D) (p : Bool) : f_put_at [.sh (pr a b), .sh (eP p), .sh v] = some (.ok (.sh (if p then pr a v else pr v b)), [none, none, none]) := by cases p <;> rfl
theorem spoken_spec (r : Ru) (x y w : Wd) (p : Bool) : f_spoken [.sh (eRu r), .sh (pr (eWd x) (eWd y)), .sh (eP p), .sh (eWd w)] = some (.ok (.sh (pr (eWd (spoken r.ws x y p w).1) (eWd (spoken r.ws x y p w).2))), [none, none, none, none]) := by
  obtain ⟨ws, a, b, c, d, e, f⟩ := r
  cases ws <;> cases p <;> rfl
theorem spoken_once (r : Ru) (x y : Wd) (p : Bool) : f_spoken [.sh (eRu r), .sh (pr (eWd x) (eWd y)), .sh (eP p), .sh (.str t_once)] = some (.ok (.sh (pr (eWd (spoken r.ws x y p .once).1) (eWd (spoken r.ws x y p .once).2))), [none, none, none, none]) := spoken_spec r x y .once p
theorem worded_spec (r : Ru) (x y : Wd) (c d : Bool) (g : Option Bool) : f_worded [.sh (eRu r), .sh (pr (eWd x) (eWd y)), .sh (pr (.bl c) (.bl d)), .sh (eSg g)] = some (.ok (.sh (pr (eWd (worded r x y c d g).1) (eWd (worded r x y c d g).2))), [none, none, none, none]) := by
  rw [f_worded, mkFn_eq]
  rcases g with _ | p
  · simp_arith [eSg, Ix_ru5, Ix_ru6, ce0_worded]
    cases hv : r.void <;> cases c <;> cases d <;> simp only [worded, hv] <;> rfl
  · cases hp : r.paper
    · simp_arith [eSg, isNon_eP, Ix_ru5, Ix_ru6, ce0_worded, hp]
      cases hv : r.void <;> cases c <;> cases d <;> simp only [worded, hv, hp] <;> rfl
    · simp_arith [eSg, isNon_eP, Ix_ru5, Ix_ru6, ce0_worded, hp, spoken_once]
      cases hv : r.void <;> cases c <;> cases d <;> simp only [worded, hv, hp] <;> rfl
theorem worded_N (r : Ru) (x y : Wd) (c d : Bool) : f_worded [.sh (eRu r), .sh (pr (eWd x) (eWd y)), .sh (pr (.bl c) (.bl d)), .sh .non] = some (.ok (.sh (pr (eWd (worded r x y c d none).1) (eWd (worded r x y c d none).2))), [none, none, none, none]) := worded_spec r x y c d none
theorem ne_other {w : Wh} : D.eqv (eWh w) (.int 2) = (w == .o) := by cases w <;> rfl
theorem mem_bar2 {x y : Wd} : memD (.str t_bar) [eWd x, eWd y] = (x == .bar || y == .bar) := by cases x <;> cases y <;> rfl
theorem may_spec (r : Ru) (x y : Wd) (c d : Bool) (w : Wh) (g : Option Bool) : f_may [.sh (eRu r), .sh (pr (eWd x) (eWd y)), .sh (pr (.bl c) (.bl d)), .sh (eWh w), .sh (eSg g)] = some (.ok (.sh (.bl (may r x y c d w g))), [none, none, none, none, none]) := by
  rw [f_may, mkFn_eq]
  cases w with
  | a => simp_arith [c_OTHER, eWh, may]
  | b => simp_arith [c_OTHER, eWh, may]
  | o =>
    simp_arith [c_OTHER, eWh, worded_spec, Ix_ru0, Ix_ru1, eq_win, eq_both, dep_eBars, dep_eWs, dep_eWd, eq_bar, qe_always, qe_once, ce0_may, may, mayW]
    generalize (worded r x y c d g).1 = u
    generalize (worded r x y c d g).2 = v
    cases r.win <;> cases r.ws <;> cases u <;> cases v <;> rfl
theorem may_N (r : Ru) (x y : Wd) (c d : Bool) (w : Wh) : f_may [.sh (eRu r), .sh (pr (eWd x) (eWd y)), .sh (pr (.bl c) (.bl d)), .sh (eWh w), .sh .non] = some (.ok (.sh (.bl (may r x y c d w none))), [none, none, none, none, none]) := may_spec r x y c d w none
theorem may_P (r : Ru) (x y : Wd) (c d : Bool) (p : Bool) : f_may [.sh (eRu r), .sh (pr (eWd x) (eWd y)), .sh (pr (.bl c) (.bl d)), .sh (.int 2), .sh (eP p)] = some (.ok (.sh (.bl (may r x y c d .o (some p)))), [none, none, none, none, none]) := may_spec r x y c d .o (some p)
theorem used_spec (x y : Wd) : f_used_up [.sh (pr (eWd x) (eWd y))] = some (.ok (.sh (pr (eWd x.up) (eWd y.up))), [none]) := by
  rw [f_used_up, mkFn_eq]
  simp_arith [ce0_used_up, eq_once, dep_eWd]
  cases x <;> cases y <;> rfl
theorem come_spec (r : Ru) (s : Sd) (w : Wh) (g : Option Bool) : f_come [.sh (eRu r), .sh (eSd s), .sh (eWh w), .sh (eSg g)] = some (.ok (.sh (.tup [eSd (come r s w g).1, eTd (come r s w g).2])), [none, none, none, none]) := by
  rw [f_come, mkFn_eq]
  simp_arith [tupB_sd, may_spec, ne_other, c_OTHER, dep_eWh, Ix_ru4, eq_use, dep_eUse, used_spec]
  unfold come
  cases s.th
  · rfl
  · cases may r s.l0 s.l1 s.k0 s.k1 w g
    · rfl
    · cases w == .o <;> cases r.use <;> rfl
theorem come_N (r : Ru) (s : Sd) (w : Wh) : f_come [.sh (eRu r), .sh (eSd s), .sh (eWh w), .sh .non] = some (.ok (.sh (.tup [eSd (come r s w none).1, eTd (come r s w none).2])), [none, none, none, none]) := come_spec r s w none
theorem come_P (r : Ru) (s : Sd) (p : Bool) : f_come [.sh (eRu r), .sh (eSd s), .sh (.int 2), .sh (eP p)] = some (.ok (.sh (.tup [eSd (come r s .o (some p)).1, eTd (come r s .o (some p)).2])), [none, none, none, none]) := come_spec r s .o (some p)
theorem morn_spec (r : Ru) (s : Sd) : ∃ b0 b1 b2 b3 b4, eSd (morn r s) = .tup [b0, b1, b2, b3, b4] ∧ f_morning [.sh (eRu r), .sh (eSd s)] = some (.ok (.tp [.sh b0, .sh b1, .sh b2, .sh b3, .sh b4]), [none, none]) := by
  refine ⟨_, _, _, _, _, rfl, ?_⟩
  rw [f_morning, mkFn_eq]
  simp_arith [tupB_sd, Ix_ru4, eq_day, dep_eUse, eq_once, dep_eWd, ce0_morning]
  unfold morn
  cases r.use
  · simp only [Bool.not_false, if_true, Bool.false_eq_true, if_false]
    cases s.s0 <;> cases s.s1 <;> cases s.l0 <;> cases s.l1 <;> rfl
  · rfl
end CM
end WF

set_option Elab.async false
set_option linter.all false
set_option maxRecDepth 100000
set_option maxHeartbeats 1000000
/-! C5: a step; rows led; rights. -/
namespace WF
namespace CM
local macro_rules | `(tactic| simp_arith [$ls,*]) => `(tactic| simp only [KO_some, KO_none, KO_ite, KE_some, KE_none, KE_ite, K_ret, K_stuck, K_lift, kId_eq, eId_eq, un1_some, op2_some, dat_sh, dat_ow, dat_pl, dat_tp, sbsD_nil, sbsD_cons, toD_sh, toD_ow, toD_io, toD_lst, toD_dic, at_zero, at_succ, kV_sh, kV_lst, kV_dic, K_mV, kP_sh, kP_ow, kP_io, K_mP, kM_sh, kM_ow, K_mMv, K_mK, kOp2_eq, kOp1_eq, K_mOp, kUn_eq, K_mUn, K_mNeg, isNB_eq, notNB_eq, K_mIsN, K_mNotN, lele_int, kLL3_eq, kLL2_eq, kLL1_eq, K_mLeLe, kTV_eq, K_tV, kTA_eq, K_tAnd, kTO_eq, K_tOr, kTN_eq, K_tNot, K_yes, kMA2_eq, kMA1_eq, K_mAnd, kMO2_eq, kMO1_eq, K_mOr, notB_bl, K_mNot, kIf_eq, K_mIf, boolV_bl, tru_bl, tru_non, tru_int, tru_str, tru_tup, tru_lst, K_mNil, kC2_eq, kC1_eq, K_mCons, keptO_nil, keptO_sh, keptO_ow, keptO_tp, tupO_eq, lstO_eq, kTup_eq, kLst_eq, K_mTup, K_mLst, fzO_eq, kFz_eq, K_mFz, lzip2_eq, kLZ2_eq, kLZ1_eq, K_mLZip, K_mDic0, dic1_eq, kD2_eq, kD1_eq, K_mDic1, elB_sh, elB_ow, ixO_sh, ixO_ow, ixO_pl, ixO_tp, kIx2_eq, kIx1_eq, K_mIx, slO_eq, kSl3_eq, kSl2_eq, kSl1_eq, K_mSl, intD_int, K_mEndN, kEnd_eq, K_mEndS, K_mRev, get3_eq, kG3_eq, kG2_eq, kG1_eq, K_mGet, txtB_str, kSp3_eq, kSp2_eq, kSp1_eq, K_mSplit, lent_nil, lent_sh1, lent_ow, lent_tp, lent_pl, nodup0, nodup1, nodup2, handL_nil, handL_cons, handB_sh, handB_lst, handB_dic, handB_tp, handB_pl, lendS_sh, lendS_ow, lendS_io, argsO_eq, backL_nil, backL_cons, backB_sh, backB_ow, backB_tp, backB_plN, backB_plS, putE_zero, putE_succ, put_ow, put_io, sput_sh, KF_ok, KF_exc, KF_none, KF_ite, KF_r, kArg_eq, kCall_eq, K_mCall, ioS_io, ioS_sh, ioS_ow, ioS_no, outs0, outs1, outs2, outs3, outs4, outs5, kFn_rt, kFn_nx, eFn_eq, mkFn_eq, rep0, repS, itO_eq, kIt_eq, K_items, dItems_tup, dItems_lst, rngD_int, kRg_eq, K_itRange, zipO_eq, kZ2_eq, kZ1_eq, K_itZip, enO_eq, kEn_eq, K_itEnum, zip2_tup, zip2_lst, zipD_cons, zipD_nil, zipD_nil2, enumD_tup, enumD_lst, putS_succ, putS_no, putS_sh, putS_ow, putTg_one, putTg_tup, putSs_nil, putSs_cons, slots_one, slots_tup, clr_nil, clr_cons, back_nil, back_cons, free_nil, free_cons, fr1_succ, fr1_no, fr1_sh, kCoE_eq, kCo_eq, K_mComp, K_comp0, kCo3_eq, kCo2_eq, kCo1_eq, kCo0_eq, K_comp1, K_sPass, K_sBreak, K_sCont, kSeq_nx, kSeq_rt, kSeq_bk, kSeq_ct, K_sSeq, kDrop_eq, K_sDrop, K_sIf, kNx_eq, ownO_sh, ownO_ow, ownO_tp, setO_eq, kSet_eq, K_sSet, ownOs_nil, ownOs_cons, putA_nil, putA_cons, parO_eq, kPar_eq, K_sPar, tupB_tp, tupB_sh, unpO_eq, kUnp_eq, K_sUnp, putOE_zero, putOE_succ, obj_ow, obj_io, hasO_zero, hasO_succ, xsO_eq, kXS3_eq, kXS2_eq, kXS1_eq, K_sIxSet, apO_eq, kNon_eq, kAp2_eq, kAp1_eq, K_mApp, kKy_eq, K_itKeys, keysOf_dic, strD_str, getO_eq, getS_dic, kGt3_eq, kGt2_eq, kGt1_eq, kGt0_eq, K_mGetN, addAt_lst, setAt_lst, setAt_dicS, setAt_dicT, kFor_eq, K_sFor, kFor2_nx, kFor2_ct, kFor2_bk, kFor2_rt, kFor1_eq, K_for0, K_for1, kWh2_nx, kWh2_ct, kWh2_bk, kWh2_rt, kWh1_eq, kRet_sh, kRet_ow, kRet_tp, K_sRet, tpO_eq, kTp_eq, K_mTp, sbBs_nil, sbBs_cons, sbB_sh, sbB_ow, K_sRaise, eTry_eq, K_sTry, K_tryGo0, K_tryGo1, Add_int, Add_tup, Add_lst, Add_str, Sub_int, Mul_int, Mul_lst, Fdiv_int, Mod_int, Lt_int, Le_int, Gt_int, Ge_int, Eq_eq, Ne_eq, In_tup, In_lst, Nin_tup, Nin_lst, mem_nil, mem_cons, Ix_tup, Ix_lst, atI_0, atI_1, atI_2, atI_3, atI_4, atI_5, atI_6, Len_tup, Len_lst, Len_dic, Ix_dic, In_dic, Nin_dic, Min_int, Len_str, Int_int, Int_bl, Tuple_lst, Tuple_tup, List_lst, List_tup, List_dic, bools_nil, bools_cons, All_lst, Any_lst, dep_non, dep_bl, dep_int, dep_str, dep_tupS, dep_lstS, deps_nil, deps_cons, isNon_non, isNon_int, isNon_tup, isNon_lst, isNon_str, isNon_bl, eqv_ss, eqv_ii, eqv_bb, eqv_nn, eqv_tt, eqv_ll, eqvs_nn, eqvs_nc, eqvs_cn, eqvs_cc, upto_1, upto_2, upto_3, upto_7, K_mAdd, K_mSub, K_mMul, K_mFdiv, K_mMod, K_mPow, K_mEq, K_mNe, K_mLt, K_mLe, K_mGt, K_mGe, K_mIn, K_mNin, K_mMin, K_mJoin, K_mIndex, K_mLen, K_mInt, K_mStr, K_mTuple, K_mList, K_mAll, K_mAny, K_mSorted, K_mDict, K_mIsA, IsA_tup, IsA_lst, IsA_str, IsA_int, IsA_bl, Mul_tup, txt_nc, txt_cn, IsA_non, isA, LIM, List.drop_zero, List.take_zero, List.drop_succ_cons, List.take_succ_cons, List.drop_nil, List.take_nil, Nat.sub_zero, reduceIte, ite_true, ite_false, Nat.reduceAdd, Nat.reduceMul, Nat.reduceSub, Nat.reduceLT, Nat.reduceLeDiff, Nat.reduceEqDiff, Nat.reduceBEq, Nat.reduceBNe, Nat.reducePow, Int.reduceAdd, Int.reduceMul, Int.reduceNeg, Int.reduceSub, Int.reduceLE, Int.reduceLT, Int.reduceEq, Int.reduceBEq, Int.reduceBNe, Int.reducePow, Int.reduceToNat, Int.reduceNe, Int.reduceMod, Int.reduceDiv, Int.cast_ofNat_Int, Int.ofNat_zero, Int.ofNat_one, List.cons_beq_cons, and_true, true_and, and_self, and_false, false_and, not_false_eq_true, not_true_eq_false, or_true, true_or, or_false, false_or, List.map_cons, List.map_nil, List.length_cons, List.length_nil, List.cons_append, List.nil_append, List.append_nil, List.set_cons_zero, List.set_cons_succ, Option.bind_some, Option.bind_none, Option.map_some, Option.map_none, List.head?_cons, if_true, Bool.and_true, Bool.true_and, Bool.and_false, Bool.false_and, Bool.or_true, Bool.true_or, Bool.or_false, Bool.false_or, Bool.not_true, Bool.not_false, Bool.not_not, Bool.and_self, Bool.or_self, decide_true, decide_false, decide_eq_true_eq, beq_self_eq_true, Bool.false_eq_true, List.all_cons, List.all_nil, List.any_cons, List.any_nil, id_eq, Nat.max_self, Nat.sub_self, Nat.zero_le, Bool.decide_eq_true, List.isEmpty_cons, List.isEmpty_nil, ite_self, Nat.max_zero, Nat.zero_max, $ls,*])
open M2
theorem step_spec (r : Ru) (s : Sd) (e : Ev) : f_step [.sh (eRu r), .sh (eSd s), .sh (eEv e)] = some (.ok (.sh (.tup [eSd (step r s e).1, eTd (step r s e).2])), [none, none, none]) := by
  cases e with
  | say p w =>
    rw [f_step, mkFn_eq]
    simp_arith [eEv, tupB_sd, spoken_spec, Ix_ru2, eq_now, dep_eNow]
    unfold step
    dsimp only
    cases r.lag <;> rfl
  | court p =>
    rw [f_step, mkFn_eq]
    simp_arith [eEv, tupB_sd, put_at_spec, Ix_ru3, eq_now, dep_eNow]
    unfold step crt put
    dsimp only
    cases r.court <;> cases p <;> rfl
  | clear p =>
    rw [f_step, mkFn_eq]
    simp_arith [eEv, tupB_sd, put_at_spec, Ix_ru3, eq_now, dep_eNow]
    unfold step crt put
    dsimp only
    cases r.court <;> cases p <;> rfl
  | come w =>
    rw [f_step, mkFn_eq]
    simp_arith [eEv, tupB_sd, come_N, step]
  | paper p =>
    rw [f_step, mkFn_eq]
    simp_arith [eEv, tupB_sd, come_P, c_OTHER, step]
  | morning =>
    obtain ⟨b0, b1, b2, b3, b4, h, em⟩ := morn_spec r s
    rw [f_step, mkFn_eq]
    simp_arith [eEv, tupB_sd, em, step, h]
    rfl
theorem begin_spec : f_begin [] = some (.ok (.sh (eSd sd0)), []) := rfl
theorem led_turn (r : Ru) (x : D) (s : Sd) (e : Ev) (ts : List D) (o5 : Option SB) (h5 : Nio o5) (lt : ts.length < 16777216) : fb0_led [some (.sh (eRu r)), some (.sh x), some (.sh (eSd s)), some (.ow (.lst ts)), some (.sh (eEv e)), o5] = some (.ok .nx, [some (.sh (eRu r)), some (.sh x), some (.sh (eSd (step r s e).1)), some (.ow (.lst (ts ++ [eTd (step r s e).2]))), some (.sh (eEv e)), some (.sh (eTd (step r s e).2))]) := by
  rw [K_id (m := fb0_led), fb0_led]
  simp_arith [putS_nio h5, step_spec, lt]
theorem led_go (r : Ru) (x : D) : ∀ (es : List Ev) (s : Sd) (ts : List D) (o4 o5 : Option SB), Nio o4 → Nio o5 → ts.length + es.length ≤ 10000 → ∃ o4' o5', forGo (.one 4) fb0_led (es.map eEv) [some (.sh (eRu r)), some (.sh x), some (.sh (eSd s)), some (.ow (.lst ts)), o4, o5] = some (.ok .nx, [some (.sh (eRu r)), some (.sh x), some (.sh (eSd (led r s es).1)), some (.ow (.lst (ts ++ (led r s es).2.map eTd))), o4', o5'])
  | [], s, ts, o4, o5, _, _, _ => ⟨o4, o5, by
    show some _ = _
    simp [led]⟩
  | e :: es, s, ts, o4, o5, h4, h5, hl => by
    rw [List.length_cons] at hl
    obtain ⟨o4', o5', ih⟩ := led_go r x es (step r s e).1 (ts ++ [eTd (step r s e).2]) (some (.sh (eEv e))) (some (.sh (eTd (step r s e).2))) nio_sh nio_sh (by rw [List.length_append]; simp; omega)
    refine ⟨o4', o5', ?_⟩
    rw [K_id (m := forGo _ _ _), List.map_cons]
    simp_arith [putS_nio h4, K_eq (led_turn r x s e ts o5 h5 (by omega)), K_eq ih, led, List.append_assoc]
theorem led_len (r : Ru) : ∀ (s : Sd) (es : List Ev), (led r s es).2.length = es.length
  | s, [] => rfl
  | s, e :: es => by simp [led, led_len r _ es]
theorem led_spec (r : Ru) (es : List Ev) (hl : es.length ≤ 10000) : f_led [.sh (eRu r), .sh (eRow es)] = some (.ok (.tp [.sh (eSd (led r sd0 es).1), .ow (.lst ((led r sd0 es).2.map eTd))]), [none, none]) := by
  obtain ⟨o4, o5, e⟩ := led_go r (eRow es) es sd0 [] none none nio_no nio_no (by simpa using hl)
  rw [f_led, mkFn_eq]
  rw [eRow] at e ⊢
  simp_arith [begin_spec, K_eq e]
/-! rights -/
theorem lets_spec (r : Ru) (s : Sd) : f_door_lets [.sh (eRu r), .sh (eSd s)] = some (.ok (.sh (.tup [.bl (lets r s .a), .bl (lets r s .b), .bl (lets r s .o)])), [none, none]) := by
  have ea := may_N r s.l0 s.l1 s.k0 s.k1 .a
  have eb := may_N r s.l0 s.l1 s.k0 s.k1 .b
  have eo := may_N r s.l0 s.l1 s.k0 s.k1 .o
  simp only [eWh] at ea eb eo
  rw [f_door_lets, mkFn_eq]
  simp_arith [ce0_door_lets, Ix_sd2, Ix_sd3, ea, eb, eo, lets]
theorem truly_spec (r : Ru) (s : Sd) (g : Option Bool) : f_truly_may [.sh (eRu r), .sh (eSd s), .sh (eSg g)] = some (.ok (.sh (.tup [.bl (truly r s .a none), .bl (truly r s .b none), .bl (truly r s .o g)])), [none, none, none]) := by
  have ea := may_N r s.s0 s.s1 s.c0 s.c1 .a
  have eb := may_N r s.s0 s.s1 s.c0 s.c1 .b
  have eo := may_spec r s.s0 s.s1 s.c0 s.c1 .o g
  simp only [eWh] at ea eb eo
  rw [f_truly_may, mkFn_eq]
  simp_arith [ce0_truly_may, Ix_sd0, Ix_sd1, ea, eb, eo, truly, c_OTHER]
/-! what rules and rows are -/
theorem same_spec (a b : D) (ha : D.dep a ≤ 60) (hb : D.dep b ≤ 60) : ∃ q, f_is_same [.sh a, .sh b] = some (.ok (.sh (.bl q)), [none, none]) := by
  have na := nodic ha (by decide)
  have nb := nodic hb (by decide)
  rw [f_is_same, mkFn_eq]
  cases a with
  | dic t kvs => exact absurd rfl (na t kvs)
  | _ => cases b with
    | dic t kvs => exact absurd rfl (nb t kvs)
    | _ => exact ⟨_, by simp_arith [ha, hb]; rfl⟩
end CM
end WF

set_option Elab.async false
set_option linter.all false
set_option maxRecDepth 100000
set_option maxHeartbeats 1000000
/-! C6: rules are rules, rows are rows. -/
namespace WF
namespace M2
def allB : List Bool := [false, true]
def allWs : List Ws := [.both, .either, .last]
def allWd : List Wd := [.always, .bar, .no, .once]
def allRu : List Ru := allWs.flatMap fun ws => allB.flatMap fun a => allB.flatMap fun b => allB.flatMap fun c => allB.flatMap fun d => allB.flatMap fun e => allB.map fun f => ⟨ws, a, b, c, d, e, f⟩
def allEv : List Ev := [.clear false, .clear true, .come .a, .come .b, .come .o, .court false, .court true, .morning, .paper false, .paper true, .say false .always, .say false .bar, .say false .no, .say false .once, .say true .always, .say true .bar, .say true .no, .say true .once]
theorem mem_allB (b : Bool) : b ∈ allB := by cases b <;> decide
theorem mem_allRu (r : Ru) : r ∈ allRu := by
  obtain ⟨ws, a, b, c, d, e, f⟩ := r
  refine List.mem_flatMap.mpr ⟨ws, by cases ws <;> decide, List.mem_flatMap.mpr ⟨a, mem_allB a, List.mem_flatMap.mpr ⟨b, mem_allB b, List.mem_flatMap.mpr ⟨c, mem_allB c, List.mem_flatMap.mpr ⟨d, mem_allB d, List.mem_flatMap.mpr ⟨e, mem_allB e, List.mem_map.mpr ⟨f, mem_allB f, rfl⟩⟩⟩⟩⟩⟩⟩
theorem mem_allEv (e : Ev) : e ∈ allEv := by
  cases e with
  | say p w => cases p <;> cases w <;> decide
  | court p => cases p <;> decide
  | clear p => cases p <;> decide
  | come w => cases w <;> decide
  | paper p => cases p <;> decide
  | morning => decide
end M2
namespace CM
local macro_rules | `(tactic| simp_arith [$ls,*]) => `(tactic| simp only [KO_some, KO_none, KO_ite, KE_some, KE_none, KE_ite, K_ret, K_stuck, K_lift, kId_eq, eId_eq, un1_some, op2_some, dat_sh, dat_ow, dat_pl, dat_tp, sbsD_nil, sbsD_cons, toD_sh, toD_ow, toD_io, toD_lst, toD_dic, at_zero, at_succ, kV_sh, kV_lst, kV_dic, K_mV, kP_sh, kP_ow, kP_io, K_mP, kM_sh, kM_ow, K_mMv, K_mK, kOp2_eq, kOp1_eq, K_mOp, kUn_eq, K_mUn, K_mNeg, isNB_eq, notNB_eq, K_mIsN, K_mNotN, lele_int, kLL3_eq, kLL2_eq, kLL1_eq, K_mLeLe, kTV_eq, K_tV, kTA_eq, K_tAnd, kTO_eq, K_tOr, kTN_eq, K_tNot, K_yes, kMA2_eq, kMA1_eq, K_mAnd, kMO2_eq, kMO1_eq, K_mOr, notB_bl, K_mNot, kIf_eq, K_mIf, boolV_bl, tru_bl, tru_non, tru_int, tru_str, tru_tup, tru_lst, K_mNil, kC2_eq, kC1_eq, K_mCons, keptO_nil, keptO_sh, keptO_ow, keptO_tp, tupO_eq, lstO_eq, kTup_eq, kLst_eq, K_mTup, K_mLst, fzO_eq, kFz_eq, K_mFz, lzip2_eq, kLZ2_eq, kLZ1_eq, K_mLZip, K_mDic0, dic1_eq, kD2_eq, kD1_eq, K_mDic1, elB_sh, elB_ow, ixO_sh, ixO_ow, ixO_pl, ixO_tp, kIx2_eq, kIx1_eq, K_mIx, slO_eq, kSl3_eq, kSl2_eq, kSl1_eq, K_mSl, intD_int, K_mEndN, kEnd_eq, K_mEndS, K_mRev, get3_eq, kG3_eq, kG2_eq, kG1_eq, K_mGet, txtB_str, kSp3_eq, kSp2_eq, kSp1_eq, K_mSplit, lent_nil, lent_sh1, lent_ow, lent_tp, lent_pl, nodup0, nodup1, nodup2, handL_nil, handL_cons, handB_sh, handB_lst, handB_dic, handB_tp, handB_pl, lendS_sh, lendS_ow, lendS_io, argsO_eq, backL_nil, backL_cons, backB_sh, backB_ow, backB_tp, backB_plN, backB_plS, putE_zero, putE_succ, put_ow, put_io, sput_sh, KF_ok, KF_exc, KF_none, KF_ite, KF_r, kArg_eq, kCall_eq, K_mCall, ioS_io, ioS_sh, ioS_ow, ioS_no, outs0, outs1, outs2, outs3, outs4, outs5, kFn_rt, kFn_nx, eFn_eq, mkFn_eq, rep0, repS, itO_eq, kIt_eq, K_items, dItems_tup, dItems_lst, rngD_int, kRg_eq, K_itRange, zipO_eq, kZ2_eq, kZ1_eq, K_itZip, enO_eq, kEn_eq, K_itEnum, zip2_tup, zip2_lst, zipD_cons, zipD_nil, zipD_nil2, enumD_tup, enumD_lst, putS_succ, putS_no, putS_sh, putS_ow, putTg_one, putTg_tup, putSs_nil, putSs_cons, slots_one, slots_tup, clr_nil, clr_cons, back_nil, back_cons, free_nil, free_cons, fr1_succ, fr1_no, fr1_sh, kCoE_eq, kCo_eq, K_mComp, K_comp0, kCo3_eq, kCo2_eq, kCo1_eq, kCo0_eq, K_comp1, K_sPass, K_sBreak, K_sCont, kSeq_nx, kSeq_rt, kSeq_bk, kSeq_ct, K_sSeq, kDrop_eq, K_sDrop, K_sIf, kNx_eq, ownO_sh, ownO_ow, ownO_tp, setO_eq, kSet_eq, K_sSet, ownOs_nil, ownOs_cons, putA_nil, putA_cons, parO_eq, kPar_eq, K_sPar, tupB_tp, tupB_sh, unpO_eq, kUnp_eq, K_sUnp, putOE_zero, putOE_succ, obj_ow, obj_io, hasO_zero, hasO_succ, xsO_eq, kXS3_eq, kXS2_eq, kXS1_eq, K_sIxSet, apO_eq, kNon_eq, kAp2_eq, kAp1_eq, K_mApp, kKy_eq, K_itKeys, keysOf_dic, strD_str, getO_eq, getS_dic, kGt3_eq, kGt2_eq, kGt1_eq, kGt0_eq, K_mGetN, addAt_lst, setAt_lst, setAt_dicS, setAt_dicT, kFor_eq, K_sFor, kFor2_nx, kFor2_ct, kFor2_bk, kFor2_rt, kFor1_eq, K_for0, K_for1, kWh2_nx, kWh2_ct, kWh2_bk, kWh2_rt, kWh1_eq, kRet_sh, kRet_ow, kRet_tp, K_sRet, tpO_eq, kTp_eq, K_mTp, sbBs_nil, sbBs_cons, sbB_sh, sbB_ow, K_sRaise, eTry_eq, K_sTry, K_tryGo0, K_tryGo1, Add_int, Add_tup, Add_lst, Add_str, Sub_int, Mul_int, Mul_lst, Fdiv_int, Mod_int, Lt_int, Le_int, Gt_int, Ge_int, Eq_eq, Ne_eq, In_tup, In_lst, Nin_tup, Nin_lst, mem_nil, mem_cons, Ix_tup, Ix_lst, atI_0, atI_1, atI_2, atI_3, atI_4, atI_5, atI_6, Len_tup, Len_lst, Len_dic, Ix_dic, In_dic, Nin_dic, Min_int, Len_str, Int_int, Int_bl, Tuple_lst, Tuple_tup, List_lst, List_tup, List_dic, bools_nil, bools_cons, All_lst, Any_lst, dep_non, dep_bl, dep_int, dep_str, dep_tupS, dep_lstS, deps_nil, deps_cons, isNon_non, isNon_int, isNon_tup, isNon_lst, isNon_str, isNon_bl, eqv_ss, eqv_ii, eqv_bb, eqv_nn, eqv_tt, eqv_ll, eqvs_nn, eqvs_nc, eqvs_cn, eqvs_cc, upto_1, upto_2, upto_3, upto_7, K_mAdd, K_mSub, K_mMul, K_mFdiv, K_mMod, K_mPow, K_mEq, K_mNe, K_mLt, K_mLe, K_mGt, K_mGe, K_mIn, K_mNin, K_mMin, K_mJoin, K_mIndex, K_mLen, K_mInt, K_mStr, K_mTuple, K_mList, K_mAll, K_mAny, K_mSorted, K_mDict, K_mIsA, IsA_tup, IsA_lst, IsA_str, IsA_int, IsA_bl, Mul_tup, txt_nc, txt_cn, IsA_non, isA, LIM, List.drop_zero, List.take_zero, List.drop_succ_cons, List.take_succ_cons, List.drop_nil, List.take_nil, Nat.sub_zero, reduceIte, ite_true, ite_false, Nat.reduceAdd, Nat.reduceMul, Nat.reduceSub, Nat.reduceLT, Nat.reduceLeDiff, Nat.reduceEqDiff, Nat.reduceBEq, Nat.reduceBNe, Nat.reducePow, Int.reduceAdd, Int.reduceMul, Int.reduceNeg, Int.reduceSub, Int.reduceLE, Int.reduceLT, Int.reduceEq, Int.reduceBEq, Int.reduceBNe, Int.reducePow, Int.reduceToNat, Int.reduceNe, Int.reduceMod, Int.reduceDiv, Int.cast_ofNat_Int, Int.ofNat_zero, Int.ofNat_one, List.cons_beq_cons, and_true, true_and, and_self, and_false, false_and, not_false_eq_true, not_true_eq_false, or_true, true_or, or_false, false_or, List.map_cons, List.map_nil, List.length_cons, List.length_nil, List.cons_append, List.nil_append, List.append_nil, List.set_cons_zero, List.set_cons_succ, Option.bind_some, Option.bind_none, Option.map_some, Option.map_none, List.head?_cons, if_true, Bool.and_true, Bool.true_and, Bool.and_false, Bool.false_and, Bool.or_true, Bool.true_or, Bool.or_false, Bool.false_or, Bool.not_true, Bool.not_false, Bool.not_not, Bool.and_self, Bool.or_self, decide_true, decide_false, decide_eq_true_eq, beq_self_eq_true, Bool.false_eq_true, List.all_cons, List.all_nil, List.any_cons, List.any_nil, id_eq, Nat.max_self, Nat.sub_self, Nat.zero_le, Bool.decide_eq_true, List.isEmpty_cons, List.isEmpty_nil, ite_self, Nat.max_zero, Nat.zero_max, $ls,*])
open M2
theorem same_ss (a b : Txt) : f_is_same [.sh (.str a), .sh (.str b)] = some (.ok (.sh (.bl (a == b))), [none, none]) := by
  rw [f_is_same, mkFn_eq]
  simp_arith [if_true]
theorem same_bb (a b : Bool) : f_is_same [.sh (.bl a), .sh (.bl b)] = some (.ok (.sh (.bl (a == b))), [none, none]) := by
  rw [f_is_same, mkFn_eq]
  simp_arith [if_true]
theorem same_ws (w : Ws) (t : Txt) : f_is_same [.sh (eWs w), .sh (.str t)] = some (.ok (.sh (.bl (D.eqv (eWs w) (.str t)))), [none, none]) := by
  cases w <;> simp only [eWs, same_ss, eqv_ss]
theorem same_bars (w : Bool) (t : Txt) : f_is_same [.sh (eBars w), .sh (.str t)] = some (.ok (.sh (.bl (D.eqv (eBars w) (.str t)))), [none, none]) := by
  cases w <;> simp only [eBars, same_ss, eqv_ss]
theorem same_now (w : Bool) (t : Txt) : f_is_same [.sh (eNow w), .sh (.str t)] = some (.ok (.sh (.bl (D.eqv (eNow w) (.str t)))), [none, none]) := by
  cases w <;> simp only [eNow, same_ss, eqv_ss]
theorem same_use (w : Bool) (t : Txt) : f_is_same [.sh (eUse w), .sh (.str t)] = some (.ok (.sh (.bl (D.eqv (eUse w) (.str t)))), [none, none]) := by
  cases w <;> simp only [eUse, same_ss, eqv_ss]
theorem a_ws (w : Ws) : (D.eqv (eWs w) (.str t_both) || (D.eqv (eWs w) (.str t_either) || D.eqv (eWs w) (.str t_last))) = true := by cases w <;> rfl
theorem a_bars (w : Bool) : (D.eqv (eBars w) (.str t_own) || D.eqv (eBars w) (.str t_win)) = true := by cases w <;> rfl
theorem a_now (w : Bool) : (D.eqv (eNow w) (.str t_morning) || D.eqv (eNow w) (.str t_now)) = true := by cases w <;> rfl
theorem a_use (w : Bool) : (D.eqv (eUse w) (.str t_day) || D.eqv (eUse w) (.str t_use)) = true := by cases w <;> rfl
theorem a_bb (w : Bool) : ((w == false) || (w == true)) = true := by cases w <;> rfl
theorem any_ws (w : Ws) (v : D) : ce1_is_rule [some (.sh v), some (.sh (eWs w)), some (.sh (.tup [.str t_both, .str t_either, .str t_last])), none] = some (.ok (.sh (.bl true)), [some (.sh v), some (.sh (eWs w)), some (.sh (.tup [.str t_both, .str t_either, .str t_last])), none]) := by
  rw [K_id (m := ce1_is_rule)]
  simp_arith [ce0_is_rule, ce1_is_rule, same_ws, a_ws]
theorem any_bars (w : Bool) (v : D) : ce1_is_rule [some (.sh v), some (.sh (eBars w)), some (.sh (.tup [.str t_own, .str t_win])), none] = some (.ok (.sh (.bl true)), [some (.sh v), some (.sh (eBars w)), some (.sh (.tup [.str t_own, .str t_win])), none]) := by
  rw [K_id (m := ce1_is_rule)]
  simp_arith [ce0_is_rule, ce1_is_rule, same_bars, a_bars]
theorem any_now (w : Bool) (v : D) : ce1_is_rule [some (.sh v), some (.sh (eNow w)), some (.sh (.tup [.str t_morning, .str t_now])), none] = some (.ok (.sh (.bl true)), [some (.sh v), some (.sh (eNow w)), some (.sh (.tup [.str t_morning, .str t_now])), none]) := by
  rw [K_id (m := ce1_is_rule)]
  simp_arith [ce0_is_rule, ce1_is_rule, same_now, a_now]
theorem any_use (w : Bool) (v : D) : ce1_is_rule [some (.sh v), some (.sh (eUse w)), some (.sh (.tup [.str t_day, .str t_use])), none] = some (.ok (.sh (.bl true)), [some (.sh v), some (.sh (eUse w)), some (.sh (.tup [.str t_day, .str t_use])), none]) := by
  rw [K_id (m := ce1_is_rule)]
  simp_arith [ce0_is_rule, ce1_is_rule, same_use, a_use]
theorem any_bb (w : Bool) (v : D) : ce1_is_rule [some (.sh v), some (.sh (.bl w)), some (.sh (.tup [.bl false, .bl true])), none] = some (.ok (.sh (.bl true)), [some (.sh v), some (.sh (.bl w)), some (.sh (.tup [.bl false, .bl true])), none]) := by
  rw [K_id (m := ce1_is_rule)]
  simp_arith [ce0_is_rule, ce1_is_rule, same_bb, a_bb]
theorem is_rule_enc (r : Ru) : f_is_rule [.sh (eRu r)] = some (.ok (.sh (.bl true)), [none]) := by
  rw [f_is_rule, mkFn_eq]
  simp_arith [eRu, c_VALUES, c_PART_NAMES, K_eq (any_ws _ _), K_eq (any_bars _ _), K_eq (any_now _ _), K_eq (any_use _ _), K_eq (any_bb _ _)]
theorem number_eP (p : Bool) : f_is_number [.sh (eP p), .sh (.int 1)] = some (.ok (.sh (.bl true)), [none, none]) := by cases p <;> rfl
theorem number_eWh (w : Wh) : f_is_number [.sh (eWh w), .sh (.int 2)] = some (.ok (.sh (.bl true)), [none, none]) := by cases w <;> rfl
theorem word_eWd (w : Wd) : f_is_word [.sh (eWd w)] = some (.ok (.sh (.bl true)), [none]) := by cases w <;> rfl
theorem is_event_enc (e : Ev) : f_is_event [.sh (eEv e)] = some (.ok (.sh (.bl true)), [none]) := by
  rw [f_is_event, mkFn_eq]
  cases e <;> simp_arith [eEv, dep_eP, dep_eWh, dep_eWd, number_eP, number_eWh, word_eWd]
theorem bools_rep (n : Nat) : bools (List.replicate n (.bl true)) = some (List.replicate n true) := by
  induction n with
  | zero => rfl
  | succ n ih => rw [List.replicate_succ, List.replicate_succ, bools_cons, ih]; rfl
theorem all_rep (n : Nat) : (List.replicate n true).all id = true := by simp
theorem are_events_enc (es : List Ev) (hl : es.length ≤ 10000) : f_are_events [.sh (eRow es)] = some (.ok (.sh (.bl (decide ((es.length : Int) ≤ 60)))), [none]) := by
  have hc : mComp (.one 1) (items (mV 0)) yes ce0_are_events [some (.sh (eRow es)), none] = some (.ok (.ow (.lst ((es.map eEv).filterMap fun _ => some (.bl true)))), [some (.sh (eRow es)), none]) := by
    refine mComp_pure (ρ := [some (.sh (eRow es)), none]) (ds := es.map eEv) (fun _ => some (.bl true)) rfl (by simp) rfl (by rw [List.length_map]; show _ ≤ 16777216; omega) fun d m => .inr ⟨_, rfl, rfl, ?_⟩
    obtain ⟨e, _, rfl⟩ := List.mem_map.mp m
    show ce0_are_events [some (.sh (eRow es)), some (.sh (eEv e))] = _
    rw [K_id (m := ce0_are_events), ce0_are_events]
    simp_arith [is_event_enc]
  have hm : (es.map eEv).filterMap (fun _ => some (D.bl true)) = List.replicate es.length (.bl true) := by
    clear hc
    induction es with
    | nil => rfl
    | cons e es ih => rw [List.map_cons, List.filterMap_cons_some (f := fun _ => some (D.bl true)) rfl, ih (by simp at hl; omega), List.length_cons, List.replicate_succ]
  rw [hm] at hc
  rw [f_are_events, mkFn_eq]
  rw [eRow] at hc ⊢
  simp_arith [-K_mComp, c_MOST_EVENTS, List.length_map]
  by_cases h : (es.length : Int) ≤ 60
  · simp_arith [-K_mComp, h, K_eq hc, bools_rep, all_rep]
  · simp_arith [-K_mComp, h]
end CM
end WF

set_option Elab.async false
set_option linter.all false
set_option maxRecDepth 100000
set_option maxHeartbeats 2000000
/-! C7: what the laws' own steps compute. -/
namespace WF
namespace CM
local macro_rules | `(tactic| simp_arith [$ls,*]) => `(tactic| simp only [KO_some, KO_none, KO_ite, KE_some, KE_none, KE_ite, K_ret, K_stuck, K_lift, kId_eq, eId_eq, un1_some, op2_some, dat_sh, dat_ow, dat_pl, dat_tp, sbsD_nil, sbsD_cons, toD_sh, toD_ow, toD_io, toD_lst, toD_dic, at_zero, at_succ, kV_sh, kV_lst, kV_dic, K_mV, kP_sh, kP_ow, kP_io, K_mP, kM_sh, kM_ow, K_mMv, K_mK, kOp2_eq, kOp1_eq, K_mOp, kUn_eq, K_mUn, K_mNeg, isNB_eq, notNB_eq, K_mIsN, K_mNotN, lele_int, kLL3_eq, kLL2_eq, kLL1_eq, K_mLeLe, kTV_eq, K_tV, kTA_eq, K_tAnd, kTO_eq, K_tOr, kTN_eq, K_tNot, K_yes, kMA2_eq, kMA1_eq, K_mAnd, kMO2_eq, kMO1_eq, K_mOr, notB_bl, K_mNot, kIf_eq, K_mIf, boolV_bl, tru_bl, tru_non, tru_int, tru_str, tru_tup, tru_lst, K_mNil, kC2_eq, kC1_eq, K_mCons, keptO_nil, keptO_sh, keptO_ow, keptO_tp, tupO_eq, lstO_eq, kTup_eq, kLst_eq, K_mTup, K_mLst, fzO_eq, kFz_eq, K_mFz, lzip2_eq, kLZ2_eq, kLZ1_eq, K_mLZip, K_mDic0, dic1_eq, kD2_eq, kD1_eq, K_mDic1, elB_sh, elB_ow, ixO_sh, ixO_ow, ixO_pl, ixO_tp, kIx2_eq, kIx1_eq, K_mIx, slO_eq, kSl3_eq, kSl2_eq, kSl1_eq, K_mSl, intD_int, K_mEndN, kEnd_eq, K_mEndS, K_mRev, get3_eq, kG3_eq, kG2_eq, kG1_eq, K_mGet, txtB_str, kSp3_eq, kSp2_eq, kSp1_eq, K_mSplit, lent_nil, lent_sh1, lent_ow, lent_tp, lent_pl, nodup0, nodup1, nodup2, handL_nil, handL_cons, handB_sh, handB_lst, handB_dic, handB_tp, handB_pl, lendS_sh, lendS_ow, lendS_io, argsO_eq, backL_nil, backL_cons, backB_sh, backB_ow, backB_tp, backB_plN, backB_plS, putE_zero, putE_succ, put_ow, put_io, sput_sh, KF_ok, KF_exc, KF_none, KF_ite, KF_r, kArg_eq, kCall_eq, K_mCall, ioS_io, ioS_sh, ioS_ow, ioS_no, outs0, outs1, outs2, outs3, outs4, outs5, kFn_rt, kFn_nx, eFn_eq, mkFn_eq, rep0, repS, itO_eq, kIt_eq, K_items, dItems_tup, dItems_lst, rngD_int, kRg_eq, K_itRange, zipO_eq, kZ2_eq, kZ1_eq, K_itZip, enO_eq, kEn_eq, K_itEnum, zip2_tup, zip2_lst, zipD_cons, zipD_nil, zipD_nil2, enumD_tup, enumD_lst, putS_succ, putS_no, putS_sh, putS_ow, putTg_one, putTg_tup, putSs_nil, putSs_cons, slots_one, slots_tup, clr_nil, clr_cons, back_nil, back_cons, free_nil, free_cons, fr1_succ, fr1_no, fr1_sh, kCoE_eq, kCo_eq, K_mComp, K_comp0, kCo3_eq, kCo2_eq, kCo1_eq, kCo0_eq, K_comp1, K_sPass, K_sBreak, K_sCont, kSeq_nx, kSeq_rt, kSeq_bk, kSeq_ct, K_sSeq, kDrop_eq, K_sDrop, K_sIf, kNx_eq, ownO_sh, ownO_ow, ownO_tp, setO_eq, kSet_eq, K_sSet, ownOs_nil, ownOs_cons, putA_nil, putA_cons, parO_eq, kPar_eq, K_sPar, tupB_tp, tupB_sh, unpO_eq, kUnp_eq, K_sUnp, putOE_zero, putOE_succ, obj_ow, obj_io, hasO_zero, hasO_succ, xsO_eq, kXS3_eq, kXS2_eq, kXS1_eq, K_sIxSet, apO_eq, kNon_eq, kAp2_eq, kAp1_eq, K_mApp, kKy_eq, K_itKeys, keysOf_dic, strD_str, getO_eq, getS_dic, kGt3_eq, kGt2_eq, kGt1_eq, kGt0_eq, K_mGetN, addAt_lst, setAt_lst, setAt_dicS, setAt_dicT, kFor_eq, K_sFor, kFor2_nx, kFor2_ct, kFor2_bk, kFor2_rt, kFor1_eq, K_for0, K_for1, kWh2_nx, kWh2_ct, kWh2_bk, kWh2_rt, kWh1_eq, kRet_sh, kRet_ow, kRet_tp, K_sRet, tpO_eq, kTp_eq, K_mTp, sbBs_nil, sbBs_cons, sbB_sh, sbB_ow, K_sRaise, eTry_eq, K_sTry, K_tryGo0, K_tryGo1, Add_int, Add_tup, Add_lst, Add_str, Sub_int, Mul_int, Mul_lst, Fdiv_int, Mod_int, Lt_int, Le_int, Gt_int, Ge_int, Eq_eq, Ne_eq, In_tup, In_lst, Nin_tup, Nin_lst, mem_nil, mem_cons, Ix_tup, Ix_lst, atI_0, atI_1, atI_2, atI_3, atI_4, atI_5, atI_6, Len_tup, Len_lst, Len_dic, Ix_dic, In_dic, Nin_dic, Min_int, Len_str, Int_int, Int_bl, Tuple_lst, Tuple_tup, List_lst, List_tup, List_dic, bools_nil, bools_cons, All_lst, Any_lst, dep_non, dep_bl, dep_int, dep_str, dep_tupS, dep_lstS, deps_nil, deps_cons, isNon_non, isNon_int, isNon_tup, isNon_lst, isNon_str, isNon_bl, eqv_ss, eqv_ii, eqv_bb, eqv_nn, eqv_tt, eqv_ll, eqvs_nn, eqvs_nc, eqvs_cn, eqvs_cc, upto_1, upto_2, upto_3, upto_7, K_mAdd, K_mSub, K_mMul, K_mFdiv, K_mMod, K_mPow, K_mEq, K_mNe, K_mLt, K_mLe, K_mGt, K_mGe, K_mIn, K_mNin, K_mMin, K_mJoin, K_mIndex, K_mLen, K_mInt, K_mStr, K_mTuple, K_mList, K_mAll, K_mAny, K_mSorted, K_mDict, K_mIsA, IsA_tup, IsA_lst, IsA_str, IsA_int, IsA_bl, Mul_tup, txt_nc, txt_cn, IsA_non, isA, LIM, List.drop_zero, List.take_zero, List.drop_succ_cons, List.take_succ_cons, List.drop_nil, List.take_nil, Nat.sub_zero, reduceIte, ite_true, ite_false, Nat.reduceAdd, Nat.reduceMul, Nat.reduceSub, Nat.reduceLT, Nat.reduceLeDiff, Nat.reduceEqDiff, Nat.reduceBEq, Nat.reduceBNe, Nat.reducePow, Int.reduceAdd, Int.reduceMul, Int.reduceNeg, Int.reduceSub, Int.reduceLE, Int.reduceLT, Int.reduceEq, Int.reduceBEq, Int.reduceBNe, Int.reducePow, Int.reduceToNat, Int.reduceNe, Int.reduceMod, Int.reduceDiv, Int.cast_ofNat_Int, Int.ofNat_zero, Int.ofNat_one, List.cons_beq_cons, and_true, true_and, and_self, and_false, false_and, not_false_eq_true, not_true_eq_false, or_true, true_or, or_false, false_or, List.map_cons, List.map_nil, List.length_cons, List.length_nil, List.cons_append, List.nil_append, List.append_nil, List.set_cons_zero, List.set_cons_succ, Option.bind_some, Option.bind_none, Option.map_some, Option.map_none, List.head?_cons, if_true, Bool.and_true, Bool.true_and, Bool.and_false, Bool.false_and, Bool.or_true, Bool.true_or, Bool.or_false, Bool.false_or, Bool.not_true, Bool.not_false, Bool.not_not, Bool.and_self, Bool.or_self, decide_true, decide_false, decide_eq_true_eq, beq_self_eq_true, Bool.false_eq_true, List.all_cons, List.all_nil, List.any_cons, List.any_nil, id_eq, Nat.max_self, Nat.sub_self, Nat.zero_le, Bool.decide_eq_true, List.isEmpty_cons, List.isEmpty_nil, ite_self, Nat.max_zero, Nat.zero_max, $ls,*])
open M2
theorem new_spec : f__law_new [] = some (.ok (.sh (eSd sd0)), []) := rfl
theorem said_spec (r : Ru) (x y w : Wd) (p : Bool) : f__law_said [.sh (eRu r), .sh (pr (eWd x) (eWd y)), .sh (eP p), .sh (eWd w)] = some (.ok (.sh (pr (eWd (spoken r.ws x y p w).1) (eWd (spoken r.ws x y p w).2))), [none, none, none, none]) := by
  rw [f__law_said, mkFn_eq]
  cases p
  · simp_arith [eP, Ix_ru0, eq_last, dep_eWs, setAt_lst, Int.toNat_zero, Int.toNat_one]
    cases r.ws <;> rfl
  · simp_arith [eP, Ix_ru0, eq_last, dep_eWs, setAt_lst, Int.toNat_zero, Int.toNat_one]
    cases r.ws <;> rfl
theorem said_once (r : Ru) (x y : Wd) (p : Bool) : f__law_said [.sh (eRu r), .sh (pr (eWd x) (eWd y)), .sh (eP p), .sh (.str t_once)] = some (.ok (.sh (pr (eWd (spoken r.ws x y p .once).1) (eWd (spoken r.ws x y p .once).2))), [none, none, none, none]) := said_spec r x y .once p
/-- the law's may, the words that stand -/
def lawW (r : Ru) (x y : Wd) (c d : Bool) : Bool := mayW r.ws r.win (x.void r.void c) (y.void r.void d)
theorem law_may_o (r : Ru) (x y : Wd) (c d : Bool) : f__law_may [.sh (eRu r), .sh (pr (eWd x) (eWd y)), .sh (pr (.bl c) (.bl d)), .sh (.int 2), .sh .non] = some (.ok (.sh (.bl (lawW r x y c d))), [none, none, none, none, none]) := by
  rw [f__law_may, mkFn_eq]
  cases hv : r.void <;> cases c <;> cases d <;> (
    simp_arith [cc0__law_may, ce0__law_may, cc1__law_may, ce1__law_may, Ix_ru0, Ix_ru1, Ix_ru5, Ix_ru6, hv, eq_bar, eq_win, eq_both, eq_always, eq_once, dep_eWd, dep_eBars, dep_eWs]
    simp only [lawW, mayW, Wd.void, hv]
    cases r.win <;> cases r.ws <;> cases x <;> cases y <;> rfl)
theorem law_may_p (r : Ru) (x y : Wd) (c d : Bool) (p : Bool) (hp : r.paper = false) : f__law_may [.sh (eRu r), .sh (pr (eWd x) (eWd y)), .sh (pr (.bl c) (.bl d)), .sh (.int 2), .sh (eP p)] = some (.ok (.sh (.bl (lawW r x y c d))), [none, none, none, none, none]) := by
  rw [f__law_may, mkFn_eq]
  cases hv : r.void <;> cases c <;> cases d <;> (
    simp_arith [cc0__law_may, ce0__law_may, cc1__law_may, ce1__law_may, Ix_ru0, Ix_ru1, Ix_ru5, Ix_ru6, hv, eq_bar, eq_win, eq_both, eq_always, eq_once, dep_eWd, dep_eBars, dep_eWs, isNon_eP, hp]
    simp only [lawW, mayW, Wd.void, hv]
    cases r.win <;> cases r.ws <;> cases x <;> cases y <;> rfl)
theorem law_may_q (r : Ru) (x y : Wd) (c d : Bool) (p : Bool) (hp : r.paper = true) : f__law_may [.sh (eRu r), .sh (pr (eWd x) (eWd y)), .sh (pr (.bl c) (.bl d)), .sh (.int 2), .sh (eP p)] = some (.ok (.sh (.bl (lawW r (spoken r.ws x y p .once).1 (spoken r.ws x y p .once).2 c d))), [none, none, none, none, none]) := by
  rw [f__law_may, mkFn_eq]
  cases hv : r.void <;> cases c <;> cases d <;> (
    simp_arith [cc0__law_may, ce0__law_may, cc1__law_may, ce1__law_may, Ix_ru0, Ix_ru1, Ix_ru5, Ix_ru6, hv, eq_bar, eq_win, eq_both, eq_always, eq_once, dep_eWd, dep_eBars, dep_eWs, isNon_eP, hp, said_once]
    generalize (spoken r.ws x y p .once).1 = u
    generalize (spoken r.ws x y p .once).2 = v
    simp only [lawW, mayW, Wd.void, hv]
    cases r.win <;> cases r.ws <;> cases u <;> cases v <;> rfl)
theorem law_may_spec (r : Ru) (x y : Wd) (c d : Bool) (w : Wh) (g : Option Bool) : f__law_may [.sh (eRu r), .sh (pr (eWd x) (eWd y)), .sh (pr (.bl c) (.bl d)), .sh (eWh w), .sh (eSg g)] = some (.ok (.sh (.bl (may r x y c d w g))), [none, none, none, none, none]) := by
  cases w with
  | a =>
    rw [f__law_may, mkFn_eq]
    simp_arith [eWh, may]
  | b =>
    rw [f__law_may, mkFn_eq]
    simp_arith [eWh, may]
  | o =>
    rcases g with _ | p
    · exact law_may_o r x y c d
    · cases hp : r.paper with
      | false =>
        have e : may r x y c d .o (some p) = lawW r x y c d := by simp [may, worded, lawW, hp]
        rw [e]
        exact law_may_p r x y c d p hp
      | true =>
        have e : may r x y c d .o (some p) = lawW r (spoken r.ws x y p .once).1 (spoken r.ws x y p .once).2 c d := by simp [may, worded, lawW, hp]
        rw [e]
        exact law_may_q r x y c d p hp
theorem law_may_N (r : Ru) (x y : Wd) (c d : Bool) (w : Wh) : f__law_may [.sh (eRu r), .sh (pr (eWd x) (eWd y)), .sh (pr (.bl c) (.bl d)), .sh (eWh w), .sh .non] = some (.ok (.sh (.bl (may r x y c d w none))), [none, none, none, none, none]) := law_may_spec r x y c d w none
theorem law_comes_spec (r : Ru) (s : Sd) (w : Wh) (g : Option Bool) : f__law_comes [.sh (eRu r), .sh (eSd s), .sh (eWh w), .sh (eSg g)] = some (.ok (.sh (.tup [eSd (come r s w g).1, eTd (come r s w g).2])), [none, none, none, none]) := by
  rw [f__law_comes, mkFn_eq]
  simp_arith [ce0__law_comes, ce1__law_comes, tupB_sd, law_may_spec, ne_other, dep_eWh, Ix_ru4, eq_use, dep_eUse, eq_once, dep_eWd]
  unfold come
  cases s.th
  · rfl
  · cases may r s.l0 s.l1 s.k0 s.k1 w g
    · rfl
    · cases w == .o
      · rfl
      · cases r.use
        · rfl
        · cases s.s0 <;> cases s.s1 <;> cases s.l0 <;> cases s.l1 <;> rfl
theorem law_comes_N (r : Ru) (s : Sd) (w : Wh) : f__law_comes [.sh (eRu r), .sh (eSd s), .sh (eWh w), .sh .non] = some (.ok (.sh (.tup [eSd (come r s w none).1, eTd (come r s w none).2])), [none, none, none, none]) := law_comes_spec r s w none
theorem law_comes_P (r : Ru) (s : Sd) (p : Bool) : f__law_comes [.sh (eRu r), .sh (eSd s), .sh (.int 2), .sh (eP p)] = some (.ok (.sh (.tup [eSd (come r s .o (some p)).1, eTd (come r s .o (some p)).2])), [none, none, none, none]) := law_comes_spec r s .o (some p)
theorem law_on_spec (r : Ru) (s : Sd) (e : Ev) : f__law_on [.sh (eRu r), .sh (eSd s), .sh (eEv e)] = some (.ok (.sh (.tup [eSd (step r s e).1, eTd (step r s e).2])), [none, none, none]) := by
  cases e with
  | say p w =>
    rw [f__law_on, mkFn_eq]
    simp_arith [eEv, tupB_sd, said_spec, Ix_ru2, eq_now, dep_eNow]
    unfold step
    dsimp only
    cases r.lag <;> rfl
  | court p =>
    rw [f__law_on, mkFn_eq]
    cases p <;> (
      simp_arith [eEv, eP, tupB_sd, Ix_ru3, eq_now, dep_eNow, setAt_lst, Int.toNat_zero, Int.toNat_one]
      unfold step crt put
      dsimp only
      cases r.court <;> rfl)
  | clear p =>
    rw [f__law_on, mkFn_eq]
    cases p <;> (
      simp_arith [eEv, eP, tupB_sd, Ix_ru3, eq_now, dep_eNow, setAt_lst, Int.toNat_zero, Int.toNat_one]
      unfold step crt put
      dsimp only
      cases r.court <;> rfl)
  | come w =>
    rw [f__law_on, mkFn_eq]
    simp_arith [eEv, tupB_sd, law_comes_N, step]
  | paper p =>
    rw [f__law_on, mkFn_eq]
    simp_arith [eEv, tupB_sd, law_comes_P, step]
  | morning =>
    rw [f__law_on, mkFn_eq]
    simp_arith [eEv, tupB_sd, Ix_ru4, eq_day, dep_eUse, ce0__law_on, ce1__law_on, eq_once, dep_eWd, step]
    unfold morn
    cases r.use
    · simp only [Bool.not_false, if_true, Bool.false_eq_true, if_false]
      cases s.s0 <;> cases s.s1 <;> cases s.l0 <;> cases s.l1 <;> rfl
    · rfl
theorem law_rights_spec (r : Ru) (s : Sd) (g : Option Bool) : f__law_rights [.sh (eRu r), .sh (eSd s), .sh (eSg g)] = some (.ok (.ow (.lst [.bl (truly r s .a g), .bl (truly r s .b g), .bl (truly r s .o g)])), [none, none, none]) := by
  have ea := law_may_spec r s.s0 s.s1 s.c0 s.c1 .a g
  have eb := law_may_spec r s.s0 s.s1 s.c0 s.c1 .b g
  have eo := law_may_spec r s.s0 s.s1 s.c0 s.c1 .o g
  simp only [eWh] at ea eb eo
  rw [f__law_rights, mkFn_eq]
  simp_arith [ce0__law_rights, Ix_sd0, Ix_sd1, ea, eb, eo, truly]
theorem law_known_spec (r : Ru) (s : Sd) : f__law_known [.sh (eRu r), .sh (eSd s)] = some (.ok (.sh (.tup [.bl (lets r s .a), .bl (lets r s .b), .bl (lets r s .o)])), [none, none]) := by
  have ea := law_may_N r s.l0 s.l1 s.k0 s.k1 .a
  have eb := law_may_N r s.l0 s.l1 s.k0 s.k1 .b
  have eo := law_may_N r s.l0 s.l1 s.k0 s.k1 .o
  simp only [eWh] at ea eb eo
  rw [f__law_known, mkFn_eq]
  simp_arith [ce0__law_known, Ix_sd2, Ix_sd3, ea, eb, eo, lets]
theorem llaw_turn (r : Ru) (x : D) (s : Sd) (e : Ev) (ts : List D) (o5 : Option SB) (h5 : Nio o5) (lt : ts.length < 16777216) : fb0__law_led [some (.sh (eRu r)), some (.sh x), some (.sh (eSd s)), some (.ow (.lst ts)), some (.sh (eEv e)), o5] = some (.ok .nx, [some (.sh (eRu r)), some (.sh x), some (.sh (eSd (step r s e).1)), some (.ow (.lst (ts ++ [eTd (step r s e).2]))), some (.sh (eEv e)), some (.sh (eTd (step r s e).2))]) := by
  rw [K_id (m := fb0__law_led), fb0__law_led]
  simp_arith [putS_nio h5, law_on_spec, lt]
theorem llaw_go (r : Ru) (x : D) : ∀ (es : List Ev) (s : Sd) (ts : List D) (o4 o5 : Option SB), Nio o4 → Nio o5 → ts.length + es.length ≤ 10000 → ∃ o4' o5', forGo (.one 4) fb0__law_led (es.map eEv) [some (.sh (eRu r)), some (.sh x), some (.sh (eSd s)), some (.ow (.lst ts)), o4, o5] = some (.ok .nx, [some (.sh (eRu r)), some (.sh x), some (.sh (eSd (led r s es).1)), some (.ow (.lst (ts ++ (led r s es).2.map eTd))), o4', o5'])
  | [], s, ts, o4, o5, _, _, _ => ⟨o4, o5, by
    show some _ = _
    simp [led]⟩
  | e :: es, s, ts, o4, o5, h4, h5, hl => by
    rw [List.length_cons] at hl
    obtain ⟨o4', o5', ih⟩ := llaw_go r x es (step r s e).1 (ts ++ [eTd (step r s e).2]) (some (.sh (eEv e))) (some (.sh (eTd (step r s e).2))) nio_sh nio_sh (by rw [List.length_append]; simp; omega)
    refine ⟨o4', o5', ?_⟩
    rw [K_id (m := forGo _ _ _), List.map_cons]
    simp_arith [putS_nio h4, K_eq (llaw_turn r x s e ts o5 h5 (by omega)), K_eq ih, led, List.append_assoc]
theorem law_led_spec (r : Ru) (es : List Ev) (hl : es.length ≤ 10000) : f__law_led [.sh (eRu r), .sh (eRow es)] = some (.ok (.tp [.sh (eSd (led r sd0 es).1), .ow (.lst ((led r sd0 es).2.map eTd))]), [none, none]) := by
  obtain ⟨o4, o5, e⟩ := llaw_go r (eRow es) es sd0 [] none none nio_no nio_no (by simpa using hl)
  rw [f__law_led, mkFn_eq]
  rw [eRow] at e ⊢
  simp_arith [new_spec, K_eq e]
end CM
end WF

set_option Elab.async false
set_option linter.all false
set_option maxRecDepth 100000
set_option maxHeartbeats 2000000
/-! C8: the functions of steps.py. -/
namespace WF
namespace CM
local macro_rules | `(tactic| simp_arith [$ls,*]) => `(tactic| simp only [KO_some, KO_none, KO_ite, KE_some, KE_none, KE_ite, K_ret, K_stuck, K_lift, kId_eq, eId_eq, un1_some, op2_some, dat_sh, dat_ow, dat_pl, dat_tp, sbsD_nil, sbsD_cons, toD_sh, toD_ow, toD_io, toD_lst, toD_dic, at_zero, at_succ, kV_sh, kV_lst, kV_dic, K_mV, kP_sh, kP_ow, kP_io, K_mP, kM_sh, kM_ow, K_mMv, K_mK, kOp2_eq, kOp1_eq, K_mOp, kUn_eq, K_mUn, K_mNeg, isNB_eq, notNB_eq, K_mIsN, K_mNotN, lele_int, kLL3_eq, kLL2_eq, kLL1_eq, K_mLeLe, kTV_eq, K_tV, kTA_eq, K_tAnd, kTO_eq, K_tOr, kTN_eq, K_tNot, K_yes, kMA2_eq, kMA1_eq, K_mAnd, kMO2_eq, kMO1_eq, K_mOr, notB_bl, K_mNot, kIf_eq, K_mIf, boolV_bl, tru_bl, tru_non, tru_int, tru_str, tru_tup, tru_lst, K_mNil, kC2_eq, kC1_eq, K_mCons, keptO_nil, keptO_sh, keptO_ow, keptO_tp, tupO_eq, lstO_eq, kTup_eq, kLst_eq, K_mTup, K_mLst, fzO_eq, kFz_eq, K_mFz, lzip2_eq, kLZ2_eq, kLZ1_eq, K_mLZip, K_mDic0, dic1_eq, kD2_eq, kD1_eq, K_mDic1, elB_sh, elB_ow, ixO_sh, ixO_ow, ixO_pl, ixO_tp, kIx2_eq, kIx1_eq, K_mIx, slO_eq, kSl3_eq, kSl2_eq, kSl1_eq, K_mSl, intD_int, K_mEndN, kEnd_eq, K_mEndS, K_mRev, get3_eq, kG3_eq, kG2_eq, kG1_eq, K_mGet, txtB_str, kSp3_eq, kSp2_eq, kSp1_eq, K_mSplit, lent_nil, lent_sh1, lent_ow, lent_tp, lent_pl, nodup0, nodup1, nodup2, handL_nil, handL_cons, handB_sh, handB_lst, handB_dic, handB_tp, handB_pl, lendS_sh, lendS_ow, lendS_io, argsO_eq, backL_nil, backL_cons, backB_sh, backB_ow, backB_tp, backB_plN, backB_plS, putE_zero, putE_succ, put_ow, put_io, sput_sh, KF_ok, KF_exc, KF_none, KF_ite, KF_r, kArg_eq, kCall_eq, K_mCall, ioS_io, ioS_sh, ioS_ow, ioS_no, outs0, outs1, outs2, outs3, outs4, outs5, kFn_rt, kFn_nx, eFn_eq, mkFn_eq, rep0, repS, itO_eq, kIt_eq, K_items, dItems_tup, dItems_lst, rngD_int, kRg_eq, K_itRange, zipO_eq, kZ2_eq, kZ1_eq, K_itZip, enO_eq, kEn_eq, K_itEnum, zip2_tup, zip2_lst, zipD_cons, zipD_nil, zipD_nil2, enumD_tup, enumD_lst, putS_succ, putS_no, putS_sh, putS_ow, putTg_one, putTg_tup, putSs_nil, putSs_cons, slots_one, slots_tup, clr_nil, clr_cons, back_nil, back_cons, free_nil, free_cons, fr1_succ, fr1_no, fr1_sh, kCoE_eq, kCo_eq, K_mComp, K_comp0, kCo3_eq, kCo2_eq, kCo1_eq, kCo0_eq, K_comp1, K_sPass, K_sBreak, K_sCont, kSeq_nx, kSeq_rt, kSeq_bk, kSeq_ct, K_sSeq, kDrop_eq, K_sDrop, K_sIf, kNx_eq, ownO_sh, ownO_ow, ownO_tp, setO_eq, kSet_eq, K_sSet, ownOs_nil, ownOs_cons, putA_nil, putA_cons, parO_eq, kPar_eq, K_sPar, tupB_tp, tupB_sh, unpO_eq, kUnp_eq, K_sUnp, putOE_zero, putOE_succ, obj_ow, obj_io, hasO_zero, hasO_succ, xsO_eq, kXS3_eq, kXS2_eq, kXS1_eq, K_sIxSet, apO_eq, kNon_eq, kAp2_eq, kAp1_eq, K_mApp, kKy_eq, K_itKeys, keysOf_dic, strD_str, getO_eq, getS_dic, kGt3_eq, kGt2_eq, kGt1_eq, kGt0_eq, K_mGetN, addAt_lst, setAt_lst, setAt_dicS, setAt_dicT, kFor_eq, K_sFor, kFor2_nx, kFor2_ct, kFor2_bk, kFor2_rt, kFor1_eq, K_for0, K_for1, kWh2_nx, kWh2_ct, kWh2_bk, kWh2_rt, kWh1_eq, kRet_sh, kRet_ow, kRet_tp, K_sRet, tpO_eq, kTp_eq, K_mTp, sbBs_nil, sbBs_cons, sbB_sh, sbB_ow, K_sRaise, eTry_eq, K_sTry, K_tryGo0, K_tryGo1, Add_int, Add_tup, Add_lst, Add_str, Sub_int, Mul_int, Mul_lst, Fdiv_int, Mod_int, Lt_int, Le_int, Gt_int, Ge_int, Eq_eq, Ne_eq, In_tup, In_lst, Nin_tup, Nin_lst, mem_nil, mem_cons, Ix_tup, Ix_lst, atI_0, atI_1, atI_2, atI_3, atI_4, atI_5, atI_6, Len_tup, Len_lst, Len_dic, Ix_dic, In_dic, Nin_dic, Min_int, Len_str, Int_int, Int_bl, Tuple_lst, Tuple_tup, List_lst, List_tup, List_dic, bools_nil, bools_cons, All_lst, Any_lst, dep_non, dep_bl, dep_int, dep_str, dep_tupS, dep_lstS, deps_nil, deps_cons, isNon_non, isNon_int, isNon_tup, isNon_lst, isNon_str, isNon_bl, eqv_ss, eqv_ii, eqv_bb, eqv_nn, eqv_tt, eqv_ll, eqvs_nn, eqvs_nc, eqvs_cn, eqvs_cc, upto_1, upto_2, upto_3, upto_7, K_mAdd, K_mSub, K_mMul, K_mFdiv, K_mMod, K_mPow, K_mEq, K_mNe, K_mLt, K_mLe, K_mGt, K_mGe, K_mIn, K_mNin, K_mMin, K_mJoin, K_mIndex, K_mLen, K_mInt, K_mStr, K_mTuple, K_mList, K_mAll, K_mAny, K_mSorted, K_mDict, K_mIsA, IsA_tup, IsA_lst, IsA_str, IsA_int, IsA_bl, Mul_tup, txt_nc, txt_cn, IsA_non, isA, LIM, List.drop_zero, List.take_zero, List.drop_succ_cons, List.take_succ_cons, List.drop_nil, List.take_nil, Nat.sub_zero, reduceIte, ite_true, ite_false, Nat.reduceAdd, Nat.reduceMul, Nat.reduceSub, Nat.reduceLT, Nat.reduceLeDiff, Nat.reduceEqDiff, Nat.reduceBEq, Nat.reduceBNe, Nat.reducePow, Int.reduceAdd, Int.reduceMul, Int.reduceNeg, Int.reduceSub, Int.reduceLE, Int.reduceLT, Int.reduceEq, Int.reduceBEq, Int.reduceBNe, Int.reducePow, Int.reduceToNat, Int.reduceNe, Int.reduceMod, Int.reduceDiv, Int.cast_ofNat_Int, Int.ofNat_zero, Int.ofNat_one, List.cons_beq_cons, and_true, true_and, and_self, and_false, false_and, not_false_eq_true, not_true_eq_false, or_true, true_or, or_false, false_or, List.map_cons, List.map_nil, List.length_cons, List.length_nil, List.cons_append, List.nil_append, List.append_nil, List.set_cons_zero, List.set_cons_succ, Option.bind_some, Option.bind_none, Option.map_some, Option.map_none, List.head?_cons, if_true, Bool.and_true, Bool.true_and, Bool.and_false, Bool.false_and, Bool.or_true, Bool.true_or, Bool.or_false, Bool.false_or, Bool.not_true, Bool.not_false, Bool.not_not, Bool.and_self, Bool.or_self, decide_true, decide_false, decide_eq_true_eq, beq_self_eq_true, Bool.false_eq_true, List.all_cons, List.all_nil, List.any_cons, List.any_nil, id_eq, Nat.max_self, Nat.sub_self, Nat.zero_le, Bool.decide_eq_true, List.isEmpty_cons, List.isEmpty_nil, ite_self, Nat.max_zero, Nat.zero_max, $ls,*])
open M2
theorem need_rule_enc (r : Ru) : f_need_rule [.sh (eRu r)] = some (.ok (.sh .non), [none]) := by
  rw [f_need_rule, mkFn_eq]
  simp_arith [is_rule_enc]
theorem need_row_enc (es : List Ev) (h : es.length ≤ 60) : f_need_row [.sh (eRow es)] = some (.ok (.sh .non), [none]) := by
  have e := are_events_enc es (by omega)
  rw [decide_eq_true (by omega)] at e
  rw [f_need_row, mkFn_eq]
  simp_arith [e]
theorem first_stand_enc (r : Ru) : f_first_stand [.sh (eRu r)] = some (.ok (.sh (eSd sd0)), [none]) := by
  rw [f_first_stand, mkFn_eq]
  simp_arith [need_rule_enc, begin_spec]
theorem stand_behind_enc (r : Ru) (es : List Ev) (h : es.length ≤ 60) : f_stand_behind [.sh (eRu r), .sh (eRow es)] = some (.ok (.sh (eSd (led r sd0 es).1)), [none, none]) := by
  rw [f_stand_behind, mkFn_eq]
  simp_arith [need_rule_enc, need_row_enc es h, led_spec r es (by omega), elB_sh]
theorem told_enc (r : Ru) (es : List Ev) (h : es.length ≤ 60) : f_told [.sh (eRu r), .sh (eRow es)] = some (.ok (.ow (.lst ((led r sd0 es).2.map eTd))), [none, none]) := by
  rw [f_told, mkFn_eq]
  simp_arith [need_rule_enc, need_row_enc es h, led_spec r es (by omega), elB_ow]
theorem truly_N (r : Ru) (s : Sd) : f_truly_may [.sh (eRu r), .sh (eSd s), .sh .non] = some (.ok (.sh (.tup [.bl (truly r s .a none), .bl (truly r s .b none), .bl (truly r s .o none)])), [none, none, none]) := truly_spec r s none
theorem law_rights_N (r : Ru) (s : Sd) : f__law_rights [.sh (eRu r), .sh (eSd s), .sh .non] = some (.ok (.ow (.lst [.bl (truly r s .a none), .bl (truly r s .b none), .bl (truly r s .o none)])), [none, none, none]) := law_rights_spec r s none
def e3 (f : Wh → Bool) : D := .tup [.bl (f .a), .bl (f .b), .bl (f .o)]
theorem who_may_enc (r : Ru) (es : List Ev) (h : es.length ≤ 60) : f_who_may [.sh (eRu r), .sh (eRow es)] = some (.ok (.sh (.tup [e3 fun w => truly r (led r sd0 es).1 w none, e3 (lets r (led r sd0 es).1)])), [none, none]) := by
  rw [f_who_may, mkFn_eq]
  simp_arith [need_rule_enc, need_row_enc es h, led_spec r es (by omega), elB_sh, truly_N, lets_spec, e3]
theorem told_bad (r : Ru) (d : D) (h : f_are_events [.sh d] = some (.ok (.sh (.bl false)), [none])) : f_told [.sh (eRu r), .sh d] = some (.exc 2 none, [none, none]) := by
  have e : f_need_row [.sh d] = some (.exc 2 none, [none]) := by
    rw [f_need_row, mkFn_eq]
    simp_arith [h]
  rw [f_told, mkFn_eq]
  simp_arith [need_rule_enc, e]
end CM
end WF

set_option Elab.async false
set_option linter.all false
/-! WFM3: a search by levels: what it knows, what it finds. No mirror in sight. -/
namespace WF
namespace M2
theorem nodup_le {α : Type} [DecidableEq α] : ∀ {l m : List α}, l.Nodup → (∀ x ∈ l, x ∈ m) → l.length ≤ m.length
  | [], _, _, _ => Nat.zero_le _
  | x :: l, m, nd, h => by
    obtain ⟨n1, n2⟩ := List.nodup_cons.mp nd
    have hx := h x List.mem_cons_self
    have ih := nodup_le (m := m.erase x) n2 fun y my => (List.mem_erase_of_ne fun e => n1 (by rw [← e]; exact my)).mpr (h y (List.mem_cons_of_mem _ my))
    rw [List.length_erase_of_mem hx] at ih
    have : 0 < m.length := List.length_pos_of_mem hx
    rw [List.length_cons]; omega
section
variable {S E V : Type} [DecidableEq S]
def keysK (k : List (S × V)) : List S := k.map (·.1)
def look : List (S × V) → S → Option V
  | [], _ => none
  | p :: k, s => if p.1 = s then some p.2 else look k s
theorem keysK_app {k k' : List (S × V)} : keysK (k ++ k') = keysK k ++ keysK k' := List.map_append
theorem keysK_len {k : List (S × V)} : (keysK k).length = k.length := List.length_map _
theorem look_mem : ∀ {k : List (S × V)} {s : S}, (look k s).isSome = true ↔ s ∈ keysK k
  | [], s => by simp [look, keysK]
  | p :: k, s => by
    unfold look
    by_cases h : p.1 = s
    · rw [if_pos h]; simp [keysK, h]
    · rw [if_neg h, look_mem]
      show s ∈ keysK k ↔ s ∈ p.1 :: keysK k
      rw [List.mem_cons]
      exact ⟨.inr, fun q => q.elim (fun e => absurd e.symm h) id⟩
theorem look_app {k k' : List (S × V)} {s : S} : look (k ++ k') s = if s ∈ keysK k then look k s else look k' s := by
  induction k with
  | nil => simp [keysK]
  | cons p k ih =>
    show (if p.1 = s then some p.2 else look (k ++ k') s) = if s ∈ p.1 :: keysK k then (if p.1 = s then some p.2 else look k s) else look k' s
    by_cases h : p.1 = s
    · rw [if_pos h, if_pos (by rw [h]; exact List.mem_cons_self), if_pos h]
    · rw [if_neg h, if_neg h, ih]
      by_cases q : s ∈ keysK k
      · rw [if_pos q, if_pos (List.mem_cons_of_mem _ q)]
      · rw [if_neg q, if_neg (fun z => (List.mem_cons.mp z).elim (fun e => h e.symm) q)]
/-- all that was known is known -/
def Leq (k k' : List (S × V)) : Prop := ∀ s v, look k s = some v → look k' s = some v
theorem Leq.refl {k : List (S × V)} : Leq k k := fun _ _ h => h
theorem Leq.trans {k k' k'' : List (S × V)} (h : Leq k k') (h' : Leq k' k'') : Leq k k'' := fun s v e => h' s v (h s v e)
abbrev St2 (S V : Type) := List (S × V) × List S
def ins (v : V) (t : S) (st : St2 S V) : St2 S V := if t ∈ keysK st.1 then st else (st.1 ++ [(t, v)], st.2 ++ [t])
variable (hit : S → E → Bool) (nx : S → E → S) (mk : S → E → V)
/-- all events at a stand; a hit ends it -/
def inn (s : S) : List E → St2 S V → Option (S × E) × St2 S V
  | [], st => (none, st)
  | e :: es, st => if hit s e = true then (some (s, e), st) else inn s es (ins (mk s e) (nx s e) st)
def lvl (evs : List E) : List S → St2 S V → Option (S × E) × St2 S V
  | [], st => (none, st)
  | s :: ss, st => match inn hit nx mk s evs st with
    | (some h, st1) => (some h, st1)
    | (none, st1) => lvl evs ss st1
/-- what some events at some stands bring -/
structure Ext (k0 : List (S × V)) (st : St2 S V) (src : S → E → Prop) : Prop where
  keys : ∀ t, t ∈ keysK st.1 ↔ t ∈ keysK k0 ∨ ∃ s e, src s e ∧ t = nx s e
  lat : ∀ t, t ∈ st.2 ↔ t ∉ keysK k0 ∧ ∃ s e, src s e ∧ t = nx s e
  nd : (keysK st.1).Nodup
  sub : Leq k0 st.1
  len : st.1.length = k0.length + st.2.length
  par : ∀ t ∈ st.2, ∃ s e, src s e ∧ t = nx s e ∧ look st.1 t = some (mk s e)
variable {hit nx mk}
theorem Ext.init {k0 : List (S × V)} (h : (keysK k0).Nodup) : Ext nx mk k0 (k0, []) (fun _ _ => False) :=
  ⟨fun t => ⟨.inl, fun q => q.elim id fun ⟨_, _, f, _⟩ => f.elim⟩, fun t => ⟨fun q => (nomatch q), fun ⟨_, _, _, f, _⟩ => f.elim⟩, h, Leq.refl, rfl, fun t q => nomatch q⟩
theorem Ext.ins {k0 : List (S × V)} {st : St2 S V} {src : S → E → Prop} (h : Ext nx mk k0 st src) (s : S) (e : E) : Ext nx mk k0 (ins (mk s e) (nx s e) st) (fun s' e' => src s' e' ∨ s' = s ∧ e' = e) := by
  unfold M2.ins
  by_cases q : nx s e ∈ keysK st.1
  · rw [if_pos q]
    refine ⟨fun t => ⟨fun m => ((h.keys t).mp m).imp id fun ⟨a, b, c, d⟩ => ⟨a, b, .inl c, d⟩, fun m => ?_⟩, fun t => ⟨fun m => ⟨((h.lat t).mp m).1, let ⟨a, b, c, d⟩ := ((h.lat t).mp m).2; ⟨a, b, .inl c, d⟩⟩, fun ⟨m0, m⟩ => ?_⟩, h.nd, h.sub, h.len, fun t m => let ⟨a, b, c, d⟩ := h.par t m; ⟨a, b, .inl c, d⟩⟩
    · rcases m with m | ⟨a, b, c, d⟩
      · exact (h.keys t).mpr (.inl m)
      · rcases c with c | ⟨rfl, rfl⟩
        · exact (h.keys t).mpr (.inr ⟨a, b, c, d⟩)
        · rw [d]; exact q
    · obtain ⟨a, b, c, d⟩ := m
      rcases c with c | ⟨rfl, rfl⟩
      · exact (h.lat t).mpr ⟨m0, a, b, c, d⟩
      · rw [d] at m0 ⊢
        rcases (h.keys _).mp q with z | z
        · exact absurd z m0
        · exact (h.lat _).mpr ⟨m0, z⟩
  · rw [if_neg q]
    have n0 : nx s e ∉ keysK k0 := fun z => q ((h.keys _).mpr (.inl z))
    have le : Leq st.1 (st.1 ++ [(nx s e, mk s e)]) := fun t v z => by
      rw [look_app, if_pos (look_mem.mp (by rw [z]; rfl)), z]
    refine ⟨fun t => ?_, fun t => ?_, ?_, h.sub.trans le, ?_, fun t m => ?_⟩
    · show t ∈ keysK (st.1 ++ [(nx s e, mk s e)]) ↔ _
      rw [keysK_app, List.mem_append, h.keys t]
      constructor
      · rintro ((z | ⟨a, b, c, d⟩) | z)
        · exact .inl z
        · exact .inr ⟨a, b, .inl c, d⟩
        · exact .inr ⟨s, e, .inr ⟨rfl, rfl⟩, List.mem_singleton.mp z⟩
      · rintro (z | ⟨a, b, c | ⟨rfl, rfl⟩, d⟩)
        · exact .inl (.inl z)
        · exact .inl (.inr ⟨a, b, c, d⟩)
        · exact .inr (List.mem_singleton.mpr d)
    · show t ∈ st.2 ++ [nx s e] ↔ _
      rw [List.mem_append, h.lat t]
      constructor
      · rintro (⟨z, a, b, c, d⟩ | z)
        · exact ⟨z, a, b, .inl c, d⟩
        · have z := List.mem_singleton.mp z
          exact ⟨by rw [z]; exact n0, s, e, .inr ⟨rfl, rfl⟩, z⟩
      · rintro ⟨z, a, b, c | ⟨rfl, rfl⟩, d⟩
        · exact .inl ⟨z, a, b, c, d⟩
        · exact .inr (List.mem_singleton.mpr d)
    · show (keysK (st.1 ++ [(nx s e, mk s e)])).Nodup
      rw [keysK_app, List.nodup_append]
      exact ⟨h.nd, by simp [keysK], fun a ma b mb z => q (by have mb : b = nx s e := List.mem_singleton.mp mb; rw [← mb, ← z]; exact ma)⟩
    · show (st.1 ++ [(nx s e, mk s e)]).length = k0.length + (st.2 ++ [nx s e]).length
      rw [List.length_append, List.length_append, h.len]; exact Nat.add_assoc _ _ _
    · rcases List.mem_append.mp m with m | m
      · obtain ⟨a, b, c, d, f⟩ := h.par t m
        exact ⟨a, b, .inl c, d, le _ _ f⟩
      · have z := List.mem_singleton.mp m
        refine ⟨s, e, .inr ⟨rfl, rfl⟩, z, ?_⟩
        show look (st.1 ++ [(nx s e, mk s e)]) t = _
        rw [look_app, z, if_neg q]
        simp [look]
theorem Ext.imp {k0 : List (S × V)} {st : St2 S V} {src src' : S → E → Prop} (h : Ext nx mk k0 st src) (i : ∀ s e, src s e ↔ src' s e) : Ext nx mk k0 st src' := by
  have : src = src' := funext fun s => funext fun e => propext (i s e)
  rw [← this]; exact h
theorem inn_ok {k0 : List (S × V)} (s : S) : ∀ (es : List E) {st : St2 S V} {src : S → E → Prop}, Ext nx mk k0 st src →
    (∀ st', inn hit nx mk s es st = (none, st') → Ext nx mk k0 st' (fun s' e' => src s' e' ∨ s' = s ∧ e' ∈ es) ∧ ∀ e ∈ es, hit s e = false) ∧
    ∀ h st', inn hit nx mk s es st = (some h, st') → h.1 = s ∧ h.2 ∈ es ∧ hit s h.2 = true ∧ Leq k0 st'.1 ∧ Leq st.1 st'.1
  | [], st, src, x => ⟨fun st' e => by
      cases e
      exact ⟨x.imp fun s' e' => ⟨.inl, fun q => q.elim id fun z => nomatch z.2⟩, fun e m => nomatch m⟩, fun h st' e => by cases e⟩
  | e :: es, st, src, x => by
    unfold inn
    by_cases q : hit s e = true
    · rw [if_pos q]
      exact ⟨fun st' z => (nomatch z), fun h st' z => by cases z; exact ⟨rfl, List.mem_cons_self, q, x.sub, Leq.refl⟩⟩
    · rw [if_neg q]
      have le : Leq st.1 (M2.ins (mk s e) (nx s e) st).1 := by
        unfold M2.ins
        split
        · exact Leq.refl
        · exact fun t v z => by
            show look (st.1 ++ _) t = _
            rw [look_app, if_pos (look_mem.mp (by rw [z]; rfl)), z]
      obtain ⟨h1, h2⟩ := inn_ok s es (x.ins s e)
      refine ⟨fun st' z => ?_, fun h st' z => ?_⟩
      · obtain ⟨a, b⟩ := h1 st' z
        refine ⟨a.imp fun s' e' => ?_, fun e' m => ?_⟩
        · constructor
          · rintro ((z | ⟨rfl, rfl⟩) | ⟨rfl, m⟩)
            · exact .inl z
            · exact .inr ⟨rfl, List.mem_cons_self⟩
            · exact .inr ⟨rfl, List.mem_cons_of_mem _ m⟩
          · rintro (z | ⟨rfl, m⟩)
            · exact .inl (.inl z)
            · rcases List.mem_cons.mp m with rfl | m
              · exact .inl (.inr ⟨rfl, rfl⟩)
              · exact .inr ⟨rfl, m⟩
        · rcases List.mem_cons.mp m with rfl | m
          · exact Bool.eq_false_iff.mpr q
          · exact b e' m
      · obtain ⟨a, b, c, d, f⟩ := h2 h st' z
        exact ⟨a, List.mem_cons_of_mem _ b, c, d, le.trans f⟩
theorem lvl_ok {k0 : List (S × V)} {evs : List E} : ∀ (ss : List S) {st : St2 S V} {src : S → E → Prop}, Ext nx mk k0 st src →
    (∀ st', lvl hit nx mk evs ss st = (none, st') → Ext nx mk k0 st' (fun s' e' => src s' e' ∨ s' ∈ ss ∧ e' ∈ evs) ∧ ∀ s ∈ ss, ∀ e ∈ evs, hit s e = false) ∧
    ∀ h st', lvl hit nx mk evs ss st = (some h, st') → h.1 ∈ ss ∧ h.2 ∈ evs ∧ hit h.1 h.2 = true ∧ Leq k0 st'.1
  | [], st, src, x => ⟨fun st' e => by
      cases e
      exact ⟨x.imp fun s' e' => ⟨.inl, fun q => q.elim id fun z => nomatch z.1⟩, fun e m => nomatch m⟩, fun h st' e => by cases e⟩
  | s :: ss, st, src, x => by
    obtain ⟨h1, h2⟩ := inn_ok (hit := hit) s evs x
    unfold lvl
    cases hi : inn hit nx mk s evs st with
    | mk o st1 =>
      cases o with
      | some h =>
        obtain ⟨a, b, c, d, _⟩ := h2 h st1 hi
        refine ⟨fun st' z => (nomatch z), fun h' st' z => ?_⟩
        cases z
        exact ⟨by rw [a]; exact List.mem_cons_self, b, by rw [a]; exact c, d⟩
      | none =>
        obtain ⟨x1, b⟩ := h1 st1 hi
        obtain ⟨g1, g2⟩ := lvl_ok ss x1
        refine ⟨fun st' z => ?_, fun h' st' z => ?_⟩
        · obtain ⟨c, d⟩ := g1 st' z
          refine ⟨c.imp fun s' e' => ?_, fun s' m => ?_⟩
          · constructor
            · rintro ((z | ⟨rfl, m⟩) | ⟨m, m'⟩)
              · exact .inl z
              · exact .inr ⟨List.mem_cons_self, m⟩
              · exact .inr ⟨List.mem_cons_of_mem _ m, m'⟩
            · rintro (z | ⟨m, m'⟩)
              · exact .inl (.inl z)
              · rcases List.mem_cons.mp m with rfl | m
                · exact .inl (.inr ⟨rfl, m'⟩)
                · exact .inr ⟨m, m'⟩
          · rcases List.mem_cons.mp m with rfl | m
            · exact b
            · exact d s' m
        · obtain ⟨c, d, e, f⟩ := g2 h' st' z
          exact ⟨List.mem_cons_of_mem _ c, d, e, f⟩
end
section
variable {S E V : Type} [DecidableEq S]
/-- reached by so many events -/
inductive Rch (nx : S → E → S) (evs : List E) (s0 : S) : Nat → S → Prop
  | zero : Rch nx evs s0 0 s0
  | succ {n : Nat} {s : S} {e : E} : Rch nx evs s0 n s → e ∈ evs → Rch nx evs s0 (n + 1) (nx s e)
variable (hit : S → E → Bool) (nx : S → E → S) (mk : Nat → S → E → V) (evs : List E) (s0 : S) (G : List (S × V) → Nat → S → Prop)
/-- what is known behind n levels -/
structure LV (n : Nat) (k : List (S × V)) (ln : List S) : Prop where
  nd : (keysK k).Nodup
  keys : ∀ t, t ∈ keysK k ↔ ∃ m, m ≤ n ∧ Rch nx evs s0 m t
  line : ∀ t, t ∈ ln ↔ Rch nx evs s0 n t ∧ ∀ m, m < n → ¬ Rch nx evs s0 m t
  len : n + ln.length ≤ k.length
  g : ∀ t ∈ ln, G k n t
/-- levels, one after another -/
def bfs : Nat → Nat → List (S × V) → List S → Option (S × E) × List (S × V)
  | 0, _, k, _ => (none, k)
  | f + 1, n, k, line => if line = [] then (none, k) else match lvl hit nx (mk n) evs line (k, []) with
    | (some h, st) => (some h, st.1)
    | (none, st) => bfs f (n + 1) st.1 st.2
variable {hit nx mk evs s0 G}
/-- what G must keep -/
structure GOk (nx : S → E → S) (mk : Nat → S → E → V) (evs : List E) (G : List (S × V) → Nat → S → Prop) : Prop where
  mono : ∀ {k k' n s}, Leq k k' → G k n s → G k' n s
  next : ∀ {k n s e}, G k n s → e ∈ evs → look k (nx s e) = some (mk n s e) → G k (n + 1) (nx s e)
theorem LV.next (gk : GOk nx mk evs G) {n : Nat} {k : List (S × V)} {line : List S} {st : St2 S V} (h : LV nx evs s0 G n k line) (h0 : line ≠ []) (x : Ext nx (mk n) k st (fun s e => s ∈ line ∧ e ∈ evs)) : LV nx evs s0 G (n + 1) st.1 st.2 := by
  have up : ∀ t, Rch nx evs s0 (n + 1) t → t ∈ keysK k ∨ ∃ s e, (s ∈ line ∧ e ∈ evs) ∧ t = nx s e := fun t r => by
    cases r with
    | @succ _ s e r me =>
      by_cases hs : s ∈ line
      · exact .inr ⟨s, e, ⟨hs, me⟩, rfl⟩
      · refine .inl ((h.keys _).mpr ?_)
        have : ¬ ∀ m, m < n → ¬ Rch nx evs s0 m s := fun q => hs ((h.line s).mpr ⟨r, q⟩)
        obtain ⟨m, q⟩ := Classical.not_forall.mp this
        obtain ⟨hm, q⟩ := Classical.not_imp.mp q
        exact ⟨m + 1, hm, .succ (Classical.not_not.mp q) me⟩
  have dn : ∀ t, (∃ s e, (s ∈ line ∧ e ∈ evs) ∧ t = nx s e) → Rch nx evs s0 (n + 1) t := fun t ⟨s, e, ⟨a, b⟩, c⟩ => by
    rw [c]; exact .succ ((h.line s).mp a).1 b
  refine ⟨x.nd, fun t => ?_, fun t => ?_, ?_, fun t m => ?_⟩
  · rw [x.keys t, h.keys t]
    constructor
    · rintro (⟨m, a, b⟩ | z)
      · exact ⟨m, by omega, b⟩
      · exact ⟨n + 1, Nat.le_refl _, dn t z⟩
    · rintro ⟨m, a, b⟩
      by_cases hm : m ≤ n
      · exact .inl ⟨m, hm, b⟩
      · have : m = n + 1 := by omega
        subst this
        rcases up t b with z | z
        · exact .inl ((h.keys t).mp z)
        · exact .inr z
  · rw [x.lat t]
    constructor
    · rintro ⟨a, b⟩
      exact ⟨dn t b, fun m hm r => a ((h.keys t).mpr ⟨m, by omega, r⟩)⟩
    · rintro ⟨a, b⟩
      have n0 : t ∉ keysK k := fun z => by
        obtain ⟨m, hm, r⟩ := (h.keys t).mp z
        exact b m (by omega) r
      exact ⟨n0, (up t a).resolve_left n0⟩
  · have l1 := h.len
    have l2 := x.len
    have : 0 < line.length := List.length_pos_iff.mpr h0
    omega
  · obtain ⟨s, e, ⟨a, b⟩, c, d⟩ := x.par t m
    subst c
    exact gk.next (gk.mono x.sub (h.g s a)) b d
theorem LV.first {v : V} (hg : G [(s0, v)] 0 s0) : LV nx evs s0 G 0 [(s0, v)] [s0] :=
  ⟨by simp [keysK], fun t => ⟨fun m => ⟨0, Nat.le_refl _, by rw [List.mem_singleton.mp m]; exact .zero⟩, fun ⟨m, hm, r⟩ => by
    have : m = 0 := by omega
    subst this
    cases r
    exact List.mem_cons_self⟩, fun t => ⟨fun m => by rw [List.mem_singleton.mp m]; exact ⟨.zero, fun m hm => absurd hm (by omega)⟩, fun ⟨r, _⟩ => by cases r; exact List.mem_cons_self⟩, by simp, fun t m => by rw [List.mem_singleton.mp m]; exact hg⟩
theorem LV.small {B n : Nat} {k : List (S × V)} {line : List S} (hB : ∀ l : List S, l.Nodup → (∀ s ∈ l, ∃ n, Rch nx evs s0 n s) → l.length ≤ B) (h : LV nx evs s0 G n k line) : k.length ≤ B := by
  rw [← keysK_len]
  exact hB _ h.nd fun s m => let ⟨n, _, r⟩ := (h.keys s).mp m; ⟨n, r⟩
/-- no level left: all is known -/
theorem LV.done {n : Nat} {k : List (S × V)} (h : LV nx evs s0 G n k []) : ∀ t, t ∈ keysK k ↔ ∃ m, Rch nx evs s0 m t := fun t => by
  rw [h.keys t]
  constructor
  · rintro ⟨m, _, r⟩; exact ⟨m, r⟩
  · have all : ∀ m t, Rch nx evs s0 m t → ∃ m', m' ≤ n ∧ Rch nx evs s0 m' t := by
      intro m
      induction m with
      | zero => exact fun t r => ⟨0, Nat.zero_le _, r⟩
      | succ m ih =>
        intro t r
        cases r with
        | @succ _ s e r me =>
          obtain ⟨m', hm, r'⟩ := ih s r
          by_cases hn : m' < n
          · exact ⟨m' + 1, hn, .succ r' me⟩
          · have : m' = n := by omega
            subst this
            have : ¬ ∀ j, j < m' → ¬ Rch nx evs s0 j s := fun q => nomatch (h.line s).mpr ⟨r', q⟩
            obtain ⟨j, q⟩ := Classical.not_forall.mp this
            obtain ⟨hj, q⟩ := Classical.not_imp.mp q
            exact ⟨j + 1, by omega, .succ (Classical.not_not.mp q) me⟩
    rintro ⟨m, r⟩
    exact all m t r
/-- what a search finds -/
def Found (hit : S → E → Bool) (nx : S → E → S) (evs : List E) (s0 : S) (G : List (S × V) → Nat → S → Prop) : Option (S × E) × List (S × V) → Prop
  | (none, k) => (keysK k).Nodup ∧ (∀ t, t ∈ keysK k ↔ ∃ m, Rch nx evs s0 m t) ∧ ∀ m s, Rch nx evs s0 m s → ∀ e ∈ evs, hit s e = false
  | (some (s, e), k) => ∃ n, Rch nx evs s0 n s ∧ e ∈ evs ∧ hit s e = true ∧ G k n s ∧ ∀ m, m < n → ∀ s, Rch nx evs s0 m s → ∀ e ∈ evs, hit s e = false
theorem bfs_ok (gk : GOk nx mk evs G) {B : Nat} (hB : ∀ l : List S, l.Nodup → (∀ s ∈ l, ∃ n, Rch nx evs s0 n s) → l.length ≤ B) : ∀ (f n : Nat) (k : List (S × V)) (line : List S), B < f + n → LV nx evs s0 G n k line →
    (∀ m, m < n → ∀ s, Rch nx evs s0 m s → ∀ e ∈ evs, hit s e = false) → Found hit nx evs s0 G (bfs hit nx mk evs f n k line)
  | 0, n, k, line, hf, h, nh => absurd (h.small hB) (by have := h.len; omega)
  | f + 1, n, k, line, hf, h, nh => by
    unfold bfs
    by_cases h0 : line = []
    · subst h0
      rw [if_pos rfl]
      refine ⟨h.nd, h.done, fun m s r e me => ?_⟩
      obtain ⟨m', hm, r'⟩ := (h.keys s).mp ((h.done s).mpr ⟨m, r⟩)
      by_cases q : m' < n
      · exact nh m' q s r' e me
      · have : m' = n := by omega
        subst this
        have : ¬ ∀ j, j < m' → ¬ Rch nx evs s0 j s := fun q => nomatch (h.line s).mpr ⟨r', q⟩
        obtain ⟨j, q⟩ := Classical.not_forall.mp this
        obtain ⟨hj, q⟩ := Classical.not_imp.mp q
        exact nh j hj s (Classical.not_not.mp q) e me
    · rw [if_neg h0]
      obtain ⟨g1, g2⟩ := lvl_ok (hit := hit) (evs := evs) line (Ext.init (nx := nx) (mk := mk n) (k0 := k) h.nd)
      cases hl : lvl hit nx (mk n) evs line (k, []) with
      | mk o st =>
        cases o with
        | some h' =>
          obtain ⟨a, b, c, d⟩ := g2 h' st hl
          exact ⟨n, ((h.line _).mp a).1, b, c, gk.mono d (h.g _ a), nh⟩
        | none =>
          obtain ⟨x, c⟩ := g1 st hl
          have x := x.imp (src' := fun s e => s ∈ line ∧ e ∈ evs) fun s e => ⟨fun q => q.elim False.elim id, .inr⟩
          refine bfs_ok gk hB f (n + 1) st.1 st.2 (by omega) (h.next gk h0 x) fun m hm s r e me => ?_
          by_cases q : m < n
          · exact nh m q s r e me
          · have : m = n := by omega
            subst this
            by_cases z : ∀ j, j < m → ¬ Rch nx evs s0 j s
            · exact c s ((h.line s).mpr ⟨r, z⟩) e me
            · obtain ⟨j, q⟩ := Classical.not_forall.mp z
              obtain ⟨hj, q⟩ := Classical.not_imp.mp q
              exact nh j hj s (Classical.not_not.mp q) e me
end
end M2
end WF

set_option Elab.async false
set_option linter.all false
set_option maxRecDepth 100000
set_option maxHeartbeats 1000000
/-! C9: dicts with encoded keys; harms of an event. -/
namespace WF
namespace M2
inductive Hm | kept | nobody | two | wrong
deriving DecidableEq, Repr
def harmW (mine any : Bool) : Td → Option Hm
  | .handed => if mine then none else some .wrong
  | .gone => if mine then some .two else none
  | _ => if mine then some .kept else if any then none else some .nobody
def harmOf (r : Ru) (s : Sd) : Ev → Option Hm
  | .come w => harmW (truly r s w none) (truly r s .a none || (truly r s .b none || truly r s .o none)) (come r s w none).2
  | .paper p => harmW (truly r s .o (some p)) (truly r s .a none || (truly r s .b none || truly r s .o (some p))) (come r s .o (some p)).2
  | _ => none
end M2
namespace CM
local macro_rules | `(tactic| simp_arith [$ls,*]) => `(tactic| simp only [KO_some, KO_none, KO_ite, KE_some, KE_none, KE_ite, K_ret, K_stuck, K_lift, kId_eq, eId_eq, un1_some, op2_some, dat_sh, dat_ow, dat_pl, dat_tp, sbsD_nil, sbsD_cons, toD_sh, toD_ow, toD_io, toD_lst, toD_dic, at_zero, at_succ, kV_sh, kV_lst, kV_dic, K_mV, kP_sh, kP_ow, kP_io, K_mP, kM_sh, kM_ow, K_mMv, K_mK, kOp2_eq, kOp1_eq, K_mOp, kUn_eq, K_mUn, K_mNeg, isNB_eq, notNB_eq, K_mIsN, K_mNotN, lele_int, kLL3_eq, kLL2_eq, kLL1_eq, K_mLeLe, kTV_eq, K_tV, kTA_eq, K_tAnd, kTO_eq, K_tOr, kTN_eq, K_tNot, K_yes, kMA2_eq, kMA1_eq, K_mAnd, kMO2_eq, kMO1_eq, K_mOr, notB_bl, K_mNot, kIf_eq, K_mIf, boolV_bl, tru_bl, tru_non, tru_int, tru_str, tru_tup, tru_lst, K_mNil, kC2_eq, kC1_eq, K_mCons, keptO_nil, keptO_sh, keptO_ow, keptO_tp, tupO_eq, lstO_eq, kTup_eq, kLst_eq, K_mTup, K_mLst, fzO_eq, kFz_eq, K_mFz, lzip2_eq, kLZ2_eq, kLZ1_eq, K_mLZip, K_mDic0, dic1_eq, kD2_eq, kD1_eq, K_mDic1, elB_sh, elB_ow, ixO_sh, ixO_ow, ixO_pl, ixO_tp, kIx2_eq, kIx1_eq, K_mIx, slO_eq, kSl3_eq, kSl2_eq, kSl1_eq, K_mSl, intD_int, K_mEndN, kEnd_eq, K_mEndS, K_mRev, get3_eq, kG3_eq, kG2_eq, kG1_eq, K_mGet, txtB_str, kSp3_eq, kSp2_eq, kSp1_eq, K_mSplit, lent_nil, lent_sh1, lent_ow, lent_tp, lent_pl, nodup0, nodup1, nodup2, handL_nil, handL_cons, handB_sh, handB_lst, handB_dic, handB_tp, handB_pl, lendS_sh, lendS_ow, lendS_io, argsO_eq, backL_nil, backL_cons, backB_sh, backB_ow, backB_tp, backB_plN, backB_plS, putE_zero, putE_succ, put_ow, put_io, sput_sh, KF_ok, KF_exc, KF_none, KF_ite, KF_r, kArg_eq, kCall_eq, K_mCall, ioS_io, ioS_sh, ioS_ow, ioS_no, outs0, outs1, outs2, outs3, outs4, outs5, kFn_rt, kFn_nx, eFn_eq, mkFn_eq, rep0, repS, itO_eq, kIt_eq, K_items, dItems_tup, dItems_lst, rngD_int, kRg_eq, K_itRange, zipO_eq, kZ2_eq, kZ1_eq, K_itZip, enO_eq, kEn_eq, K_itEnum, zip2_tup, zip2_lst, zipD_cons, zipD_nil, zipD_nil2, enumD_tup, enumD_lst, putS_succ, putS_no, putS_sh, putS_ow, putTg_one, putTg_tup, putSs_nil, putSs_cons, slots_one, slots_tup, clr_nil, clr_cons, back_nil, back_cons, free_nil, free_cons, fr1_succ, fr1_no, fr1_sh, kCoE_eq, kCo_eq, K_mComp, K_comp0, kCo3_eq, kCo2_eq, kCo1_eq, kCo0_eq, K_comp1, K_sPass, K_sBreak, K_sCont, kSeq_nx, kSeq_rt, kSeq_bk, kSeq_ct, K_sSeq, kDrop_eq, K_sDrop, K_sIf, kNx_eq, ownO_sh, ownO_ow, ownO_tp, setO_eq, kSet_eq, K_sSet, ownOs_nil, ownOs_cons, putA_nil, putA_cons, parO_eq, kPar_eq, K_sPar, tupB_tp, tupB_sh, unpO_eq, kUnp_eq, K_sUnp, putOE_zero, putOE_succ, obj_ow, obj_io, hasO_zero, hasO_succ, xsO_eq, kXS3_eq, kXS2_eq, kXS1_eq, K_sIxSet, apO_eq, kNon_eq, kAp2_eq, kAp1_eq, K_mApp, kKy_eq, K_itKeys, keysOf_dic, strD_str, getO_eq, getS_dic, kGt3_eq, kGt2_eq, kGt1_eq, kGt0_eq, K_mGetN, addAt_lst, setAt_lst, setAt_dicS, setAt_dicT, kFor_eq, K_sFor, kFor2_nx, kFor2_ct, kFor2_bk, kFor2_rt, kFor1_eq, K_for0, K_for1, kWh2_nx, kWh2_ct, kWh2_bk, kWh2_rt, kWh1_eq, kRet_sh, kRet_ow, kRet_tp, K_sRet, tpO_eq, kTp_eq, K_mTp, sbBs_nil, sbBs_cons, sbB_sh, sbB_ow, K_sRaise, eTry_eq, K_sTry, K_tryGo0, K_tryGo1, Add_int, Add_tup, Add_lst, Add_str, Sub_int, Mul_int, Mul_lst, Fdiv_int, Mod_int, Lt_int, Le_int, Gt_int, Ge_int, Eq_eq, Ne_eq, In_tup, In_lst, Nin_tup, Nin_lst, mem_nil, mem_cons, Ix_tup, Ix_lst, atI_0, atI_1, atI_2, atI_3, atI_4, atI_5, atI_6, Len_tup, Len_lst, Len_dic, Ix_dic, In_dic, Nin_dic, Min_int, Len_str, Int_int, Int_bl, Tuple_lst, Tuple_tup, List_lst, List_tup, List_dic, bools_nil, bools_cons, All_lst, Any_lst, dep_non, dep_bl, dep_int, dep_str, dep_tupS, dep_lstS, deps_nil, deps_cons, isNon_non, isNon_int, isNon_tup, isNon_lst, isNon_str, isNon_bl, eqv_ss, eqv_ii, eqv_bb, eqv_nn, eqv_tt, eqv_ll, eqvs_nn, eqvs_nc, eqvs_cn, eqvs_cc, upto_1, upto_2, upto_3, upto_7, K_mAdd, K_mSub, K_mMul, K_mFdiv, K_mMod, K_mPow, K_mEq, K_mNe, K_mLt, K_mLe, K_mGt, K_mGe, K_mIn, K_mNin, K_mMin, K_mJoin, K_mIndex, K_mLen, K_mInt, K_mStr, K_mTuple, K_mList, K_mAll, K_mAny, K_mSorted, K_mDict, K_mIsA, IsA_tup, IsA_lst, IsA_str, IsA_int, IsA_bl, Mul_tup, txt_nc, txt_cn, IsA_non, isA, LIM, List.drop_zero, List.take_zero, List.drop_succ_cons, List.take_succ_cons, List.drop_nil, List.take_nil, Nat.sub_zero, reduceIte, ite_true, ite_false, Nat.reduceAdd, Nat.reduceMul, Nat.reduceSub, Nat.reduceLT, Nat.reduceLeDiff, Nat.reduceEqDiff, Nat.reduceBEq, Nat.reduceBNe, Nat.reducePow, Int.reduceAdd, Int.reduceMul, Int.reduceNeg, Int.reduceSub, Int.reduceLE, Int.reduceLT, Int.reduceEq, Int.reduceBEq, Int.reduceBNe, Int.reducePow, Int.reduceToNat, Int.reduceNe, Int.reduceMod, Int.reduceDiv, Int.cast_ofNat_Int, Int.ofNat_zero, Int.ofNat_one, List.cons_beq_cons, and_true, true_and, and_self, and_false, false_and, not_false_eq_true, not_true_eq_false, or_true, true_or, or_false, false_or, List.map_cons, List.map_nil, List.length_cons, List.length_nil, List.cons_append, List.nil_append, List.append_nil, List.set_cons_zero, List.set_cons_succ, Option.bind_some, Option.bind_none, Option.map_some, Option.map_none, List.head?_cons, if_true, Bool.and_true, Bool.true_and, Bool.and_false, Bool.false_and, Bool.or_true, Bool.true_or, Bool.or_false, Bool.false_or, Bool.not_true, Bool.not_false, Bool.not_not, Bool.and_self, Bool.or_self, decide_true, decide_false, decide_eq_true_eq, beq_self_eq_true, Bool.false_eq_true, List.all_cons, List.all_nil, List.any_cons, List.any_nil, id_eq, Nat.max_self, Nat.sub_self, Nat.zero_le, Bool.decide_eq_true, List.isEmpty_cons, List.isEmpty_nil, ite_self, Nat.max_zero, Nat.zero_max, $ls,*])
open M2
def eHm : Hm → D | .kept => .str t_kept | .nobody => .str t_nobody | .two => .str t_two | .wrong => .str t_wrong
def eHl : Option Hm → List D | none => [] | some h => [eHm h]
theorem eqv_Wd (a b : Wd) : D.eqv (eWd a) (eWd b) = decide (a = b) := by cases a <;> cases b <;> rfl
theorem eqv_Sd (s t : Sd) : D.eqv (eSd s) (eSd t) = decide (s = t) := by
  obtain ⟨a, b, c, d, e, f, g, h, i⟩ := s
  obtain ⟨a', b', c', d', e', f', g', h', i'⟩ := t
  rw [Bool.eq_iff_iff]
  simp [eSd, eqv_tt, eqvs_cc, eqvs_nn, eqv_Wd, eqv_bb, and_assoc]
theorem key_Wd (a : Wd) : D.key (eWd a) = true := by cases a <;> rfl
theorem keyOf_Sd (s : Sd) : keyOf true (eSd s) = true := by
  show (D.keys [pr (eWd s.s0) (eWd s.s1), pr (.bl s.c0) (.bl s.c1), pr (eWd s.l0) (eWd s.l1), pr (.bl s.k0) (.bl s.k1), .bl s.th] && decide (D.dep (eSd s) ≤ 8)) = true
  rw [dep_eSd]
  simp [D.keys, D.key, key_Wd]
theorem keyT_Sd (s : Sd) : keyT (eSd s) = true := keyOf_Sd s
section
variable {S V : Type} [DecidableEq S] (g : S → D) (f : V → D)
def eKn (k : List (S × V)) : List (D × D) := k.map fun p => (g p.1, f p.2)
variable {g f}
theorem lookD_cons {p : D × D} {kvs : List (D × D)} {q : D} : lookD (p :: kvs) q = if D.eqv p.1 q = true then some p.2 else lookD kvs q := by
  unfold lookD
  rw [List.find?_cons]
  cases D.eqv p.1 q <;> rfl
theorem look_enc (hg : ∀ s t, D.eqv (g s) (g t) = decide (s = t)) (s : S) : ∀ k : List (S × V), lookD (eKn g f k) (g s) = (look k s).map f
  | [] => rfl
  | p :: k => by
    show lookD ((g p.1, f p.2) :: eKn g f k) (g s) = (look (p :: k) s).map f
    rw [lookD_cons, hg]
    unfold look
    by_cases h : p.1 = s
    · simp [h]
    · simp [h, look_enc hg s k]
theorem put_enc (hg : ∀ s t, D.eqv (g s) (g t) = decide (s = t)) {s : S} {v : V} {k : List (S × V)} (h : s ∉ keysK k) : putD (eKn g f k) (g s) (f v) = eKn g f (k ++ [(s, v)]) := by
  unfold putD
  rw [look_enc hg s k]
  have : look k s = none := by
    cases e : look k s with
    | none => rfl
    | some v => exact absurd (look_mem.mp (by rw [e]; rfl)) h
  rw [this]
  simp [eKn]
theorem look_isSome (hg : ∀ s t, D.eqv (g s) (g t) = decide (s = t)) (s : S) (k : List (S × V)) : (lookD (eKn g f k) (g s)).isSome = decide (s ∈ keysK k) := by
  rw [look_enc hg, Option.isSome_map, Bool.eq_iff_iff, look_mem]
  simp
theorem eKn_len {k : List (S × V)} : (eKn g f k).length = k.length := List.length_map _
theorem eKn_keys {k : List (S × V)} : (eKn g f k).map (·.1) = (keysK k).map g := by simp [eKn, keysK]
end
/-! ### harms -/
theorem eqv_td1 {t : Td} : D.eqv (eTd t) (.str t_handed) = (t == .handed) := by cases t <;> rfl
theorem eqv_td2 {t : Td} : D.eqv (eTd t) (.str t_gone) = (t == .gone) := by cases t <;> rfl
theorem eqv_td3 {t : Td} : D.eqv (eTd t) (.str t_refused) = (t == .refused) := by cases t <;> rfl
def bl1 (x : D) (b : Bool) : List D := if b then [x] else []
theorem Mul1 {x : D} {b : Bool} : iMul (.lst [x]) (.int (if b = true then 1 else 0)) = some (.ow (.lst (bl1 x b))) := by cases b <;> rfl
theorem Add2 {x y : D} {b c : Bool} : iAdd (.lst (bl1 x b)) (.lst (bl1 y c)) = some (.ow (.lst (bl1 x b ++ bl1 y c))) := by cases b <;> cases c <;> rfl
theorem Add3 {x y z : D} {b c d : Bool} : iAdd (.lst (bl1 x b ++ bl1 y c)) (.lst (bl1 z d)) = some (.ow (.lst (bl1 x b ++ bl1 y c ++ bl1 z d))) := by cases b <;> cases c <;> cases d <;> rfl
theorem Add4 {x y z u : D} {b c d e : Bool} : iAdd (.lst (bl1 x b ++ bl1 y c ++ bl1 z d)) (.lst (bl1 u e)) = some (.ow (.lst (bl1 x b ++ bl1 y c ++ bl1 z d ++ bl1 u e))) := by cases b <;> cases c <;> cases d <;> cases e <;> rfl
theorem harms_of_spec (r : Ru) (s : Sd) (e : Ev) : f_harms_of [.sh (eRu r), .sh (eSd s), .sh (eEv e), .sh (eTd (step r s e).2)] = some (.ok (.ow (.lst (eHl (harmOf r s e)))), [none, none, none, none]) := by
  rw [f_harms_of, mkFn_eq]
  cases e with
  | come w =>
    simp_arith [-Mul_lst, eEv, truly_N, eqv_td1, eqv_td2, c_OTHER, step, harmOf, dep_eTd, Mul1]
    generalize (come r s w none).2 = t
    cases w <;> simp_arith [-Mul_lst, eWh, Mul1] <;> generalize truly r s .a none = a <;> generalize truly r s .b none = b <;> generalize truly r s .o none = c <;> cases a <;> cases b <;> cases c <;> cases t <;> rfl
  | paper p =>
    have ts := truly_spec r s (some p)
    rw [eSg] at ts
    simp_arith [-Mul_lst, eEv, ts, eqv_td1, eqv_td2, c_OTHER, step, harmOf, dep_eTd, Mul1]
    generalize (come r s .o (some p)).2 = t
    generalize truly r s .a none = a
    generalize truly r s .b none = b
    generalize truly r s .o (some p) = c
    cases a <;> cases b <;> cases c <;> cases t <;> rfl
  | _ =>
    simp_arith [eEv]
    rfl
theorem come_td (r : Ru) (s : Sd) (w : Wh) (g : Option Bool) : (come r s w g).2 ≠ .noted := by
  unfold come
  split
  · split
    · split <;> exact fun h => by cases h
    · exact fun h => by cases h
  · exact fun h => by cases h
theorem law_harms_spec (r : Ru) (s : Sd) (e : Ev) : f__law_harms [.sh (eRu r), .sh (eSd s), .sh (eEv e), .sh (eTd (step r s e).2)] = some (.ok (.ow (.lst (eHl (harmOf r s e)))), [none, none, none, none]) := by
  rw [f__law_harms, mkFn_eq]
  cases e with
  | come w =>
    simp_arith [-Mul_lst, -Add_lst, eEv, law_rights_N, eqv_td1, eqv_td2, eqv_td3, c_OTHER, step, harmOf, dep_eTd, Mul1, Add2, Add3, Add4]
    have hn := come_td r s w none
    generalize (come r s w none).2 = t at hn ⊢
    cases w <;> simp_arith [-Mul_lst, -Add_lst, eWh, Mul1, Add2, Add3, Add4, dep_eTd, eqv_td1, eqv_td2, eqv_td3] <;> generalize truly r s .a none = a <;> generalize truly r s .b none = b <;> generalize truly r s .o none = c <;> cases a <;> cases b <;> cases c <;> cases t <;> first | rfl | exact absurd rfl hn
  | paper p =>
    have ts := law_rights_spec r s (some p)
    rw [eSg, show truly r s .a (some p) = truly r s .a none from rfl, show truly r s .b (some p) = truly r s .b none from rfl] at ts
    simp_arith [-Mul_lst, -Add_lst, eEv, ts, eqv_td1, eqv_td2, eqv_td3, c_OTHER, step, harmOf, dep_eTd, Mul1, Add2, Add3, Add4]
    have hn := come_td r s .o (some p)
    generalize (come r s .o (some p)).2 = t at hn ⊢
    generalize truly r s .a none = a
    generalize truly r s .b none = b
    generalize truly r s .o (some p) = c
    cases a <;> cases b <;> cases c <;> cases t <;> first | rfl | exact absurd rfl hn
  | _ =>
    simp_arith [eEv]
    rfl
end CM
end WF

set_option Elab.async false
set_option linter.all false
set_option maxRecDepth 100000
set_option maxHeartbeats 1000000
/-! C10: the way to a stand; the search. -/
namespace WF
namespace M2
abbrev Par := Option (Sd × Ev)
def nxR (r : Ru) (s : Sd) (e : Ev) : Sd := (step r s e).1
/-- the way back from a stand -/
inductive Chn (nx : Sd → Ev → Sd) (evs : List Ev) (s0 : Sd) (k : List (Sd × Par)) : Nat → Sd → Prop
  | zero : look k s0 = some none → Chn nx evs s0 k 0 s0
  | succ {n : Nat} {s : Sd} {e : Ev} : Chn nx evs s0 k n s → e ∈ evs → look k (nx s e) = some (some (s, e)) → Chn nx evs s0 k (n + 1) (nx s e)
theorem Chn.mono {nx : Sd → Ev → Sd} {evs : List Ev} {s0 : Sd} {k k' : List (Sd × Par)} (h : Leq k k') {n : Nat} {s : Sd} (c : Chn nx evs s0 k n s) : Chn nx evs s0 k' n s := by
  induction c with
  | zero e => exact .zero (h _ _ e)
  | succ c m e ih => exact .succ ih m (h _ _ e)
def mkP (_ : Nat) (s : Sd) (e : Ev) : Par := some (s, e)
theorem chn_ok {nx : Sd → Ev → Sd} {evs : List Ev} {s0 : Sd} : GOk nx mkP evs (Chn nx evs s0) := ⟨fun h c => c.mono h, fun c m e => .succ c m e⟩
end M2
namespace CM
local macro_rules | `(tactic| simp_arith [$ls,*]) => `(tactic| simp only [KO_some, KO_none, KO_ite, KE_some, KE_none, KE_ite, K_ret, K_stuck, K_lift, kId_eq, eId_eq, un1_some, op2_some, dat_sh, dat_ow, dat_pl, dat_tp, sbsD_nil, sbsD_cons, toD_sh, toD_ow, toD_io, toD_lst, toD_dic, at_zero, at_succ, kV_sh, kV_lst, kV_dic, K_mV, kP_sh, kP_ow, kP_io, K_mP, kM_sh, kM_ow, K_mMv, K_mK, kOp2_eq, kOp1_eq, K_mOp, kUn_eq, K_mUn, K_mNeg, isNB_eq, notNB_eq, K_mIsN, K_mNotN, lele_int, kLL3_eq, kLL2_eq, kLL1_eq, K_mLeLe, kTV_eq, K_tV, kTA_eq, K_tAnd, kTO_eq, K_tOr, kTN_eq, K_tNot, K_yes, kMA2_eq, kMA1_eq, K_mAnd, kMO2_eq, kMO1_eq, K_mOr, notB_bl, K_mNot, kIf_eq, K_mIf, boolV_bl, tru_bl, tru_non, tru_int, tru_str, tru_tup, tru_lst, K_mNil, kC2_eq, kC1_eq, K_mCons, keptO_nil, keptO_sh, keptO_ow, keptO_tp, tupO_eq, lstO_eq, kTup_eq, kLst_eq, K_mTup, K_mLst, fzO_eq, kFz_eq, K_mFz, lzip2_eq, kLZ2_eq, kLZ1_eq, K_mLZip, K_mDic0, dic1_eq, kD2_eq, kD1_eq, K_mDic1, elB_sh, elB_ow, ixO_sh, ixO_ow, ixO_pl, ixO_tp, kIx2_eq, kIx1_eq, K_mIx, slO_eq, kSl3_eq, kSl2_eq, kSl1_eq, K_mSl, intD_int, K_mEndN, kEnd_eq, K_mEndS, K_mRev, get3_eq, kG3_eq, kG2_eq, kG1_eq, K_mGet, txtB_str, kSp3_eq, kSp2_eq, kSp1_eq, K_mSplit, lent_nil, lent_sh1, lent_ow, lent_tp, lent_pl, nodup0, nodup1, nodup2, handL_nil, handL_cons, handB_sh, handB_lst, handB_dic, handB_tp, handB_pl, lendS_sh, lendS_ow, lendS_io, argsO_eq, backL_nil, backL_cons, backB_sh, backB_ow, backB_tp, backB_plN, backB_plS, putE_zero, putE_succ, put_ow, put_io, sput_sh, KF_ok, KF_exc, KF_none, KF_ite, KF_r, kArg_eq, kCall_eq, K_mCall, ioS_io, ioS_sh, ioS_ow, ioS_no, outs0, outs1, outs2, outs3, outs4, outs5, kFn_rt, kFn_nx, eFn_eq, mkFn_eq, rep0, repS, itO_eq, kIt_eq, K_items, dItems_tup, dItems_lst, rngD_int, kRg_eq, K_itRange, zipO_eq, kZ2_eq, kZ1_eq, K_itZip, enO_eq, kEn_eq, K_itEnum, zip2_tup, zip2_lst, zipD_cons, zipD_nil, zipD_nil2, enumD_tup, enumD_lst, putS_succ, putS_no, putS_sh, putS_ow, putTg_one, putTg_tup, putSs_nil, putSs_cons, slots_one, slots_tup, clr_nil, clr_cons, back_nil, back_cons, free_nil, free_cons, fr1_succ, fr1_no, fr1_sh, kCoE_eq, kCo_eq, K_mComp, K_comp0, kCo3_eq, kCo2_eq, kCo1_eq, kCo0_eq, K_comp1, K_sPass, K_sBreak, K_sCont, kSeq_nx, kSeq_rt, kSeq_bk, kSeq_ct, K_sSeq, kDrop_eq, K_sDrop, K_sIf, kNx_eq, ownO_sh, ownO_ow, ownO_tp, setO_eq, kSet_eq, K_sSet, ownOs_nil, ownOs_cons, putA_nil, putA_cons, parO_eq, kPar_eq, K_sPar, tupB_tp, tupB_sh, unpO_eq, kUnp_eq, K_sUnp, putOE_zero, putOE_succ, obj_ow, obj_io, hasO_zero, hasO_succ, xsO_eq, kXS3_eq, kXS2_eq, kXS1_eq, K_sIxSet, apO_eq, kNon_eq, kAp2_eq, kAp1_eq, K_mApp, kKy_eq, K_itKeys, keysOf_dic, strD_str, getO_eq, getS_dic, kGt3_eq, kGt2_eq, kGt1_eq, kGt0_eq, K_mGetN, addAt_lst, setAt_lst, setAt_dicS, setAt_dicT, kFor_eq, K_sFor, kFor2_nx, kFor2_ct, kFor2_bk, kFor2_rt, kFor1_eq, K_for0, K_for1, kWh2_nx, kWh2_ct, kWh2_bk, kWh2_rt, kWh1_eq, kRet_sh, kRet_ow, kRet_tp, K_sRet, tpO_eq, kTp_eq, K_mTp, sbBs_nil, sbBs_cons, sbB_sh, sbB_ow, K_sRaise, eTry_eq, K_sTry, K_tryGo0, K_tryGo1, Add_int, Add_tup, Add_lst, Add_str, Sub_int, Mul_int, Mul_lst, Fdiv_int, Mod_int, Lt_int, Le_int, Gt_int, Ge_int, Eq_eq, Ne_eq, In_tup, In_lst, Nin_tup, Nin_lst, mem_nil, mem_cons, Ix_tup, Ix_lst, atI_0, atI_1, atI_2, atI_3, atI_4, atI_5, atI_6, Len_tup, Len_lst, Len_dic, Ix_dic, In_dic, Nin_dic, Min_int, Len_str, Int_int, Int_bl, Tuple_lst, Tuple_tup, List_lst, List_tup, List_dic, bools_nil, bools_cons, All_lst, Any_lst, dep_non, dep_bl, dep_int, dep_str, dep_tupS, dep_lstS, deps_nil, deps_cons, isNon_non, isNon_int, isNon_tup, isNon_lst, isNon_str, isNon_bl, eqv_ss, eqv_ii, eqv_bb, eqv_nn, eqv_tt, eqv_ll, eqvs_nn, eqvs_nc, eqvs_cn, eqvs_cc, upto_1, upto_2, upto_3, upto_7, K_mAdd, K_mSub, K_mMul, K_mFdiv, K_mMod, K_mPow, K_mEq, K_mNe, K_mLt, K_mLe, K_mGt, K_mGe, K_mIn, K_mNin, K_mMin, K_mJoin, K_mIndex, K_mLen, K_mInt, K_mStr, K_mTuple, K_mList, K_mAll, K_mAny, K_mSorted, K_mDict, K_mIsA, IsA_tup, IsA_lst, IsA_str, IsA_int, IsA_bl, Mul_tup, txt_nc, txt_cn, IsA_non, isA, LIM, List.drop_zero, List.take_zero, List.drop_succ_cons, List.take_succ_cons, List.drop_nil, List.take_nil, Nat.sub_zero, reduceIte, ite_true, ite_false, Nat.reduceAdd, Nat.reduceMul, Nat.reduceSub, Nat.reduceLT, Nat.reduceLeDiff, Nat.reduceEqDiff, Nat.reduceBEq, Nat.reduceBNe, Nat.reducePow, Int.reduceAdd, Int.reduceMul, Int.reduceNeg, Int.reduceSub, Int.reduceLE, Int.reduceLT, Int.reduceEq, Int.reduceBEq, Int.reduceBNe, Int.reducePow, Int.reduceToNat, Int.reduceNe, Int.reduceMod, Int.reduceDiv, Int.cast_ofNat_Int, Int.ofNat_zero, Int.ofNat_one, List.cons_beq_cons, and_true, true_and, and_self, and_false, false_and, not_false_eq_true, not_true_eq_false, or_true, true_or, or_false, false_or, List.map_cons, List.map_nil, List.length_cons, List.length_nil, List.cons_append, List.nil_append, List.append_nil, List.set_cons_zero, List.set_cons_succ, Option.bind_some, Option.bind_none, Option.map_some, Option.map_none, List.head?_cons, if_true, Bool.and_true, Bool.true_and, Bool.and_false, Bool.false_and, Bool.or_true, Bool.true_or, Bool.or_false, Bool.false_or, Bool.not_true, Bool.not_false, Bool.not_not, Bool.and_self, Bool.or_self, decide_true, decide_false, decide_eq_true_eq, beq_self_eq_true, Bool.false_eq_true, List.all_cons, List.all_nil, List.any_cons, List.any_nil, id_eq, Nat.max_self, Nat.sub_self, Nat.zero_le, Bool.decide_eq_true, List.isEmpty_cons, List.isEmpty_nil, ite_self, Nat.max_zero, Nat.zero_max, $ls,*])
open M2
def ePar : Par → D | none => .non | some (s, e) => .tup [eSd s, eEv e]
abbrev dP (k : List (Sd × Par)) : D := .dic true (eKn eSd ePar k)
abbrev oP (k : List (Sd × Par)) : O := .dic true (eKn eSd ePar k)
theorem lookP (k : List (Sd × Par)) (s : Sd) : lookD (eKn eSd ePar k) (eSd s) = (look k s).map ePar := look_enc eqv_Sd s k
theorem way_go {nx : Sd → Ev → Sd} {evs : List Ev} {s0 : Sd} {k : List (Sd × Par)} {n : Nat} {s : Sd} (c : Chn nx evs s0 k n s) :
    ∃ row : List Ev, row.length = n ∧ row.foldl nx s0 = s ∧ (∀ e ∈ row, e ∈ evs) ∧ ∀ (fuel : Nat) (acc : List Ev) (o3 : Option SB), n < fuel → acc.length + n ≤ 100000 → Nio o3 →
      ∃ o3', whGo (tV (mNotN (mIx (mP 0) (mP 1)))) wb0_way_to fuel [some (.sh (dP k)), some (.sh (eSd s)), some (.sh (.tup (acc.map eEv))), o3] = some (.ok .nx, [some (.sh (dP k)), some (.sh (eSd s0)), some (.sh (.tup ((row ++ acc).map eEv))), o3']) := by
  induction c with
  | zero e =>
    refine ⟨[], rfl, rfl, fun e m => (nomatch m), fun fuel acc o3 hf hl h3 => ?_⟩
    obtain ⟨f, rfl⟩ : ∃ f, fuel = f + 1 := ⟨fuel - 1, by omega⟩
    refine ⟨o3, ?_⟩
    rw [K_id (m := whGo _ _ _), K_wh1]
    simp_arith [keyOf_Sd, lookP, e, ePar]
  | @succ n p ev c m e ih =>
    obtain ⟨row, h1, h2, h3, h4⟩ := ih
    refine ⟨row ++ [ev], by rw [List.length_append, h1]; rfl, by rw [List.foldl_append, h2]; rfl, fun x mx => ?_, fun fuel acc o3 hf hl hn => ?_⟩
    · rcases List.mem_append.mp mx with q | q
      · exact h3 x q
      · rw [List.mem_singleton.mp q]; exact m
    · obtain ⟨f, rfl⟩ : ∃ f, fuel = f + 1 := ⟨fuel - 1, by omega⟩
      obtain ⟨o3', ih⟩ := h4 f (ev :: acc) (some (.sh (eEv ev))) (by omega) (by rw [List.length_cons]; omega) nio_sh
      rw [List.map_cons] at ih
      refine ⟨o3', ?_⟩
      have hb : wb0_way_to [some (.sh (dP k)), some (.sh (eSd (nx p ev))), some (.sh (.tup (acc.map eEv))), o3] = some (.ok .nx, [some (.sh (dP k)), some (.sh (eSd p)), some (.sh (.tup (eEv ev :: acc.map eEv))), some (.sh (eEv ev))]) := by
        have hl2 : 1 + acc.length ≤ 16777216 := by omega
        rw [K_id (m := wb0_way_to), wb0_way_to]
        simp_arith [keyOf_Sd, lookP, e, ePar, putS_nio hn, List.length_map, hl2, tupB_sh]
      rw [K_id (m := whGo _ _ _), K_wh1]
      rw [List.append_assoc]
      simp_arith [keyOf_Sd, lookP, e, ePar, K_eq hb, K_eq ih]
theorem way_spec {nx : Sd → Ev → Sd} {evs : List Ev} {s0 : Sd} {k : List (Sd × Par)} {n : Nat} {s : Sd} (c : Chn nx evs s0 k n s) (hn : n ≤ 10000) :
    ∃ row : List Ev, row.length = n ∧ row.foldl nx s0 = s ∧ (∀ e ∈ row, e ∈ evs) ∧ f_way_to [.sh (dP k), .sh (eSd s)] = some (.ok (.sh (eRow row)), [none, none]) := by
  obtain ⟨row, h1, h2, h3, h4⟩ := way_go c
  obtain ⟨o3, h5⟩ := h4 TURNS [] none (by show n < 1000000000; omega) (by rw [List.length_nil]; omega) nio_no
  refine ⟨row, h1, h2, h3, ?_⟩
  rw [List.append_nil] at h5
  have h5 : sWhile (tV (mNotN (mIx (mP 0) (mP 1)))) wb0_way_to _ = _ := h5
  rw [f_way_to, mkFn_eq, eRow]
  rw [List.map_nil] at h5
  simp_arith [K_eq h5]
end CM
end WF

set_option Elab.async false
set_option linter.all false
set_option maxRecDepth 100000
set_option maxHeartbeats 2000000
/-! C11: the search of harms.py. -/
namespace WF
namespace M2
section
variable {S E V : Type} [DecidableEq S] {hit : S → E → Bool} {nx : S → E → S} {mk : S → E → V}
theorem ins_leq {v : V} {t : S} {st : St2 S V} : Leq st.1 (ins v t st).1 := by
  unfold ins
  split
  · exact Leq.refl
  · exact fun t v z => by
      show look (st.1 ++ _) t = _
      rw [look_app, if_pos (look_mem.mp (by rw [z]; rfl)), z]
theorem ins_len {v : V} {t : S} {st : St2 S V} : (ins v t st).1.length ≤ st.1.length + 1 ∧ (ins v t st).2.length ≤ st.2.length + 1 := by
  unfold ins
  split
  · exact ⟨Nat.le_succ _, Nat.le_succ _⟩
  · simp
theorem inn_leq {s : S} : ∀ {es : List E} {st : St2 S V}, Leq st.1 (inn hit nx mk s es st).2.1
  | [], st => Leq.refl
  | e :: es, st => by
    unfold inn
    split
    · exact Leq.refl
    · exact ins_leq.trans inn_leq
theorem inn_at {s : S} : ∀ {es : List E} {st : St2 S V} {h : S × E} {st' : St2 S V}, inn hit nx mk s es st = (some h, st') → h.1 = s
  | [], st, h, st', q => by cases q
  | e :: es, st, h, st', q => by
    unfold inn at q
    split at q
    · cases q; rfl
    · exact inn_at q
theorem inn_len {s : S} : ∀ {es : List E} {st : St2 S V}, (inn hit nx mk s es st).2.1.length ≤ st.1.length + es.length ∧ (inn hit nx mk s es st).2.2.length ≤ st.2.length + es.length
  | [], st => ⟨Nat.le_refl _, Nat.le_refl _⟩
  | e :: es, st => by
    unfold inn
    split
    · exact ⟨Nat.le_add_right _ _, Nat.le_add_right _ _⟩
    · have h1 := inn_len (s := s) (es := es) (st := ins (mk s e) (nx s e) st)
      have h2 := ins_len (v := mk s e) (t := nx s e) (st := st)
      rw [List.length_cons]
      omega
end
/-- the harm that is looked for, none for all stands -/
def hitO : Option Hm → Option Hm → Bool
  | none, _ => false
  | some x, o => o == some x
def hitH (r : Ru) (h : Option Hm) (s : Sd) (e : Ev) : Bool := hitO h (harmOf r s e)
def code (w : Wd) : Nat := match w with | .always => 0 | .bar => 1 | .no => 2 | .once => 3
def allSd : List Sd := allWd.flatMap fun a => allWd.flatMap fun b => allB.flatMap fun c => allB.flatMap fun d => allWd.flatMap fun e => allWd.flatMap fun f => allB.flatMap fun g => allB.flatMap fun h => allB.map fun i => ⟨a, b, c, d, e, f, g, h, i⟩
theorem mem_allWd (w : Wd) : w ∈ allWd := by cases w <;> decide
theorem mem_allSd (s : Sd) : s ∈ allSd := by
  obtain ⟨a, b, c, d, e, f, g, h, i⟩ := s
  exact List.mem_flatMap.mpr ⟨a, mem_allWd a, List.mem_flatMap.mpr ⟨b, mem_allWd b, List.mem_flatMap.mpr ⟨c, mem_allB c, List.mem_flatMap.mpr ⟨d, mem_allB d, List.mem_flatMap.mpr ⟨e, mem_allWd e, List.mem_flatMap.mpr ⟨f, mem_allWd f, List.mem_flatMap.mpr ⟨g, mem_allB g, List.mem_flatMap.mpr ⟨h, mem_allB h, List.mem_map.mpr ⟨i, mem_allB i, rfl⟩⟩⟩⟩⟩⟩⟩⟩⟩
theorem allSd_len : allSd.length = 8192 := by decide +kernel
theorem sd_few {nx : Sd → Ev → Sd} {evs : List Ev} {s0 : Sd} (l : List Sd) (nd : l.Nodup) (_ : ∀ s ∈ l, ∃ n, Rch nx evs s0 n s) : l.length ≤ 8192 := by
  rw [← allSd_len]
  exact nodup_le nd fun x _ => mem_allSd x
end M2
namespace CM
local macro_rules | `(tactic| simp_arith [$ls,*]) => `(tactic| simp only [KO_some, KO_none, KO_ite, KE_some, KE_none, KE_ite, K_ret, K_stuck, K_lift, kId_eq, eId_eq, un1_some, op2_some, dat_sh, dat_ow, dat_pl, dat_tp, sbsD_nil, sbsD_cons, toD_sh, toD_ow, toD_io, toD_lst, toD_dic, at_zero, at_succ, kV_sh, kV_lst, kV_dic, K_mV, kP_sh, kP_ow, kP_io, K_mP, kM_sh, kM_ow, K_mMv, K_mK, kOp2_eq, kOp1_eq, K_mOp, kUn_eq, K_mUn, K_mNeg, isNB_eq, notNB_eq, K_mIsN, K_mNotN, lele_int, kLL3_eq, kLL2_eq, kLL1_eq, K_mLeLe, kTV_eq, K_tV, kTA_eq, K_tAnd, kTO_eq, K_tOr, kTN_eq, K_tNot, K_yes, kMA2_eq, kMA1_eq, K_mAnd, kMO2_eq, kMO1_eq, K_mOr, notB_bl, K_mNot, kIf_eq, K_mIf, boolV_bl, tru_bl, tru_non, tru_int, tru_str, tru_tup, tru_lst, K_mNil, kC2_eq, kC1_eq, K_mCons, keptO_nil, keptO_sh, keptO_ow, keptO_tp, tupO_eq, lstO_eq, kTup_eq, kLst_eq, K_mTup, K_mLst, fzO_eq, kFz_eq, K_mFz, lzip2_eq, kLZ2_eq, kLZ1_eq, K_mLZip, K_mDic0, dic1_eq, kD2_eq, kD1_eq, K_mDic1, elB_sh, elB_ow, ixO_sh, ixO_ow, ixO_pl, ixO_tp, kIx2_eq, kIx1_eq, K_mIx, slO_eq, kSl3_eq, kSl2_eq, kSl1_eq, K_mSl, intD_int, K_mEndN, kEnd_eq, K_mEndS, K_mRev, get3_eq, kG3_eq, kG2_eq, kG1_eq, K_mGet, txtB_str, kSp3_eq, kSp2_eq, kSp1_eq, K_mSplit, lent_nil, lent_sh1, lent_ow, lent_tp, lent_pl, nodup0, nodup1, nodup2, handL_nil, handL_cons, handB_sh, handB_lst, handB_dic, handB_tp, handB_pl, lendS_sh, lendS_ow, lendS_io, argsO_eq, backL_nil, backL_cons, backB_sh, backB_ow, backB_tp, backB_plN, backB_plS, putE_zero, putE_succ, put_ow, put_io, sput_sh, KF_ok, KF_exc, KF_none, KF_ite, KF_r, kArg_eq, kCall_eq, K_mCall, ioS_io, ioS_sh, ioS_ow, ioS_no, outs0, outs1, outs2, outs3, outs4, outs5, kFn_rt, kFn_nx, eFn_eq, mkFn_eq, rep0, repS, itO_eq, kIt_eq, K_items, dItems_tup, dItems_lst, rngD_int, kRg_eq, K_itRange, zipO_eq, kZ2_eq, kZ1_eq, K_itZip, enO_eq, kEn_eq, K_itEnum, zip2_tup, zip2_lst, zipD_cons, zipD_nil, zipD_nil2, enumD_tup, enumD_lst, putS_succ, putS_no, putS_sh, putS_ow, putTg_one, putTg_tup, putSs_nil, putSs_cons, slots_one, slots_tup, clr_nil, clr_cons, back_nil, back_cons, free_nil, free_cons, fr1_succ, fr1_no, fr1_sh, kCoE_eq, kCo_eq, K_mComp, K_comp0, kCo3_eq, kCo2_eq, kCo1_eq, kCo0_eq, K_comp1, K_sPass, K_sBreak, K_sCont, kSeq_nx, kSeq_rt, kSeq_bk, kSeq_ct, K_sSeq, kDrop_eq, K_sDrop, K_sIf, kNx_eq, ownO_sh, ownO_ow, ownO_tp, setO_eq, kSet_eq, K_sSet, ownOs_nil, ownOs_cons, putA_nil, putA_cons, parO_eq, kPar_eq, K_sPar, tupB_tp, tupB_sh, unpO_eq, kUnp_eq, K_sUnp, putOE_zero, putOE_succ, obj_ow, obj_io, hasO_zero, hasO_succ, xsO_eq, kXS3_eq, kXS2_eq, kXS1_eq, K_sIxSet, apO_eq, kNon_eq, kAp2_eq, kAp1_eq, K_mApp, kKy_eq, K_itKeys, keysOf_dic, strD_str, getO_eq, getS_dic, kGt3_eq, kGt2_eq, kGt1_eq, kGt0_eq, K_mGetN, addAt_lst, setAt_lst, setAt_dicS, setAt_dicT, kFor_eq, K_sFor, kFor2_nx, kFor2_ct, kFor2_bk, kFor2_rt, kFor1_eq, K_for0, K_for1, kWh2_nx, kWh2_ct, kWh2_bk, kWh2_rt, kWh1_eq, kRet_sh, kRet_ow, kRet_tp, K_sRet, tpO_eq, kTp_eq, K_mTp, sbBs_nil, sbBs_cons, sbB_sh, sbB_ow, K_sRaise, eTry_eq, K_sTry, K_tryGo0, K_tryGo1, Add_int, Add_tup, Add_lst, Add_str, Sub_int, Mul_int, Mul_lst, Fdiv_int, Mod_int, Lt_int, Le_int, Gt_int, Ge_int, Eq_eq, Ne_eq, In_tup, In_lst, Nin_tup, Nin_lst, mem_nil, mem_cons, Ix_tup, Ix_lst, atI_0, atI_1, atI_2, atI_3, atI_4, atI_5, atI_6, Len_tup, Len_lst, Len_dic, Ix_dic, In_dic, Nin_dic, Min_int, Len_str, Int_int, Int_bl, Tuple_lst, Tuple_tup, List_lst, List_tup, List_dic, bools_nil, bools_cons, All_lst, Any_lst, dep_non, dep_bl, dep_int, dep_str, dep_tupS, dep_lstS, deps_nil, deps_cons, isNon_non, isNon_int, isNon_tup, isNon_lst, isNon_str, isNon_bl, eqv_ss, eqv_ii, eqv_bb, eqv_nn, eqv_tt, eqv_ll, eqvs_nn, eqvs_nc, eqvs_cn, eqvs_cc, upto_1, upto_2, upto_3, upto_7, K_mAdd, K_mSub, K_mMul, K_mFdiv, K_mMod, K_mPow, K_mEq, K_mNe, K_mLt, K_mLe, K_mGt, K_mGe, K_mIn, K_mNin, K_mMin, K_mJoin, K_mIndex, K_mLen, K_mInt, K_mStr, K_mTuple, K_mList, K_mAll, K_mAny, K_mSorted, K_mDict, K_mIsA, IsA_tup, IsA_lst, IsA_str, IsA_int, IsA_bl, Mul_tup, txt_nc, txt_cn, IsA_non, isA, LIM, List.drop_zero, List.take_zero, List.drop_succ_cons, List.take_succ_cons, List.drop_nil, List.take_nil, Nat.sub_zero, reduceIte, ite_true, ite_false, Nat.reduceAdd, Nat.reduceMul, Nat.reduceSub, Nat.reduceLT, Nat.reduceLeDiff, Nat.reduceEqDiff, Nat.reduceBEq, Nat.reduceBNe, Nat.reducePow, Int.reduceAdd, Int.reduceMul, Int.reduceNeg, Int.reduceSub, Int.reduceLE, Int.reduceLT, Int.reduceEq, Int.reduceBEq, Int.reduceBNe, Int.reducePow, Int.reduceToNat, Int.reduceNe, Int.reduceMod, Int.reduceDiv, Int.cast_ofNat_Int, Int.ofNat_zero, Int.ofNat_one, List.cons_beq_cons, and_true, true_and, and_self, and_false, false_and, not_false_eq_true, not_true_eq_false, or_true, true_or, or_false, false_or, List.map_cons, List.map_nil, List.length_cons, List.length_nil, List.cons_append, List.nil_append, List.append_nil, List.set_cons_zero, List.set_cons_succ, Option.bind_some, Option.bind_none, Option.map_some, Option.map_none, List.head?_cons, if_true, Bool.and_true, Bool.true_and, Bool.and_false, Bool.false_and, Bool.or_true, Bool.true_or, Bool.or_false, Bool.false_or, Bool.not_true, Bool.not_false, Bool.not_not, Bool.and_self, Bool.or_self, decide_true, decide_false, decide_eq_true_eq, beq_self_eq_true, Bool.false_eq_true, List.all_cons, List.all_nil, List.any_cons, List.any_nil, id_eq, Nat.max_self, Nat.sub_self, Nat.zero_le, Bool.decide_eq_true, List.isEmpty_cons, List.isEmpty_nil, ite_self, Nat.max_zero, Nat.zero_max, $ls,*])
open M2
def eHo : Option Hm → D | none => .str t_empty | some h => eHm h
theorem mem_hm {h o : Option Hm} : memD (eHo h) (eHl o) = hitO h o := by
  cases h with
  | none => cases o with
    | none => rfl
    | some b => cases b <;> rfl
  | some a => cases o with
    | none => cases a <;> rfl
    | some b => cases a <;> cases b <;> rfl
theorem dep_eHo {h : Option Hm} : D.dep (eHo h) = 0 := by
  cases h with
  | none => rfl
  | some a => cases a <;> rfl
theorem deps_eHl {o : Option Hm} : D.deps (eHl o) = 0 := by
  cases o with
  | none => rfl
  | some a => cases a <;> rfl
theorem putP {k : List (Sd × Par)} {t s : Sd} {e : Ev} (h : t ∉ keysK k) : putD (eKn eSd ePar k) (eSd t) (.tup [eSd s, eEv e]) = eKn eSd ePar (k ++ [(t, some (s, e))]) := put_enc (v := some (s, e)) eqv_Sd h
theorem isSomeP {k : List (Sd × Par)} {t : Sd} : (lookD (eKn eSd ePar k) (eSd t)).isSome = decide (t ∈ keysK k) := look_isSome eqv_Sd t k
section
variable {r : Ru} {h : Option Hm} {x x3 : D} {s : Sd} {e : Ev} {k : List (Sd × Par)} {l : List Sd} {o5 o6 o7 o8 o9 o10 : Option SB}
abbrev envS (r : Ru) (x : D) (h : Option Hm) (x3 : D) (k : List (Sd × Par)) (o5 o6 o7 o8 o9 o10 : Option SB) : Env := [some (.sh (eRu r)), some (.sh x), some (.sh (eHo h)), some (.sh x3), some (.ow (oP k)), o5, o6, o7, o8, o9, o10]
abbrev oL (l : List Sd) : SB := .ow (.lst (l.map eSd))
abbrev mkR (s : Sd) (e : Ev) : Par := some (s, e)
theorem turn_miss (hh : hitH r h s e = false) (n9 : Nio o9) (n10 : Nio o10) (hk : k.length < 16777216) (hl : l.length < 16777216) :
    fb0_search (envS r x h x3 k o5 (some (oL l)) (some (.sh (eSd s))) (some (.sh (eEv e))) o9 o10) = some (.ok .nx, envS r x h x3 (ins (mkR s e) (nxR r s e) (k, l)).1 o5 (some (oL (ins (mkR s e) (nxR r s e) (k, l)).2)) (some (.sh (eSd s))) (some (.sh (eEv e))) (some (.sh (eSd (nxR r s e)))) (some (.sh (eTd (step r s e).2)))) := by
  have hh' : hitO h (harmOf r s e) = false := hh
  rw [K_id (m := fb0_search), fb0_search]
  unfold ins
  by_cases m : (step r s e).1 ∈ keysK k
  · have dm : decide ((step r s e).1 ∈ keysK k) = true := decide_eq_true m
    have m' : nxR r s e ∈ keysK k := m
    rw [if_pos m']
    simp_arith [putS_nio n9, putS_nio n10, step_spec, harms_of_spec, mem_hm, hh', dep_eHo, deps_eHl, keyOf_Sd, isSomeP, dm, nxR]
  · have dm : decide ((step r s e).1 ∈ keysK k) = false := decide_eq_false m
    have m' : nxR r s e ∉ keysK k := m
    rw [if_neg m']
    simp_arith [putS_nio n9, putS_nio n10, step_spec, harms_of_spec, mem_hm, hh', dep_eHo, deps_eHl, keyOf_Sd, isSomeP, dm, nxR, putP m, eKn_len, hk, List.length_map, hl, List.map_append, envS, oL, mkR]
/-- the parameters are no one else's objects -/
def Top3 (ρ : Env) : Prop := ioS (ρ.at 0) = none ∧ ioS (ρ.at 1) = none ∧ ioS (ρ.at 2) = none
theorem turn_hit {row : List Ev} (hh : hitH r h s e = true) (n9 : Nio o9) (n10 : Nio o10) (hr : row.length ≤ 10000) (w : f_way_to [.sh (dP k), .sh (eSd s)] = some (.ok (.sh (eRow row)), [none, none])) :
    ∃ ρ', Top3 ρ' ∧ fb0_search (envS r x h x3 k o5 o6 (some (.sh (eSd s))) (some (.sh (eEv e))) o9 o10) = some (.ok (.rt (.sh (.tup [dP k, eRow (row ++ [e])]))), ρ') := by
  have hh' : hitO h (harmOf r s e) = true := hh
  have hr' : row.length + 1 ≤ 16777216 := by omega
  refine ⟨[some (.sh (eRu r)), some (.sh x), some (.sh (eHo h)), some (.sh x3), some (.sh (dP k)), o5, o6, some (.sh (eSd s)), some (.sh (eEv e)), some (.sh (eSd (step r s e).1)), some (.sh (eTd (step r s e).2))], ⟨rfl, rfl, rfl⟩, ?_⟩
  rw [K_id (m := fb0_search), fb0_search]
  rw [eRow] at w ⊢
  simp_arith [putS_nio n9, putS_nio n10, step_spec, harms_of_spec, mem_hm, hh', dep_eHo, deps_eHl, w, List.length_map, hr', List.map_append]
theorem inn_go {evs0 : List Ev} {n : Nat} (hn : n ≤ 10000) : ∀ (es : List Ev) {k : List (Sd × Par)} {l : List Sd} {o8 o9 o10 : Option SB}, Chn (nxR r) evs0 sd0 k n s → k.length + es.length ≤ 16000000 → l.length + es.length ≤ 16000000 → Nio o8 → Nio o9 → Nio o10 →
    (∀ st', inn (hitH r h) (nxR r) mkR s es (k, l) = (none, st') → ∃ o8' o9' o10', Nio o8' ∧ Nio o9' ∧ Nio o10' ∧ forGo (.one 8) fb0_search (es.map eEv) (envS r x h x3 k o5 (some (oL l)) (some (.sh (eSd s))) o8 o9 o10) = some (.ok .nx, envS r x h x3 st'.1 o5 (some (oL st'.2)) (some (.sh (eSd s))) o8' o9' o10')) ∧
    (∀ h' st', inn (hitH r h) (nxR r) mkR s es (k, l) = (some h', st') → ∃ row ρ', Top3 ρ' ∧ row.length = n ∧ row.foldl (nxR r) sd0 = s ∧ (∀ e ∈ row, e ∈ evs0) ∧ forGo (.one 8) fb0_search (es.map eEv) (envS r x h x3 k o5 (some (oL l)) (some (.sh (eSd s))) o8 o9 o10) = some (.ok (.rt (.sh (.tup [dP st'.1, eRow (row ++ [h'.2])]))), ρ'))
  | [], k, l, o8, o9, o10, c, _, _, n8, n9, n10 => ⟨fun st' q => by cases q; exact ⟨o8, o9, o10, n8, n9, n10, rfl⟩, fun h' st' q => by cases q⟩
  | e :: es, k, l, o8, o9, o10, c, hk, hl, n8, n9, n10 => by
    rw [List.length_cons] at hk hl
    unfold inn
    by_cases hh : hitH r h s e = true
    · rw [if_pos hh]
      refine ⟨fun st' q => (nomatch q), fun h' st' q => ?_⟩
      cases q
      obtain ⟨row, h1, h2, h3, w⟩ := way_spec c hn
      obtain ⟨ρ', t3, t⟩ := turn_hit (r := r) (h := h) (x := x) (x3 := x3) (o5 := o5) (o6 := some (oL l)) hh n9 n10 (by omega) w
      refine ⟨row, ρ', t3, h1, h2, h3, ?_⟩
      rw [K_id (m := forGo _ _ _), List.map_cons]
      simp_arith [putS_nio n8, K_eq t]
    · have hf : hitH r h s e = false := Bool.eq_false_iff.mpr hh
      rw [if_neg hh]
      have hb := ins_len (v := mkR s e) (t := nxR r s e) (st := (k, l))
      have t := turn_miss (r := r) (h := h) (x := x) (x3 := x3) (o5 := o5) (o9 := o9) (o10 := o10) (k := k) (l := l) hf n9 n10 (by omega) (by omega)
      have le := ins_leq (v := mkR s e) (t := nxR r s e) (st := (k, l))
      generalize ins (mkR s e) (nxR r s e) (k, l) = st at hb t le
      obtain ⟨k1, l1⟩ := st
      have hb : k1.length ≤ k.length + 1 ∧ l1.length ≤ l.length + 1 := hb
      obtain ⟨g1, g2⟩ := inn_go hn es (k := k1) (l := l1) (o8 := some (.sh (eEv e))) (o9 := some (.sh (eSd (nxR r s e)))) (o10 := some (.sh (eTd (step r s e).2))) (c.mono le) (by omega) (by omega) nio_sh nio_sh nio_sh
      refine ⟨fun st' q => ?_, fun h' st' q => ?_⟩
      · obtain ⟨o8', o9', o10', a, b, d, g⟩ := g1 st' q
        refine ⟨o8', o9', o10', a, b, d, ?_⟩
        rw [K_id (m := forGo _ _ _), List.map_cons]
        simp_arith [putS_nio n8, K_eq t, K_eq g]
      · obtain ⟨row, ρ', t3, a, b, d, g⟩ := g2 h' st' q
        refine ⟨row, ρ', t3, a, b, d, ?_⟩
        rw [K_id (m := forGo _ _ _), List.map_cons]
        simp_arith [putS_nio n8, K_eq t, K_eq g]
end
end CM
end WF

set_option Elab.async false
set_option linter.all false
set_option maxRecDepth 100000
set_option maxHeartbeats 2000000
/-! C12: the search of harms.py, level by level. -/
namespace WF
namespace CM
local macro_rules | `(tactic| simp_arith [$ls,*]) => `(tactic| simp only [KO_some, KO_none, KO_ite, KE_some, KE_none, KE_ite, K_ret, K_stuck, K_lift, kId_eq, eId_eq, un1_some, op2_some, dat_sh, dat_ow, dat_pl, dat_tp, sbsD_nil, sbsD_cons, toD_sh, toD_ow, toD_io, toD_lst, toD_dic, at_zero, at_succ, kV_sh, kV_lst, kV_dic, K_mV, kP_sh, kP_ow, kP_io, K_mP, kM_sh, kM_ow, K_mMv, K_mK, kOp2_eq, kOp1_eq, K_mOp, kUn_eq, K_mUn, K_mNeg, isNB_eq, notNB_eq, K_mIsN, K_mNotN, lele_int, kLL3_eq, kLL2_eq, kLL1_eq, K_mLeLe, kTV_eq, K_tV, kTA_eq, K_tAnd, kTO_eq, K_tOr, kTN_eq, K_tNot, K_yes, kMA2_eq, kMA1_eq, K_mAnd, kMO2_eq, kMO1_eq, K_mOr, notB_bl, K_mNot, kIf_eq, K_mIf, boolV_bl, tru_bl, tru_non, tru_int, tru_str, tru_tup, tru_lst, K_mNil, kC2_eq, kC1_eq, K_mCons, keptO_nil, keptO_sh, keptO_ow, keptO_tp, tupO_eq, lstO_eq, kTup_eq, kLst_eq, K_mTup, K_mLst, fzO_eq, kFz_eq, K_mFz, lzip2_eq, kLZ2_eq, kLZ1_eq, K_mLZip, K_mDic0, dic1_eq, kD2_eq, kD1_eq, K_mDic1, elB_sh, elB_ow, ixO_sh, ixO_ow, ixO_pl, ixO_tp, kIx2_eq, kIx1_eq, K_mIx, slO_eq, kSl3_eq, kSl2_eq, kSl1_eq, K_mSl, intD_int, K_mEndN, kEnd_eq, K_mEndS, K_mRev, get3_eq, kG3_eq, kG2_eq, kG1_eq, K_mGet, txtB_str, kSp3_eq, kSp2_eq, kSp1_eq, K_mSplit, lent_nil, lent_sh1, lent_ow, lent_tp, lent_pl, nodup0, nodup1, nodup2, handL_nil, handL_cons, handB_sh, handB_lst, handB_dic, handB_tp, handB_pl, lendS_sh, lendS_ow, lendS_io, argsO_eq, backL_nil, backL_cons, backB_sh, backB_ow, backB_tp, backB_plN, backB_plS, putE_zero, putE_succ, put_ow, put_io, sput_sh, KF_ok, KF_exc, KF_none, KF_ite, KF_r, kArg_eq, kCall_eq, K_mCall, ioS_io, ioS_sh, ioS_ow, ioS_no, outs0, outs1, outs2, outs3, outs4, outs5, kFn_rt, kFn_nx, eFn_eq, mkFn_eq, rep0, repS, itO_eq, kIt_eq, K_items, dItems_tup, dItems_lst, rngD_int, kRg_eq, K_itRange, zipO_eq, kZ2_eq, kZ1_eq, K_itZip, enO_eq, kEn_eq, K_itEnum, zip2_tup, zip2_lst, zipD_cons, zipD_nil, zipD_nil2, enumD_tup, enumD_lst, putS_succ, putS_no, putS_sh, putS_ow, putTg_one, putTg_tup, putSs_nil, putSs_cons, slots_one, slots_tup, clr_nil, clr_cons, back_nil, back_cons, free_nil, free_cons, fr1_succ, fr1_no, fr1_sh, kCoE_eq, kCo_eq, K_mComp, K_comp0, kCo3_eq, kCo2_eq, kCo1_eq, kCo0_eq, K_comp1, K_sPass, K_sBreak, K_sCont, kSeq_nx, kSeq_rt, kSeq_bk, kSeq_ct, K_sSeq, kDrop_eq, K_sDrop, K_sIf, kNx_eq, ownO_sh, ownO_ow, ownO_tp, setO_eq, kSet_eq, K_sSet, ownOs_nil, ownOs_cons, putA_nil, putA_cons, parO_eq, kPar_eq, K_sPar, tupB_tp, tupB_sh, unpO_eq, kUnp_eq, K_sUnp, putOE_zero, putOE_succ, obj_ow, obj_io, hasO_zero, hasO_succ, xsO_eq, kXS3_eq, kXS2_eq, kXS1_eq, K_sIxSet, apO_eq, kNon_eq, kAp2_eq, kAp1_eq, K_mApp, kKy_eq, K_itKeys, keysOf_dic, strD_str, getO_eq, getS_dic, kGt3_eq, kGt2_eq, kGt1_eq, kGt0_eq, K_mGetN, addAt_lst, setAt_lst, setAt_dicS, setAt_dicT, kFor_eq, K_sFor, kFor2_nx, kFor2_ct, kFor2_bk, kFor2_rt, kFor1_eq, K_for0, K_for1, kWh2_nx, kWh2_ct, kWh2_bk, kWh2_rt, kWh1_eq, kRet_sh, kRet_ow, kRet_tp, K_sRet, tpO_eq, kTp_eq, K_mTp, sbBs_nil, sbBs_cons, sbB_sh, sbB_ow, K_sRaise, eTry_eq, K_sTry, K_tryGo0, K_tryGo1, Add_int, Add_tup, Add_lst, Add_str, Sub_int, Mul_int, Mul_lst, Fdiv_int, Mod_int, Lt_int, Le_int, Gt_int, Ge_int, Eq_eq, Ne_eq, In_tup, In_lst, Nin_tup, Nin_lst, mem_nil, mem_cons, Ix_tup, Ix_lst, atI_0, atI_1, atI_2, atI_3, atI_4, atI_5, atI_6, Len_tup, Len_lst, Len_dic, Ix_dic, In_dic, Nin_dic, Min_int, Len_str, Int_int, Int_bl, Tuple_lst, Tuple_tup, List_lst, List_tup, List_dic, bools_nil, bools_cons, All_lst, Any_lst, dep_non, dep_bl, dep_int, dep_str, dep_tupS, dep_lstS, deps_nil, deps_cons, isNon_non, isNon_int, isNon_tup, isNon_lst, isNon_str, isNon_bl, eqv_ss, eqv_ii, eqv_bb, eqv_nn, eqv_tt, eqv_ll, eqvs_nn, eqvs_nc, eqvs_cn, eqvs_cc, upto_1, upto_2, upto_3, upto_7, K_mAdd, K_mSub, K_mMul, K_mFdiv, K_mMod, K_mPow, K_mEq, K_mNe, K_mLt, K_mLe, K_mGt, K_mGe, K_mIn, K_mNin, K_mMin, K_mJoin, K_mIndex, K_mLen, K_mInt, K_mStr, K_mTuple, K_mList, K_mAll, K_mAny, K_mSorted, K_mDict, K_mIsA, IsA_tup, IsA_lst, IsA_str, IsA_int, IsA_bl, Mul_tup, txt_nc, txt_cn, IsA_non, isA, LIM, List.drop_zero, List.take_zero, List.drop_succ_cons, List.take_succ_cons, List.drop_nil, List.take_nil, Nat.sub_zero, reduceIte, ite_true, ite_false, Nat.reduceAdd, Nat.reduceMul, Nat.reduceSub, Nat.reduceLT, Nat.reduceLeDiff, Nat.reduceEqDiff, Nat.reduceBEq, Nat.reduceBNe, Nat.reducePow, Int.reduceAdd, Int.reduceMul, Int.reduceNeg, Int.reduceSub, Int.reduceLE, Int.reduceLT, Int.reduceEq, Int.reduceBEq, Int.reduceBNe, Int.reducePow, Int.reduceToNat, Int.reduceNe, Int.reduceMod, Int.reduceDiv, Int.cast_ofNat_Int, Int.ofNat_zero, Int.ofNat_one, List.cons_beq_cons, and_true, true_and, and_self, and_false, false_and, not_false_eq_true, not_true_eq_false, or_true, true_or, or_false, false_or, List.map_cons, List.map_nil, List.length_cons, List.length_nil, List.cons_append, List.nil_append, List.append_nil, List.set_cons_zero, List.set_cons_succ, Option.bind_some, Option.bind_none, Option.map_some, Option.map_none, List.head?_cons, if_true, Bool.and_true, Bool.true_and, Bool.and_false, Bool.false_and, Bool.or_true, Bool.true_or, Bool.or_false, Bool.false_or, Bool.not_true, Bool.not_false, Bool.not_not, Bool.and_self, Bool.or_self, decide_true, decide_false, decide_eq_true_eq, beq_self_eq_true, Bool.false_eq_true, List.all_cons, List.all_nil, List.any_cons, List.any_nil, id_eq, Nat.max_self, Nat.sub_self, Nat.zero_le, Bool.decide_eq_true, List.isEmpty_cons, List.isEmpty_nil, ite_self, Nat.max_zero, Nat.zero_max, $ls,*])
open M2
section
abbrev xE (evs : List Ev) : D := .tup (evs.map eEv)
variable {r : Ru} {h : Option Hm} {x3 x : D} {evs : List Ev}
theorem lvl_go (hx : dItems x = some (evs.map eEv)) {n : Nat} (hn : n ≤ 10000) (he : evs.length ≤ 100) {o5 : Option SB} : ∀ (ss : List Sd) {k : List (Sd × Par)} {l : List Sd} {o7 o8 o9 o10 : Option SB}, (∀ s ∈ ss, Chn (nxR r) evs sd0 k n s) → k.length + ss.length * 100 ≤ 15000000 → l.length + ss.length * 100 ≤ 15000000 → Nio o7 → Nio o8 → Nio o9 → Nio o10 →
    (∀ st', lvl (hitH r h) (nxR r) mkR evs ss (k, l) = (none, st') → ∃ o7' o8' o9' o10', Nio o7' ∧ Nio o8' ∧ Nio o9' ∧ Nio o10' ∧ forGo (.one 7) fb1_search (ss.map eSd) (envS r x h x3 k o5 (some (oL l)) o7 o8 o9 o10) = some (.ok .nx, envS r x h x3 st'.1 o5 (some (oL st'.2)) o7' o8' o9' o10')) ∧
    (∀ h' st', lvl (hitH r h) (nxR r) mkR evs ss (k, l) = (some h', st') → ∃ row ρ', Top3 ρ' ∧ row.length = n ∧ row.foldl (nxR r) sd0 = h'.1 ∧ (∀ e ∈ row, e ∈ evs) ∧ forGo (.one 7) fb1_search (ss.map eSd) (envS r x h x3 k o5 (some (oL l)) o7 o8 o9 o10) = some (.ok (.rt (.sh (.tup [dP st'.1, eRow (row ++ [h'.2])]))), ρ'))
  | [], k, l, o7, o8, o9, o10, _, _, _, n7, n8, n9, n10 => ⟨fun st' q => by cases q; exact ⟨o7, o8, o9, o10, n7, n8, n9, n10, rfl⟩, fun h' st' q => by cases q⟩
  | s :: ss, k, l, o7, o8, o9, o10, c, hk, hl, n7, n8, n9, n10 => by
    rw [List.length_cons] at hk hl
    obtain ⟨g1, g2⟩ := inn_go (r := r) (h := h) (x := x) (x3 := x3) (s := s) (o5 := o5) hn evs (k := k) (l := l) (o8 := o8) (o9 := o9) (o10 := o10) (c s List.mem_cons_self) (by omega) (by omega) n8 n9 n10
    have le := inn_leq (hit := hitH r h) (nx := nxR r) (mk := mkR) (s := s) (es := evs) (st := (k, l))
    have ln := inn_len (hit := hitH r h) (nx := nxR r) (mk := mkR) (s := s) (es := evs) (st := (k, l))
    unfold lvl
    cases hi : inn (hitH r h) (nxR r) mkR s evs (k, l) with
    | mk o st =>
      rw [hi] at le ln
      obtain ⟨k1, l1⟩ := st
      have ln : k1.length ≤ k.length + evs.length ∧ l1.length ≤ l.length + evs.length := ln
      cases o with
      | some h0 =>
        refine ⟨fun st' q => (nomatch q), fun h' st' q => ?_⟩
        cases q
        obtain ⟨row, ρ', t3, a, b, d, g⟩ := g2 h0 (k1, l1) hi
        have hs : h0.1 = s := inn_at hi
        refine ⟨row, ρ', t3, a, by rw [hs]; exact b, d, ?_⟩
        have t : fb1_search (envS r x h x3 k o5 (some (oL l)) (some (.sh (eSd s))) o8 o9 o10) = some (.ok (.rt (.sh (.tup [dP k1, eRow (row ++ [h0.2])]))), ρ') := by
          rw [K_id (m := fb1_search), fb1_search]
          simp_arith [hx, K_eq g]
        rw [K_id (m := forGo _ _ _), List.map_cons]
        simp_arith [putS_nio n7, K_eq t]
      | none =>
        obtain ⟨o8', o9', o10', a, b, d, g⟩ := g1 (k1, l1) hi
        have t : fb1_search (envS r x h x3 k o5 (some (oL l)) (some (.sh (eSd s))) o8 o9 o10) = some (.ok .nx, envS r x h x3 k1 o5 (some (oL l1)) (some (.sh (eSd s))) o8' o9' o10') := by
          rw [K_id (m := fb1_search), fb1_search]
          simp_arith [hx, K_eq g]
        obtain ⟨f1, f2⟩ := lvl_go hx hn he (o5 := o5) ss (k := k1) (l := l1) (o7 := some (.sh (eSd s))) (o8 := o8') (o9 := o9') (o10 := o10') (fun s' m => (c s' (List.mem_cons_of_mem _ m)).mono le) (by omega) (by omega) nio_sh a b d
        refine ⟨fun st' q => ?_, fun h' st' q => ?_⟩
        · obtain ⟨p7, p8, p9, p10, q7, q8, q9, q10, z⟩ := f1 st' q
          refine ⟨p7, p8, p9, p10, q7, q8, q9, q10, ?_⟩
          rw [K_id (m := forGo _ _ _), List.map_cons]
          simp_arith [putS_nio n7, K_eq t, K_eq z]
        · obtain ⟨row, ρ', t3, q1, q2, q3, z⟩ := f2 h' st' q
          refine ⟨row, ρ', t3, q1, q2, q3, ?_⟩
          rw [K_id (m := forGo _ _ _), List.map_cons]
          simp_arith [putS_nio n7, K_eq t, K_eq z]
/-- a list, its own or shared -/
def IsL (b : Option SB) (l : List Sd) : Prop := b = some (oL l) ∨ b = some (.sh (.lst (l.map eSd)))
theorem deps_sds (l : List Sd) : D.deps (l.map eSd) ≤ 2 := deps_le fun x m => by
  obtain ⟨s, _, rfl⟩ := List.mem_map.mp m
  rw [dep_eSd]; exact Nat.le_refl _
theorem eqvs_nil (l : List Sd) : D.eqvs (l.map eSd) [] = decide (l = []) := by
  cases l with
  | nil => simp [D.eqvs]
  | cons s l => simp [D.eqvs]
theorem bfs_go (hx : dItems x = some (evs.map eEv)) (he : evs.length ≤ 100) : ∀ (f n : Nat) (k : List (Sd × Par)) (line : List Sd) (o5 o6 o7 o8 o9 o10 : Option SB), 8192 < f + n → LV (nxR r) evs sd0 (Chn (nxR r) evs sd0) n k line → IsL o5 line → Nio o6 → Nio o7 → Nio o8 → Nio o9 → Nio o10 →
    (∀ k', bfs (hitH r h) (nxR r) mkP evs f n k line = (none, k') → ∃ o5' o6' o7' o8' o9' o10', whGo (tV (mNe (mP 5) (mLst (ret [])))) wb0_search f (envS r x h x3 k o5 o6 o7 o8 o9 o10) = some (.ok .nx, envS r x h x3 k' o5' o6' o7' o8' o9' o10')) ∧
    (∀ h' k', bfs (hitH r h) (nxR r) mkP evs f n k line = (some h', k') → ∃ row ρ', Top3 ρ' ∧ (∀ m, m < row.length → ¬ Rch (nxR r) evs sd0 m h'.1) ∧ row.length ≤ 10000 ∧ row.foldl (nxR r) sd0 = h'.1 ∧ (∀ e ∈ row, e ∈ evs) ∧ whGo (tV (mNe (mP 5) (mLst (ret [])))) wb0_search f (envS r x h x3 k o5 o6 o7 o8 o9 o10) = some (.ok (.rt (.sh (.tup [dP k', eRow (row ++ [h'.2])]))), ρ'))
  | 0, n, k, line, o5, o6, o7, o8, o9, o10, hf, v, _, _, _, _, _, _ => absurd (v.small sd_few) (by have := v.len; omega)
  | f + 1, n, k, line, o5, o6, o7, o8, o9, o10, hf, v, l5, n6, n7, n8, n9, n10 => by
    have hB := v.small sd_few
    have hL := v.len
    have d1 := deps_sds line
    have d2 : D.deps (line.map eSd) + 1 ≤ 60 := by omega
    have en := eqvs_nil line
    unfold bfs
    by_cases h0 : line = []
    · rw [if_pos h0]
      rw [decide_eq_true h0] at en
      refine ⟨fun k' q => ?_, fun h' k' q => by cases q⟩
      cases q
      rcases l5 with rfl | rfl
      · refine ⟨some (oL line), o6, o7, o8, o9, o10, ?_⟩
        rw [K_id (m := whGo _ _ _), K_wh1]
        simp_arith [d2, en]
      · refine ⟨some (.sh (.lst (line.map eSd))), o6, o7, o8, o9, o10, ?_⟩
        rw [K_id (m := whGo _ _ _), K_wh1]
        simp_arith [d2, en]
    · rw [if_neg h0]
      rw [decide_eq_false h0] at en
      have hlk : k.length + line.length * 100 ≤ 15000000 := by omega
      obtain ⟨g1, g2⟩ := lvl_go (r := r) (h := h) (x3 := x3) (evs := evs) hx (n := n) (by omega) he (o5 := some (.sh (.lst (line.map eSd)))) line (k := k) (l := []) (o7 := o7) (o8 := o8) (o9 := o9) (o10 := o10) v.g hlk (by rw [List.length_nil]; omega) n7 n8 n9 n10
      have e5 : ∀ (kf : Ct Fl (Res Fl × Env)) (eX : Ex (Res Fl × Env)), K (whGo (tV (mNe (mP 5) (mLst (ret [])))) wb0_search (f + 1)) (envS r x h x3 k o5 o6 o7 o8 o9 o10) kf eX = K (forGo (.one 7) fb1_search (line.map eSd)) (envS r x h x3 k (some (.sh (.lst (line.map eSd)))) (some (oL [])) o7 o8 o9 o10) (kSeq (sSet 5 (mV 6)) (kWh2 (tV (mNe (mP 5) (mLst (ret [])))) wb0_search f kf eX) eX) eX := fun kf eX => by
        rw [K_wh1]
        rcases l5 with rfl | rfl
        · simp_arith [d2, en, wb0_search, putS_nio n6]
          rfl
        · simp_arith [d2, en, wb0_search, putS_nio n6]
          rfl
      obtain ⟨c1, c2⟩ := lvl_ok (hit := hitH r h) (evs := evs) line (Ext.init (nx := nxR r) (mk := mkP n) (k0 := k) v.nd)
      cases hl : lvl (hitH r h) (nxR r) (mkP n) evs line (k, []) with
      | mk o st =>
        cases o with
        | some h0' =>
          refine ⟨fun k' q => (nomatch q), fun h' k' q => ?_⟩
          cases q
          obtain ⟨row, ρ', t3, a, b, c, g⟩ := g2 h0' st hl
          refine ⟨row, ρ', t3, ?_, by omega, b, c, ?_⟩
          · rw [a]; exact ((v.line _).mp (c2 h0' st hl).1).2
          · rw [K_id (m := whGo _ _ _), e5]
            simp_arith [K_eq g]
        | none =>
          obtain ⟨xx, c⟩ := c1 st hl
          have xx := xx.imp (src' := fun s e => s ∈ line ∧ e ∈ evs) fun s e => ⟨fun q => q.elim False.elim id, .inr⟩
          have v' := v.next chn_ok h0 xx
          obtain ⟨o7', o8', o9', o10', a, b, c, d, g⟩ := g1 st hl
          obtain ⟨i1, i2⟩ := bfs_go hx he f (n + 1) st.1 st.2 (some (.sh (.lst (st.2.map eSd)))) (some (.sh (.lst (st.2.map eSd)))) o7' o8' o9' o10' (by omega) v' (.inr rfl) nio_sh a b c d
          refine ⟨fun k' q => ?_, fun h' k' q => ?_⟩
          · obtain ⟨p5, p6, p7, p8, p9, p10, z⟩ := i1 k' q
            refine ⟨p5, p6, p7, p8, p9, p10, ?_⟩
            rw [K_id (m := whGo _ _ _), e5]
            simp_arith [K_eq g, K_eq z]
          · obtain ⟨row, ρ', t3, y1, y2, y3, y4, z⟩ := i2 h' k' q
            refine ⟨row, ρ', t3, y1, y2, y3, y4, ?_⟩
            rw [K_id (m := whGo _ _ _), e5]
            simp_arith [K_eq g, K_eq z]
/-- what the search of harms.py answers -/
theorem search_spec (hx : dItems x = some (evs.map eEv)) (r : Ru) (h : Option Hm) (he : evs.length ≤ 100) :
    (∃ k, (keysK k).Nodup ∧ (∀ t, t ∈ keysK k ↔ ∃ m, Rch (nxR r) evs sd0 m t) ∧ (∀ m s, Rch (nxR r) evs sd0 m s → ∀ e ∈ evs, hitH r h s e = false) ∧ f_search [.sh (eRu r), .sh x, .sh (eHo h)] = some (.ok (.tp [.ow (oP k), .sh .non]), [none, none, none])) ∨
    ∃ k row e, row.length ≤ 10000 ∧ (∀ e ∈ row, e ∈ evs) ∧ e ∈ evs ∧ hitH r h (row.foldl (nxR r) sd0) e = true ∧ (∀ m, m < row.length → ∀ s, Rch (nxR r) evs sd0 m s → ∀ e ∈ evs, hitH r h s e = false) ∧ f_search [.sh (eRu r), .sh x, .sh (eHo h)] = some (.ok (.sh (.tup [dP k, eRow (row ++ [e])])), [none, none, none]) := by
  have v : LV (nxR r) evs sd0 (Chn (nxR r) evs sd0) 0 [(sd0, (none : Par))] [sd0] := LV.first (.zero rfl)
  have fd := bfs_ok (hit := hitH r h) chn_ok sd_few TURNS 0 _ _ (by decide) v (fun m hm => absurd hm (by omega))
  obtain ⟨g1, g2⟩ := bfs_go (r := r) (h := h) (x3 := eSd sd0) hx he TURNS 0 [(sd0, none)] [sd0] (some (oL [sd0])) none none none none none (by decide) v (.inl rfl) nio_no nio_no nio_no nio_no nio_no
  have k0 : keyT (eSd sd0) = true := keyT_Sd sd0
  cases hb : bfs (hitH r h) (nxR r) mkP evs TURNS 0 [(sd0, (none : Par))] [sd0] with
  | mk o k =>
    rw [hb] at fd
    cases o with
    | none =>
      obtain ⟨f1, f2, f3⟩ := fd
      obtain ⟨p5, p6, p7, p8, p9, p10, z⟩ := g1 k hb
      refine .inl ⟨k, f1, f2, f3, ?_⟩
      have z : sWhile (tV (mNe (mP 5) (mLst (ret [])))) wb0_search [some (.sh (eRu r)), some (.sh x), some (.sh (eHo h)), some (.sh (eSd sd0)), some (.ow (.dic true [(eSd sd0, .non)])), some (.ow (.lst [eSd sd0])), none, none, none, none, none] = _ := z
      rw [f_search, mkFn_eq]
      simp_arith [begin_spec, k0, K_eq z]
    | some q =>
      obtain ⟨s, e⟩ := q
      obtain ⟨n, f1, f2, f3, f4, f5⟩ := fd
      obtain ⟨row, ρ', ⟨t0, t1, t2⟩, y1, y2, y3, y4, z⟩ := g2 (s, e) k hb
      have hle : row.length ≤ n := Nat.le_of_not_lt fun q => y1 n q f1
      refine .inr ⟨k, row, e, y2, y4, f2, ?_, fun m hm => f5 m (by omega), ?_⟩
      · rw [y3]; exact f3
      have z : sWhile (tV (mNe (mP 5) (mLst (ret [])))) wb0_search [some (.sh (eRu r)), some (.sh x), some (.sh (eHo h)), some (.sh (eSd sd0)), some (.ow (.dic true [(eSd sd0, .non)])), some (.ow (.lst [eSd sd0])), none, none, none, none, none] = _ := z
      rw [f_search, mkFn_eq]
      simp_arith [begin_spec, k0, K_eq z, t0, t1, t2]
end
end CM
end WF

set_option Elab.async false
set_option linter.all false
set_option maxRecDepth 100000
set_option maxHeartbeats 2000000
/-! C13: harms, first_row, count_stands of harms.py. -/
namespace WF
namespace M2
theorem sort_by {α : Type} (rk : α → Nat) {l m : List α} (inj : ∀ a b, rk a = rk b → a = b) (p : l.Perm m) (s : m.Pairwise fun a b => rk a ≤ rk b) : l.mergeSort (fun a b => decide (rk a ≤ rk b)) = m := by
  have q : (l.mergeSort fun a b => decide (rk a ≤ rk b)).Pairwise fun a b => rk a ≤ rk b := by
    have := List.pairwise_mergeSort (le := fun a b => decide (rk a ≤ rk b)) (fun a b c h1 h2 => decide_eq_true (Nat.le_trans (of_decide_eq_true h1) (of_decide_eq_true h2))) (fun a b => by
      rcases Nat.le_total (rk a) (rk b) with h | h
      · rw [decide_eq_true h]; rfl
      · rw [decide_eq_true h, Bool.or_true]) l
    exact this.imp fun h => of_decide_eq_true h
  exact List.Perm.eq_of_pairwise (le := fun a b => rk a ≤ rk b) (fun a b _ _ h h' => inj a b (Nat.le_antisymm h h')) q s ((List.mergeSort_perm l _).trans p)
def allHm : List Hm := [.kept, .nobody, .two, .wrong]
def rkH : Hm → Nat | .kept => 0 | .nobody => 1 | .two => 2 | .wrong => 3
def srtH (hs : List Hm) : List Hm := allHm.filter fun h => decide (h ∈ hs)
theorem mem_allHm (h : Hm) : h ∈ allHm := by cases h <;> decide
theorem mem_srtH {hs : List Hm} {h : Hm} : h ∈ srtH hs ↔ h ∈ hs := by
  unfold srtH
  rw [List.mem_filter]
  exact ⟨fun q => of_decide_eq_true q.2, fun q => ⟨mem_allHm h, decide_eq_true q⟩⟩
theorem srtH_sort {hs : List Hm} (nd : hs.Nodup) : hs.mergeSort (fun a b => decide (rkH a ≤ rkH b)) = srtH hs := by
  refine sort_by rkH (fun a b => by cases a <;> cases b <;> decide) ?_ ?_
  · refine (List.perm_ext_iff_of_nodup nd ?_).mpr fun a => mem_srtH.symm
    exact List.Pairwise.filter _ (by decide)
  · exact List.Pairwise.filter _ (by decide)
theorem srtH_ext {a b : List Hm} (h : ∀ x, x ∈ a ↔ x ∈ b) : srtH a = srtH b := by
  unfold srtH
  congr 1
  funext x
  rw [Bool.eq_iff_iff, decide_eq_true_iff, decide_eq_true_iff]
  exact h x
def addH (hs : List Hm) : Option Hm → List Hm
  | none => hs
  | some h => if h ∈ hs then hs else hs ++ [h]
theorem addH_some {hs : List Hm} {a : Hm} : addH hs (some a) = if a ∈ hs then hs else hs ++ [a] := rfl
theorem mem_addH {hs : List Hm} {o : Option Hm} {h : Hm} : h ∈ addH hs o ↔ h ∈ hs ∨ o = some h := by
  cases o with
  | none => simp [addH]
  | some a =>
    rw [addH_some]
    by_cases q : a ∈ hs
    · rw [if_pos q]
      exact ⟨.inl, fun z => z.elim id fun e => by cases e; exact q⟩
    · rw [if_neg q, List.mem_append, List.mem_singleton]
      exact ⟨fun z => z.imp id fun e => by rw [e], fun z => z.imp id fun e => by cases e; rfl⟩
theorem nodup_addH {hs : List Hm} {o : Option Hm} (nd : hs.Nodup) : (addH hs o).Nodup := by
  cases o with
  | none => exact nd
  | some a =>
    rw [addH_some]
    by_cases q : a ∈ hs
    · rw [if_pos q]; exact nd
    · rw [if_neg q, List.nodup_append]
      exact ⟨nd, by simp, fun x mx y my e => q (by rw [← List.mem_singleton.mp my, ← e]; exact mx)⟩
theorem hs_few {hs : List Hm} (nd : hs.Nodup) : hs.length ≤ 4 := nodup_le (m := allHm) nd fun x _ => mem_allHm x
def hsE (r : Ru) (s : Sd) (es : List Ev) (hs : List Hm) : List Hm := es.foldl (fun a e => addH a (harmOf r s e)) hs
theorem hsE_ok (r : Ru) (s : Sd) : ∀ (es : List Ev) {hs : List Hm}, hs.Nodup → (hsE r s es hs).Nodup ∧ ∀ h, h ∈ hsE r s es hs ↔ h ∈ hs ∨ ∃ e ∈ es, harmOf r s e = some h
  | [], hs, nd => ⟨nd, fun h => ⟨.inl, fun q => q.elim id fun ⟨e, m, _⟩ => nomatch m⟩⟩
  | e :: es, hs, nd => by
    obtain ⟨a, b⟩ := hsE_ok r s es (nodup_addH (o := harmOf r s e) nd)
    refine ⟨a, fun h => ?_⟩
    show h ∈ hsE r s es (addH hs (harmOf r s e)) ↔ _
    rw [b h, mem_addH]
    constructor
    · rintro ((q | q) | ⟨e', m, q⟩)
      · exact .inl q
      · exact .inr ⟨e, List.mem_cons_self, q⟩
      · exact .inr ⟨e', List.mem_cons_of_mem _ m, q⟩
    · rintro (q | ⟨e', m, q⟩)
      · exact .inl (.inl q)
      · rcases List.mem_cons.mp m with rfl | m
        · exact .inl (.inr q)
        · exact .inr ⟨e', m, q⟩
def hsS (r : Ru) (es : List Ev) (ss : List Sd) (hs : List Hm) : List Hm := ss.foldl (fun a s => hsE r s es a) hs
theorem hsS_ok (r : Ru) (es : List Ev) : ∀ (ss : List Sd) {hs : List Hm}, hs.Nodup → (hsS r es ss hs).Nodup ∧ ∀ h, h ∈ hsS r es ss hs ↔ h ∈ hs ∨ ∃ s ∈ ss, ∃ e ∈ es, harmOf r s e = some h
  | [], hs, nd => ⟨nd, fun h => ⟨.inl, fun q => q.elim id fun ⟨e, m, _⟩ => nomatch m⟩⟩
  | s :: ss, hs, nd => by
    obtain ⟨a0, b0⟩ := hsE_ok r s es nd
    obtain ⟨a, b⟩ := hsS_ok r es ss a0
    refine ⟨a, fun h => ?_⟩
    show h ∈ hsS r es ss (hsE r s es hs) ↔ _
    rw [b h, b0 h]
    constructor
    · rintro ((q | q) | ⟨s', m, q⟩)
      · exact .inl q
      · exact .inr ⟨s, List.mem_cons_self, q⟩
      · exact .inr ⟨s', List.mem_cons_of_mem _ m, q⟩
    · rintro (q | ⟨s', m, q⟩)
      · exact .inl (.inl q)
      · rcases List.mem_cons.mp m with rfl | m
        · exact .inl (.inr q)
        · exact .inr ⟨s', m, q⟩
/-- a harm that can come by some events -/
def Can (r : Ru) (evs : List Ev) (h : Hm) : Prop := ∃ m s, Rch (nxR r) evs sd0 m s ∧ ∃ e ∈ evs, harmOf r s e = some h
end M2
namespace CM
local macro_rules | `(tactic| simp_arith [$ls,*]) => `(tactic| simp only [KO_some, KO_none, KO_ite, KE_some, KE_none, KE_ite, K_ret, K_stuck, K_lift, kId_eq, eId_eq, un1_some, op2_some, dat_sh, dat_ow, dat_pl, dat_tp, sbsD_nil, sbsD_cons, toD_sh, toD_ow, toD_io, toD_lst, toD_dic, at_zero, at_succ, kV_sh, kV_lst, kV_dic, K_mV, kP_sh, kP_ow, kP_io, K_mP, kM_sh, kM_ow, K_mMv, K_mK, kOp2_eq, kOp1_eq, K_mOp, kUn_eq, K_mUn, K_mNeg, isNB_eq, notNB_eq, K_mIsN, K_mNotN, lele_int, kLL3_eq, kLL2_eq, kLL1_eq, K_mLeLe, kTV_eq, K_tV, kTA_eq, K_tAnd, kTO_eq, K_tOr, kTN_eq, K_tNot, K_yes, kMA2_eq, kMA1_eq, K_mAnd, kMO2_eq, kMO1_eq, K_mOr, notB_bl, K_mNot, kIf_eq, K_mIf, boolV_bl, tru_bl, tru_non, tru_int, tru_str, tru_tup, tru_lst, K_mNil, kC2_eq, kC1_eq, K_mCons, keptO_nil, keptO_sh, keptO_ow, keptO_tp, tupO_eq, lstO_eq, kTup_eq, kLst_eq, K_mTup, K_mLst, fzO_eq, kFz_eq, K_mFz, lzip2_eq, kLZ2_eq, kLZ1_eq, K_mLZip, K_mDic0, dic1_eq, kD2_eq, kD1_eq, K_mDic1, elB_sh, elB_ow, ixO_sh, ixO_ow, ixO_pl, ixO_tp, kIx2_eq, kIx1_eq, K_mIx, slO_eq, kSl3_eq, kSl2_eq, kSl1_eq, K_mSl, intD_int, K_mEndN, kEnd_eq, K_mEndS, K_mRev, get3_eq, kG3_eq, kG2_eq, kG1_eq, K_mGet, txtB_str, kSp3_eq, kSp2_eq, kSp1_eq, K_mSplit, lent_nil, lent_sh1, lent_ow, lent_tp, lent_pl, nodup0, nodup1, nodup2, handL_nil, handL_cons, handB_sh, handB_lst, handB_dic, handB_tp, handB_pl, lendS_sh, lendS_ow, lendS_io, argsO_eq, backL_nil, backL_cons, backB_sh, backB_ow, backB_tp, backB_plN, backB_plS, putE_zero, putE_succ, put_ow, put_io, sput_sh, KF_ok, KF_exc, KF_none, KF_ite, KF_r, kArg_eq, kCall_eq, K_mCall, ioS_io, ioS_sh, ioS_ow, ioS_no, outs0, outs1, outs2, outs3, outs4, outs5, kFn_rt, kFn_nx, eFn_eq, mkFn_eq, rep0, repS, itO_eq, kIt_eq, K_items, dItems_tup, dItems_lst, rngD_int, kRg_eq, K_itRange, zipO_eq, kZ2_eq, kZ1_eq, K_itZip, enO_eq, kEn_eq, K_itEnum, zip2_tup, zip2_lst, zipD_cons, zipD_nil, zipD_nil2, enumD_tup, enumD_lst, putS_succ, putS_no, putS_sh, putS_ow, putTg_one, putTg_tup, putSs_nil, putSs_cons, slots_one, slots_tup, clr_nil, clr_cons, back_nil, back_cons, free_nil, free_cons, fr1_succ, fr1_no, fr1_sh, kCoE_eq, kCo_eq, K_mComp, K_comp0, kCo3_eq, kCo2_eq, kCo1_eq, kCo0_eq, K_comp1, K_sPass, K_sBreak, K_sCont, kSeq_nx, kSeq_rt, kSeq_bk, kSeq_ct, K_sSeq, kDrop_eq, K_sDrop, K_sIf, kNx_eq, ownO_sh, ownO_ow, ownO_tp, setO_eq, kSet_eq, K_sSet, ownOs_nil, ownOs_cons, putA_nil, putA_cons, parO_eq, kPar_eq, K_sPar, tupB_tp, tupB_sh, unpO_eq, kUnp_eq, K_sUnp, putOE_zero, putOE_succ, obj_ow, obj_io, hasO_zero, hasO_succ, xsO_eq, kXS3_eq, kXS2_eq, kXS1_eq, K_sIxSet, apO_eq, kNon_eq, kAp2_eq, kAp1_eq, K_mApp, kKy_eq, K_itKeys, keysOf_dic, strD_str, getO_eq, getS_dic, kGt3_eq, kGt2_eq, kGt1_eq, kGt0_eq, K_mGetN, addAt_lst, setAt_lst, setAt_dicS, setAt_dicT, kFor_eq, K_sFor, kFor2_nx, kFor2_ct, kFor2_bk, kFor2_rt, kFor1_eq, K_for0, K_for1, kWh2_nx, kWh2_ct, kWh2_bk, kWh2_rt, kWh1_eq, kRet_sh, kRet_ow, kRet_tp, K_sRet, tpO_eq, kTp_eq, K_mTp, sbBs_nil, sbBs_cons, sbB_sh, sbB_ow, K_sRaise, eTry_eq, K_sTry, K_tryGo0, K_tryGo1, Add_int, Add_tup, Add_lst, Add_str, Sub_int, Mul_int, Mul_lst, Fdiv_int, Mod_int, Lt_int, Le_int, Gt_int, Ge_int, Eq_eq, Ne_eq, In_tup, In_lst, Nin_tup, Nin_lst, mem_nil, mem_cons, Ix_tup, Ix_lst, atI_0, atI_1, atI_2, atI_3, atI_4, atI_5, atI_6, Len_tup, Len_lst, Len_dic, Ix_dic, In_dic, Nin_dic, Min_int, Len_str, Int_int, Int_bl, Tuple_lst, Tuple_tup, List_lst, List_tup, List_dic, bools_nil, bools_cons, All_lst, Any_lst, dep_non, dep_bl, dep_int, dep_str, dep_tupS, dep_lstS, deps_nil, deps_cons, isNon_non, isNon_int, isNon_tup, isNon_lst, isNon_str, isNon_bl, eqv_ss, eqv_ii, eqv_bb, eqv_nn, eqv_tt, eqv_ll, eqvs_nn, eqvs_nc, eqvs_cn, eqvs_cc, upto_1, upto_2, upto_3, upto_7, K_mAdd, K_mSub, K_mMul, K_mFdiv, K_mMod, K_mPow, K_mEq, K_mNe, K_mLt, K_mLe, K_mGt, K_mGe, K_mIn, K_mNin, K_mMin, K_mJoin, K_mIndex, K_mLen, K_mInt, K_mStr, K_mTuple, K_mList, K_mAll, K_mAny, K_mSorted, K_mDict, K_mIsA, IsA_tup, IsA_lst, IsA_str, IsA_int, IsA_bl, Mul_tup, txt_nc, txt_cn, IsA_non, isA, LIM, List.drop_zero, List.take_zero, List.drop_succ_cons, List.take_succ_cons, List.drop_nil, List.take_nil, Nat.sub_zero, reduceIte, ite_true, ite_false, Nat.reduceAdd, Nat.reduceMul, Nat.reduceSub, Nat.reduceLT, Nat.reduceLeDiff, Nat.reduceEqDiff, Nat.reduceBEq, Nat.reduceBNe, Nat.reducePow, Int.reduceAdd, Int.reduceMul, Int.reduceNeg, Int.reduceSub, Int.reduceLE, Int.reduceLT, Int.reduceEq, Int.reduceBEq, Int.reduceBNe, Int.reducePow, Int.reduceToNat, Int.reduceNe, Int.reduceMod, Int.reduceDiv, Int.cast_ofNat_Int, Int.ofNat_zero, Int.ofNat_one, List.cons_beq_cons, and_true, true_and, and_self, and_false, false_and, not_false_eq_true, not_true_eq_false, or_true, true_or, or_false, false_or, List.map_cons, List.map_nil, List.length_cons, List.length_nil, List.cons_append, List.nil_append, List.append_nil, List.set_cons_zero, List.set_cons_succ, Option.bind_some, Option.bind_none, Option.map_some, Option.map_none, List.head?_cons, if_true, Bool.and_true, Bool.true_and, Bool.and_false, Bool.false_and, Bool.or_true, Bool.true_or, Bool.or_false, Bool.false_or, Bool.not_true, Bool.not_false, Bool.not_not, Bool.and_self, Bool.or_self, decide_true, decide_false, decide_eq_true_eq, beq_self_eq_true, Bool.false_eq_true, List.all_cons, List.all_nil, List.any_cons, List.any_nil, id_eq, Nat.max_self, Nat.sub_self, Nat.zero_le, Bool.decide_eq_true, List.isEmpty_cons, List.isEmpty_nil, ite_self, Nat.max_zero, Nat.zero_max, $ls,*])
open M2
def tHm : Hm → Txt | .kept => t_kept | .nobody => t_nobody | .two => t_two | .wrong => t_wrong
theorem eHm_str (h : Hm) : eHm h = .str (tHm h) := by cases h <;> rfl
theorem eqv_Hm (a b : Hm) : D.eqv (eHm a) (eHm b) = decide (a = b) := by cases a <;> cases b <;> rfl
theorem dep_eHm (a : Hm) : D.dep (eHm a) = 0 := by cases a <;> rfl
theorem deps_hms (hs : List Hm) : D.deps (hs.map eHm) = 0 := Nat.le_zero.mp (deps_le fun x m => by
  obtain ⟨s, _, rfl⟩ := List.mem_map.mp m
  rw [dep_eHm]; exact Nat.le_refl _)
theorem keyS_Hm (h : Hm) : keyOf false (eHm h) = true := by cases h <;> rfl
def eHd (hs : List Hm) : List (D × D) := hs.map fun h => (eHm h, .bl true)
theorem look_hd (hs : List Hm) (h : Hm) : (lookD (eHd hs) (eHm h)).isSome = decide (h ∈ hs) := by
  induction hs with
  | nil => rfl
  | cons a hs ih =>
    show (lookD ((eHm a, .bl true) :: eHd hs) (eHm h)).isSome = _
    rw [lookD_cons, eqv_Hm]
    by_cases q : a = h
    · simp [q]
    · have q' : ¬ h = a := fun e => q e.symm
      simp [q, q', ih]
theorem put_hd (hs : List Hm) (h : Hm) : putD (eHd hs) (eHm h) (.bl true) = eHd (addH hs (some h)) := by
  unfold putD
  rw [look_hd]
  rw [addH_some]
  by_cases q : h ∈ hs
  · rw [decide_eq_true q, if_pos rfl, if_pos q]
    unfold eHd
    rw [List.map_map]
    congr 1
    funext a
    show (if D.eqv (eHm a) (eHm h) = true then (eHm a, D.bl true) else (eHm a, D.bl true)) = _
    split <;> rfl
  · rw [decide_eq_false q, if_neg (by decide), if_neg q]
    simp [eHd]
theorem strL_hm (hs : List Hm) : strL (hs.map eHm) = some (hs.map tHm) := by
  induction hs with
  | nil => rfl
  | cons a hs ih =>
    rw [List.map_cons, eHm_str]
    show (strL (hs.map eHm)).map _ = _
    rw [ih]; rfl
theorem eHd_keys (hs : List Hm) : (eHd hs).map (·.1) = hs.map eHm := by simp [eHd]
theorem sorted_hd {hs : List Hm} (nd : hs.Nodup) : iSorted (.dic false (eHd hs)) = some (.ow (.lst ((srtH hs).map eHm))) := by
  have hl := hs_few nd
  unfold iSorted
  dsimp only
  rw [eHd_keys, strL_hm]
  dsimp only
  rw [if_pos (by rw [List.length_map]; omega), ← List.map_mergeSort (r := fun a b => decide (rkH a ≤ rkH b)) (f := tHm) (fun a _ b _ => by cases a <;> cases b <;> decide), srtH_sort nd, List.map_map]
  congr 4
  funext a
  exact (eHm_str a).symm
theorem sorted_hl {hs : List Hm} (nd : hs.Nodup) : iSorted (.lst (hs.map eHm)) = some (.ow (.lst ((srtH hs).map eHm))) := by
  have hl := hs_few nd
  have hc : canSort (hs.map eHm) = true := by
    unfold canSort
    rw [deps_hms]
    simp only [Bool.and_eq_true, List.all_eq_true, List.mem_map, decide_eq_true_eq, Bool.or_eq_true]
    refine ⟨⟨fun x ⟨a, _, ha⟩ y ⟨b, _, hb⟩ => ?_, .inr fun x ⟨a, _, ha⟩ => ?_⟩, by decide⟩
    · subst ha; subst hb; cases a <;> cases b <;> rfl
    · subst ha; cases a <;> rfl
  unfold iSorted
  dsimp only
  rw [if_pos hc, ← List.map_mergeSort (r := fun a b => decide (rkH a ≤ rkH b)) (f := eHm) (fun a _ b _ => by cases a <;> cases b <;> decide), srtH_sort nd]
theorem c_ev : c_EVENTS = xE allEv := rfl
theorem allEv_few : allEv.length ≤ 100 := by decide
section
variable {r : Ru} {s : Sd} {e : Ev} {hs : List Hm} {o2 o3 o4 : Option SB}
abbrev envH (r : Ru) (hs : List Hm) (o2 o3 o4 : Option SB) : Env := [some (.sh (eRu r)), some (.ow (.dic false (eHd hs))), o2, o3, o4]
theorem hin_turn (nd : hs.Nodup) (n4 : Nio o4) : ∃ o4', Nio o4' ∧ fb1_harms_in (envH r hs (some (.sh (eSd s))) (some (.sh (eEv e))) o4) = some (.ok .nx, envH r (addH hs (harmOf r s e)) (some (.sh (eSd s))) (some (.sh (eEv e))) o4') := by
  have hl : (eHd hs).length < 16777216 := by
    have := hs_few nd
    unfold eHd
    rw [List.length_map]; omega
  cases hh : harmOf r s e with
  | none =>
    refine ⟨o4, n4, ?_⟩
    rw [K_id (m := fb1_harms_in), fb1_harms_in]
    simp_arith [step_spec, harms_of_spec, hh, eHl, addH]
  | some h =>
    refine ⟨some (.sh (eHm h)), nio_sh, ?_⟩
    have st : fb0_harms_in (envH r hs (some (.sh (eSd s))) (some (.sh (eEv e))) (some (.sh (eHm h)))) = some (.ok .nx, envH r (addH hs (some h)) (some (.sh (eSd s))) (some (.sh (eEv e))) (some (.sh (eHm h)))) := by
      rw [K_id (m := fb0_harms_in), fb0_harms_in]
      simp_arith [keyS_Hm, hl, put_hd]
    rw [K_id (m := fb1_harms_in), fb1_harms_in]
    simp_arith [step_spec, harms_of_spec, hh, eHl, putS_nio n4, K_eq st]
theorem hin_evs : ∀ (es : List Ev) {hs : List Hm} {o3 o4 : Option SB}, hs.Nodup → Nio o3 → Nio o4 → ∃ o3' o4', Nio o3' ∧ Nio o4' ∧ forGo (.one 3) fb1_harms_in (es.map eEv) (envH r hs (some (.sh (eSd s))) o3 o4) = some (.ok .nx, envH r (hsE r s es hs) (some (.sh (eSd s))) o3' o4')
  | [], hs, o3, o4, nd, n3, n4 => ⟨o3, o4, n3, n4, rfl⟩
  | e :: es, hs, o3, o4, nd, n3, n4 => by
    obtain ⟨p4, m4, t⟩ := hin_turn (r := r) (s := s) (e := e) nd n4
    obtain ⟨q3, q4, k3, k4, g⟩ := hin_evs es (nodup_addH (o := harmOf r s e) nd) (o3 := some (.sh (eEv e))) nio_sh m4
    refine ⟨q3, q4, k3, k4, ?_⟩
    rw [K_id (m := forGo _ _ _), List.map_cons]
    simp_arith [putS_nio n3, K_eq t, K_eq g]
    rfl
theorem hin_sds : ∀ (ss : List Sd) {hs : List Hm} {o2 o3 o4 : Option SB}, hs.Nodup → Nio o2 → Nio o3 → Nio o4 → ∃ o2' o3' o4', forGo (.one 2) fb2_harms_in (ss.map eSd) (envH r hs o2 o3 o4) = some (.ok .nx, envH r (hsS r allEv ss hs) o2' o3' o4')
  | [], hs, o2, o3, o4, nd, n2, n3, n4 => ⟨o2, o3, o4, rfl⟩
  | s :: ss, hs, o2, o3, o4, nd, n2, n3, n4 => by
    obtain ⟨p3, p4, m3, m4, t⟩ := hin_evs (r := r) (s := s) allEv nd n3 n4
    obtain ⟨q2, q3, q4, g⟩ := hin_sds ss (hsE_ok r s allEv nd).1 (o2 := some (.sh (eSd s))) nio_sh m3 m4
    refine ⟨q2, q3, q4, ?_⟩
    have st : fb2_harms_in (envH r hs (some (.sh (eSd s))) o3 o4) = some (.ok .nx, envH r (hsE r s allEv hs) (some (.sh (eSd s))) p3 p4) := by
      rw [K_id (m := fb2_harms_in), fb2_harms_in]
      simp_arith [c_ev, K_eq t]
    rw [K_id (m := forGo _ _ _), List.map_cons]
    simp_arith [putS_nio n2, K_eq st, K_eq g]
    rfl
end
theorem search_all (r : Ru) : ∃ k, (keysK k).Nodup ∧ (∀ t, t ∈ keysK k ↔ ∃ m, Rch (nxR r) allEv sd0 m t) ∧ f_search [.sh (eRu r), .sh (xE allEv), .sh (.str t_empty)] = some (.ok (.tp [.ow (oP k), .sh .non]), [none, none, none]) := by
  rcases search_spec (x := xE allEv) rfl r none allEv_few with ⟨k, a, b, _, d⟩ | ⟨k, row, e, _, _, _, d, _⟩
  · exact ⟨k, a, b, d⟩
  · exact nomatch d
theorem count_enc (r : Ru) : ∃ l : List Sd, l.Nodup ∧ (∀ t, t ∈ l ↔ ∃ m, Rch (nxR r) allEv sd0 m t) ∧ f_count_stands [.sh (eRu r)] = some (.ok (.sh (.int l.length)), [none]) := by
  obtain ⟨k, a, b, e⟩ := search_all r
  refine ⟨keysK k, a, b, ?_⟩
  rw [f_count_stands, mkFn_eq]
  simp_arith [need_rule_enc, c_ev, e, eKn_len, keysK_len]
theorem harms_enc (r : Ru) : ∃ hs : List Hm, hs.Nodup ∧ (∀ h, h ∈ hs ↔ Can r allEv h) ∧ f_harms [.sh (eRu r)] = some (.ok (.ow (.lst ((srtH hs).map eHm))), [none]) := by
  obtain ⟨k, a, b, e⟩ := search_all r
  obtain ⟨nd, mm⟩ := hsS_ok r allEv (keysK k) (hs := []) List.nodup_nil
  obtain ⟨o2, o3, o4, g⟩ := hin_sds (r := r) (keysK k) (hs := []) (o2 := none) (o3 := none) (o4 := none) List.nodup_nil nio_no nio_no nio_no
  refine ⟨_, nd, fun h => ?_, ?_⟩
  · rw [mm h]
    constructor
    · rintro (q | ⟨s, m, q⟩)
      · exact nomatch q
      · obtain ⟨n, r⟩ := (b s).mp m
        exact ⟨n, s, r, q⟩
    · rintro ⟨n, s, r, q⟩
      exact .inr ⟨s, (b s).mpr ⟨n, r⟩, q⟩
  · have e1 : f_harms_in [.sh (eRu r)] = some (.ok (.ow (.lst ((srtH (hsS r allEv (keysK k) [])).map eHm))), [none]) := by
      have g : forGo (.one 2) fb2_harms_in ((keysK k).map eSd) [some (.sh (eRu r)), some (.ow (.dic false [])), none, none, none] = _ := g
      rw [f_harms_in, mkFn_eq]
      simp_arith [c_ev, e, keysOf_dic, eKn_keys, K_eq g, sorted_hd nd]
    rw [f_harms, mkFn_eq]
    simp_arith [need_rule_enc, e1]
theorem need_harm_enc (h : Hm) : f_need_harm [.sh (eHm h)] = some (.ok (.sh .non), [none]) := by cases h <;> rfl
/-- a shortest row to a harm, or none -/
theorem first_row_enc (r : Ru) (h : Hm) : (¬ Can r allEv h ∧ f_first_row [.sh (eRu r), .sh (eHm h)] = some (.ok (.sh .non), [none, none])) ∨
    ∃ row e, row.length ≤ 10000 ∧ harmOf r (row.foldl (nxR r) sd0) e = some h ∧ (∀ m, m < row.length → ∀ s, Rch (nxR r) allEv sd0 m s → ∀ e ∈ allEv, harmOf r s e ≠ some h) ∧ f_first_row [.sh (eRu r), .sh (eHm h)] = some (.ok (.sh (eRow (row ++ [e]))), [none, none]) := by
  rcases search_spec (x := xE allEv) rfl r (some h) allEv_few with ⟨k, a, b, c, d⟩ | ⟨k, row, e, a, _, _, b, c, d⟩
  · refine .inl ⟨fun ⟨m, s, q, e, me, z⟩ => ?_, ?_⟩
    · have := c m s q e me
      unfold hitH hitO at this
      rw [z] at this
      exact absurd this (by simp)
    · have d : f_search [.sh (eRu r), .sh (xE allEv), .sh (eHm h)] = _ := d
      rw [f_first_row, mkFn_eq]
      simp_arith [need_rule_enc, need_harm_enc, c_ev, d]
  · refine .inr ⟨row, e, a, ?_, fun m hm s q e me z => ?_, ?_⟩
    · exact beq_iff_eq.mp b
    · have := c m hm s q e me
      unfold hitH hitO at this
      rw [z] at this
      exact absurd this (by simp)
    · have d : f_search [.sh (eRu r), .sh (xE allEv), .sh (eHm h)] = _ := d
      rw [f_first_row, mkFn_eq]
      simp_arith [need_rule_enc, need_harm_enc, c_ev, d]
end CM
end WF

set_option Elab.async false
set_option linter.all false
set_option maxRecDepth 100000
set_option maxHeartbeats 2000000
/-! C14: the law's own graph of stands. -/
namespace WF
namespace M2
/-- harms with the fewest events -/
def putZ (sz : List (Hm × Int)) (m : Int) : Option Hm → List (Hm × Int)
  | none => sz
  | some h => if h ∈ keysK sz then sz else sz ++ [(h, m)]
theorem putZ_some {sz : List (Hm × Int)} {m : Int} {h : Hm} : putZ sz m (some h) = if h ∈ keysK sz then sz else sz ++ [(h, m)] := rfl
def szE (r : Ru) (m : Int) (s : Sd) (es : List Ev) (sz : List (Hm × Int)) : List (Hm × Int) := es.foldl (fun a e => putZ a m (harmOf r s e)) sz
def szS (r : Ru) (m : Int) (es : List Ev) (ss : List Sd) (sz : List (Hm × Int)) : List (Hm × Int) := ss.foldl (fun a s => szE r m s es a) sz
/-- what the sizes say behind n levels and some more pairs -/
structure SZ (r : Ru) (evs : List Ev) (n : Nat) (sz : List (Hm × Int)) (src : Sd → Ev → Prop) : Prop where
  nd : (keysK sz).Nodup
  le : ∀ h v, look sz h = some v → v ≤ (n : Int) + 1
  yes : ∀ h v, look sz h = some v → ∃ d : Nat, v = (d : Int) + 1 ∧ (∃ s, Rch (nxR r) evs sd0 d s ∧ ∃ e ∈ evs, harmOf r s e = some h) ∧ ∀ m, m < d → ∀ s, Rch (nxR r) evs sd0 m s → ∀ e ∈ evs, harmOf r s e ≠ some h
  no : ∀ h, look sz h = none → (∀ m, m < n → ∀ s, Rch (nxR r) evs sd0 m s → ∀ e ∈ evs, harmOf r s e ≠ some h) ∧ ∀ s e, src s e → harmOf r s e ≠ some h
theorem look_no {K V : Type} [DecidableEq K] {k : List (K × V)} {s : K} : look k s = none ↔ s ∉ keysK k := by
  rw [← look_mem]
  cases look k s <;> simp
theorem SZ.put {r : Ru} {evs : List Ev} {n : Nat} {sz : List (Hm × Int)} {src : Sd → Ev → Prop} (z : SZ r evs n sz src) {s : Sd} {e : Ev} (hs : Rch (nxR r) evs sd0 n s) (he : e ∈ evs) : SZ r evs n (putZ sz ((n : Int) + 1) (harmOf r s e)) (fun s' e' => src s' e' ∨ s' = s ∧ e' = e) := by
  cases hh : harmOf r s e with
  | none =>
    refine ⟨z.nd, z.le, z.yes, fun h q => ⟨(z.no h q).1, fun s' e' m => ?_⟩⟩
    rcases m with m | ⟨rfl, rfl⟩
    · exact (z.no h q).2 s' e' m
    · rw [hh]; exact fun q => nomatch q
  | some a =>
    rw [putZ_some]
    by_cases q : a ∈ keysK sz
    · rw [if_pos q]
      refine ⟨z.nd, z.le, z.yes, fun h q' => ⟨(z.no h q').1, fun s' e' m => ?_⟩⟩
      rcases m with m | ⟨rfl, rfl⟩
      · exact (z.no h q').2 s' e' m
      · rw [hh]
        intro w
        cases w
        exact look_no.mp q' q
    · rw [if_neg q]
      have lk : ∀ h, look (sz ++ [(a, (n : Int) + 1)]) h = if h ∈ keysK sz then look sz h else if a = h then some ((n : Int) + 1) else none := fun h => by
        rw [look_app]; rfl
      refine ⟨?_, fun h v w => ?_, fun h v w => ?_, fun h w => ?_⟩
      · rw [keysK_app, List.nodup_append]
        exact ⟨z.nd, by simp [keysK], fun x mx y my w => q (by have my : y = a := List.mem_singleton.mp my; rw [← my, ← w]; exact mx)⟩
      · rw [lk] at w
        by_cases m : h ∈ keysK sz
        · rw [if_pos m] at w; exact z.le h v w
        · rw [if_neg m] at w
          split at w
          · cases w; exact Int.le_refl _
          · cases w
      · rw [lk] at w
        by_cases m : h ∈ keysK sz
        · rw [if_pos m] at w; exact z.yes h v w
        · rw [if_neg m] at w
          split at w
          · rename_i ea
            cases w
            subst ea
            exact ⟨n, rfl, ⟨s, hs, e, he, hh⟩, (z.no a (look_no.mpr m)).1⟩
          · cases w
      · rw [lk] at w
        by_cases m : h ∈ keysK sz
        · rw [if_pos m] at w
          exact absurd m (look_no.mp w)
        · rw [if_neg m] at w
          obtain ⟨b, c⟩ := z.no h (look_no.mpr m)
          refine ⟨b, fun s' e' k => ?_⟩
          rcases k with k | ⟨rfl, rfl⟩
          · exact c s' e' k
          · rw [hh]
            intro y
            cases y
            rw [if_pos rfl] at w
            cases w
theorem SZ.imp {r : Ru} {evs : List Ev} {n : Nat} {sz : List (Hm × Int)} {src src' : Sd → Ev → Prop} (z : SZ r evs n sz src) (i : ∀ s e, src s e ↔ src' s e) : SZ r evs n sz src' := by
  have : src = src' := funext fun s => funext fun e => propext (i s e)
  rw [← this]; exact z
theorem szE_ok {r : Ru} {evs : List Ev} {n : Nat} {s : Sd} (hs : Rch (nxR r) evs sd0 n s) : ∀ (es : List Ev) {sz : List (Hm × Int)} {src : Sd → Ev → Prop}, (∀ e ∈ es, e ∈ evs) → SZ r evs n sz src → SZ r evs n (szE r ((n : Int) + 1) s es sz) (fun s' e' => src s' e' ∨ s' = s ∧ e' ∈ es)
  | [], sz, src, _, z => z.imp fun s' e' => ⟨.inl, fun q => q.elim id fun w => nomatch w.2⟩
  | e :: es, sz, src, h, z => by
    have g := szE_ok hs es (fun e' m => h e' (List.mem_cons_of_mem _ m)) (z.put hs (h e List.mem_cons_self))
    refine SZ.imp (src := fun s' e' => (src s' e' ∨ s' = s ∧ e' = e) ∨ s' = s ∧ e' ∈ es) g fun s' e' => ?_
    constructor
    · rintro ((w | ⟨rfl, rfl⟩) | ⟨rfl, w⟩)
      · exact .inl w
      · exact .inr ⟨rfl, List.mem_cons_self⟩
      · exact .inr ⟨rfl, List.mem_cons_of_mem _ w⟩
    · rintro (w | ⟨rfl, w⟩)
      · exact .inl (.inl w)
      · rcases List.mem_cons.mp w with rfl | w
        · exact .inl (.inr ⟨rfl, rfl⟩)
        · exact .inr ⟨rfl, w⟩
theorem szS_ok {r : Ru} {evs : List Ev} {n : Nat} : ∀ (ss : List Sd) {sz : List (Hm × Int)} {src : Sd → Ev → Prop}, (∀ s ∈ ss, Rch (nxR r) evs sd0 n s) → SZ r evs n sz src → SZ r evs n (szS r ((n : Int) + 1) evs ss sz) (fun s' e' => src s' e' ∨ s' ∈ ss ∧ e' ∈ evs)
  | [], sz, src, _, z => z.imp fun s' e' => ⟨.inl, fun q => q.elim id fun w => nomatch w.1⟩
  | s :: ss, sz, src, h, z => by
    have g := szS_ok ss (fun s' m => h s' (List.mem_cons_of_mem _ m)) (szE_ok (h s List.mem_cons_self) evs (fun _ m => m) z)
    refine SZ.imp (src := fun s' e' => (src s' e' ∨ s' = s ∧ e' ∈ evs) ∨ s' ∈ ss ∧ e' ∈ evs) g fun s' e' => ?_
    constructor
    · rintro ((w | ⟨rfl, w⟩) | ⟨w, w'⟩)
      · exact .inl w
      · exact .inr ⟨List.mem_cons_self, w⟩
      · exact .inr ⟨List.mem_cons_of_mem _ w, w'⟩
    · rintro (w | ⟨w, w'⟩)
      · exact .inl (.inl w)
      · rcases List.mem_cons.mp w with rfl | w
        · exact .inl (.inr ⟨rfl, w'⟩)
        · exact .inr ⟨w, w'⟩
theorem szE_le {r : Ru} {m : Int} {s : Sd} : ∀ {es : List Ev} {sz : List (Hm × Int)}, (keysK sz).Nodup ∧ (∀ h v, look sz h = some v → v ≤ m) → (keysK (szE r m s es sz)).Nodup ∧ ∀ h v, look (szE r m s es sz) h = some v → v ≤ m
  | [], sz, h => h
  | e :: es, sz, h => by
    refine szE_le (es := es) (sz := putZ sz m (harmOf r s e)) ?_
    cases harmOf r s e with
    | none => exact h
    | some a =>
      rw [putZ_some]
      by_cases q : a ∈ keysK sz
      · rw [if_pos q]; exact h
      · rw [if_neg q]
        refine ⟨?_, fun x v w => ?_⟩
        · rw [keysK_app, List.nodup_append]
          exact ⟨h.1, by simp [keysK], fun x mx y my w => q (by have my : y = a := List.mem_singleton.mp my; rw [← my, ← w]; exact mx)⟩
        · rw [look_app] at w
          by_cases k : x ∈ keysK sz
          · rw [if_pos k] at w; exact h.2 x v w
          · rw [if_neg k] at w
            have w : (if a = x then some m else none) = some v := w
            split at w
            · cases w; exact Int.le_refl _
            · cases w
def mkD (n : Nat) (_ : Sd) (_ : Ev) : Int := (n : Int) + 1
theorem dst_ok {nx : Sd → Ev → Sd} {evs : List Ev} : GOk nx mkD evs (fun k n s => look k s = some (n : Int)) := ⟨fun h c => h _ _ c, fun _ _ e => e⟩
theorem inn_free {S E V : Type} [DecidableEq S] {nx : S → E → S} {mk : S → E → V} {s : S} : ∀ {es : List E} {st : St2 S V}, (inn (fun _ _ => false) nx mk s es st).1 = none
  | [], _ => rfl
  | e :: es, st => by
    unfold inn
    rw [if_neg (by decide)]
    exact inn_free
theorem lvl_free {S E V : Type} [DecidableEq S] {nx : S → E → S} {mk : S → E → V} {evs : List E} : ∀ {ss : List S} {st : St2 S V}, (lvl (fun _ _ => false) nx mk evs ss st).1 = none
  | [], _ => rfl
  | s :: ss, st => by
    unfold lvl
    have h := inn_free (nx := nx) (mk := mk) (s := s) (es := evs) (st := st)
    cases hi : inn (fun _ _ => false) nx mk s evs st with
    | mk o st1 =>
      rw [hi] at h
      cases h
      exact lvl_free
end M2
namespace CM
local macro_rules | `(tactic| simp_arith [$ls,*]) => `(tactic| simp only [KO_some, KO_none, KO_ite, KE_some, KE_none, KE_ite, K_ret, K_stuck, K_lift, kId_eq, eId_eq, un1_some, op2_some, dat_sh, dat_ow, dat_pl, dat_tp, sbsD_nil, sbsD_cons, toD_sh, toD_ow, toD_io, toD_lst, toD_dic, at_zero, at_succ, kV_sh, kV_lst, kV_dic, K_mV, kP_sh, kP_ow, kP_io, K_mP, kM_sh, kM_ow, K_mMv, K_mK, kOp2_eq, kOp1_eq, K_mOp, kUn_eq, K_mUn, K_mNeg, isNB_eq, notNB_eq, K_mIsN, K_mNotN, lele_int, kLL3_eq, kLL2_eq, kLL1_eq, K_mLeLe, kTV_eq, K_tV, kTA_eq, K_tAnd, kTO_eq, K_tOr, kTN_eq, K_tNot, K_yes, kMA2_eq, kMA1_eq, K_mAnd, kMO2_eq, kMO1_eq, K_mOr, notB_bl, K_mNot, kIf_eq, K_mIf, boolV_bl, tru_bl, tru_non, tru_int, tru_str, tru_tup, tru_lst, K_mNil, kC2_eq, kC1_eq, K_mCons, keptO_nil, keptO_sh, keptO_ow, keptO_tp, tupO_eq, lstO_eq, kTup_eq, kLst_eq, K_mTup, K_mLst, fzO_eq, kFz_eq, K_mFz, lzip2_eq, kLZ2_eq, kLZ1_eq, K_mLZip, K_mDic0, dic1_eq, kD2_eq, kD1_eq, K_mDic1, elB_sh, elB_ow, ixO_sh, ixO_ow, ixO_pl, ixO_tp, kIx2_eq, kIx1_eq, K_mIx, slO_eq, kSl3_eq, kSl2_eq, kSl1_eq, K_mSl, intD_int, K_mEndN, kEnd_eq, K_mEndS, K_mRev, get3_eq, kG3_eq, kG2_eq, kG1_eq, K_mGet, txtB_str, kSp3_eq, kSp2_eq, kSp1_eq, K_mSplit, lent_nil, lent_sh1, lent_ow, lent_tp, lent_pl, nodup0, nodup1, nodup2, handL_nil, handL_cons, handB_sh, handB_lst, handB_dic, handB_tp, handB_pl, lendS_sh, lendS_ow, lendS_io, argsO_eq, backL_nil, backL_cons, backB_sh, backB_ow, backB_tp, backB_plN, backB_plS, putE_zero, putE_succ, put_ow, put_io, sput_sh, KF_ok, KF_exc, KF_none, KF_ite, KF_r, kArg_eq, kCall_eq, K_mCall, ioS_io, ioS_sh, ioS_ow, ioS_no, outs0, outs1, outs2, outs3, outs4, outs5, kFn_rt, kFn_nx, eFn_eq, mkFn_eq, rep0, repS, itO_eq, kIt_eq, K_items, dItems_tup, dItems_lst, rngD_int, kRg_eq, K_itRange, zipO_eq, kZ2_eq, kZ1_eq, K_itZip, enO_eq, kEn_eq, K_itEnum, zip2_tup, zip2_lst, zipD_cons, zipD_nil, zipD_nil2, enumD_tup, enumD_lst, putS_succ, putS_no, putS_sh, putS_ow, putTg_one, putTg_tup, putSs_nil, putSs_cons, slots_one, slots_tup, clr_nil, clr_cons, back_nil, back_cons, free_nil, free_cons, fr1_succ, fr1_no, fr1_sh, kCoE_eq, kCo_eq, K_mComp, K_comp0, kCo3_eq, kCo2_eq, kCo1_eq, kCo0_eq, K_comp1, K_sPass, K_sBreak, K_sCont, kSeq_nx, kSeq_rt, kSeq_bk, kSeq_ct, K_sSeq, kDrop_eq, K_sDrop, K_sIf, kNx_eq, ownO_sh, ownO_ow, ownO_tp, setO_eq, kSet_eq, K_sSet, ownOs_nil, ownOs_cons, putA_nil, putA_cons, parO_eq, kPar_eq, K_sPar, tupB_tp, tupB_sh, unpO_eq, kUnp_eq, K_sUnp, putOE_zero, putOE_succ, obj_ow, obj_io, hasO_zero, hasO_succ, xsO_eq, kXS3_eq, kXS2_eq, kXS1_eq, K_sIxSet, apO_eq, kNon_eq, kAp2_eq, kAp1_eq, K_mApp, kKy_eq, K_itKeys, keysOf_dic, strD_str, getO_eq, getS_dic, kGt3_eq, kGt2_eq, kGt1_eq, kGt0_eq, K_mGetN, addAt_lst, setAt_lst, setAt_dicS, setAt_dicT, kFor_eq, K_sFor, kFor2_nx, kFor2_ct, kFor2_bk, kFor2_rt, kFor1_eq, K_for0, K_for1, kWh2_nx, kWh2_ct, kWh2_bk, kWh2_rt, kWh1_eq, kRet_sh, kRet_ow, kRet_tp, K_sRet, tpO_eq, kTp_eq, K_mTp, sbBs_nil, sbBs_cons, sbB_sh, sbB_ow, K_sRaise, eTry_eq, K_sTry, K_tryGo0, K_tryGo1, Add_int, Add_tup, Add_lst, Add_str, Sub_int, Mul_int, Mul_lst, Fdiv_int, Mod_int, Lt_int, Le_int, Gt_int, Ge_int, Eq_eq, Ne_eq, In_tup, In_lst, Nin_tup, Nin_lst, mem_nil, mem_cons, Ix_tup, Ix_lst, atI_0, atI_1, atI_2, atI_3, atI_4, atI_5, atI_6, Len_tup, Len_lst, Len_dic, Ix_dic, In_dic, Nin_dic, Min_int, Len_str, Int_int, Int_bl, Tuple_lst, Tuple_tup, List_lst, List_tup, List_dic, bools_nil, bools_cons, All_lst, Any_lst, dep_non, dep_bl, dep_int, dep_str, dep_tupS, dep_lstS, deps_nil, deps_cons, isNon_non, isNon_int, isNon_tup, isNon_lst, isNon_str, isNon_bl, eqv_ss, eqv_ii, eqv_bb, eqv_nn, eqv_tt, eqv_ll, eqvs_nn, eqvs_nc, eqvs_cn, eqvs_cc, upto_1, upto_2, upto_3, upto_7, K_mAdd, K_mSub, K_mMul, K_mFdiv, K_mMod, K_mPow, K_mEq, K_mNe, K_mLt, K_mLe, K_mGt, K_mGe, K_mIn, K_mNin, K_mMin, K_mJoin, K_mIndex, K_mLen, K_mInt, K_mStr, K_mTuple, K_mList, K_mAll, K_mAny, K_mSorted, K_mDict, K_mIsA, IsA_tup, IsA_lst, IsA_str, IsA_int, IsA_bl, Mul_tup, txt_nc, txt_cn, IsA_non, isA, LIM, List.drop_zero, List.take_zero, List.drop_succ_cons, List.take_succ_cons, List.drop_nil, List.take_nil, Nat.sub_zero, reduceIte, ite_true, ite_false, Nat.reduceAdd, Nat.reduceMul, Nat.reduceSub, Nat.reduceLT, Nat.reduceLeDiff, Nat.reduceEqDiff, Nat.reduceBEq, Nat.reduceBNe, Nat.reducePow, Int.reduceAdd, Int.reduceMul, Int.reduceNeg, Int.reduceSub, Int.reduceLE, Int.reduceLT, Int.reduceEq, Int.reduceBEq, Int.reduceBNe, Int.reducePow, Int.reduceToNat, Int.reduceNe, Int.reduceMod, Int.reduceDiv, Int.cast_ofNat_Int, Int.ofNat_zero, Int.ofNat_one, List.cons_beq_cons, and_true, true_and, and_self, and_false, false_and, not_false_eq_true, not_true_eq_false, or_true, true_or, or_false, false_or, List.map_cons, List.map_nil, List.length_cons, List.length_nil, List.cons_append, List.nil_append, List.append_nil, List.set_cons_zero, List.set_cons_succ, Option.bind_some, Option.bind_none, Option.map_some, Option.map_none, List.head?_cons, if_true, Bool.and_true, Bool.true_and, Bool.and_false, Bool.false_and, Bool.or_true, Bool.true_or, Bool.or_false, Bool.false_or, Bool.not_true, Bool.not_false, Bool.not_not, Bool.and_self, Bool.or_self, decide_true, decide_false, decide_eq_true_eq, beq_self_eq_true, Bool.false_eq_true, List.all_cons, List.all_nil, List.any_cons, List.any_nil, id_eq, Nat.max_self, Nat.sub_self, Nat.zero_le, Bool.decide_eq_true, List.isEmpty_cons, List.isEmpty_nil, ite_self, Nat.max_zero, Nat.zero_max, $ls,*])
open M2
/-! ### events -/
def evU : List Ev := [.morning, .come .a, .come .b, .come .o, .clear false, .court false, .paper false, .say false .always, .say false .bar, .say false .no, .say false .once, .clear true, .court true, .paper true, .say true .always, .say true .bar, .say true .no, .say true .once]
def rkE (e : Ev) : Nat := allEv.idxOf e
theorem sorted_evs : iSorted (.lst (evU.map eEv)) = some (.ow (.lst (allEv.map eEv))) := by
  have hc : canSort (evU.map eEv) = true := by decide +kernel
  have hr : ∀ a ∈ evU, ∀ b ∈ evU, decide (rkE a ≤ rkE b) = leD (eEv a) (eEv b) := by decide +kernel
  have hi : ∀ a b, rkE a = rkE b → a = b := fun a b q => by
    have : ∀ a ∈ allEv, ∀ b ∈ allEv, rkE a = rkE b → a = b := by decide +kernel
    exact this a (mem_allEv a) b (mem_allEv b) q
  unfold iSorted
  dsimp only
  rw [if_pos hc, ← List.map_mergeSort (r := fun a b => decide (rkE a ≤ rkE b)) (f := eEv) hr, sort_by rkE (m := allEv) hi (by decide +kernel) (by decide +kernel)]
theorem law_events_spec : f__law_events [] = some (.ok (.ow (.lst (allEv.map eEv))), []) := by
  have h1 : sSet 0 (mAdd (mLst (ret (List.map B.sh [(.tup [(.str t_morning)])]))) (mComp (.one 1) (items (mK (.tup [(.int 0), (.int 1), (.int 2)]))) yes ce0__law_events)) [none, none, none, none] = some (.ok .nx, [some (.ow (.lst [.tup [.str t_morning], .tup [.str t_come, .int 0], .tup [.str t_come, .int 1], .tup [.str t_come, .int 2]])), none, none, none]) := by rfl
  have h2 : sFor (.one 2) (items (mK (.tup [(.int 0), (.int 1)]))) fb0__law_events [some (.ow (.lst [.tup [.str t_morning], .tup [.str t_come, .int 0], .tup [.str t_come, .int 1], .tup [.str t_come, .int 2]])), none, none, none] = some (.ok .nx, [some (.ow (.lst (evU.map eEv))), none, some (.sh (.int 1)), none]) := by rfl
  have e : f__law_events [] = (match (sSeq (sSet 0 (mAdd (mLst (ret (List.map B.sh [(.tup [(.str t_morning)])]))) (mComp (.one 1) (items (mK (.tup [(.int 0), (.int 1), (.int 2)]))) yes ce0__law_events))) (sSeq (sFor (.one 2) (items (mK (.tup [(.int 0), (.int 1)]))) fb0__law_events) (sRet (mSorted (mP 0))))) [none, none, none, none] with
    | none => none
    | some (.ok (.rt b), ρ) => some (.ok b, outs 0 ρ)
    | some (.ok .nx, ρ) => some (.ok (.sh .non), outs 0 ρ)
    | some (.ok _, _) => none
    | some (.exc c p, ρ) => some (.exc c p, outs 0 ρ)) := rfl
  rw [e]
  unfold sSeq
  rw [bind_eq h1]
  dsimp only
  rw [bind_eq h2]
  dsimp only
  have h3 : sRet (mSorted (mP 0)) [some (.ow (.lst (evU.map eEv))), none, some (.sh (.int 1)), none] = some (.ok (.rt (.ow (.lst (allEv.map eEv)))), [some (.ow (.lst (evU.map eEv))), none, some (.sh (.int 1)), none]) := by
    rw [K_id (m := sRet _)]
    simp_arith [sorted_evs]
  rw [h3]
  rfl
end CM
end WF

set_option Elab.async false
set_option linter.all false
set_option maxRecDepth 100000
set_option maxHeartbeats 2000000
/-! C15: the law's graph and leads, as the mirror has them. -/
namespace WF
namespace CM
local macro_rules | `(tactic| simp_arith [$ls,*]) => `(tactic| simp only [KO_some, KO_none, KO_ite, KE_some, KE_none, KE_ite, K_ret, K_stuck, K_lift, kId_eq, eId_eq, un1_some, op2_some, dat_sh, dat_ow, dat_pl, dat_tp, sbsD_nil, sbsD_cons, toD_sh, toD_ow, toD_io, toD_lst, toD_dic, at_zero, at_succ, kV_sh, kV_lst, kV_dic, K_mV, kP_sh, kP_ow, kP_io, K_mP, kM_sh, kM_ow, K_mMv, K_mK, kOp2_eq, kOp1_eq, K_mOp, kUn_eq, K_mUn, K_mNeg, isNB_eq, notNB_eq, K_mIsN, K_mNotN, lele_int, kLL3_eq, kLL2_eq, kLL1_eq, K_mLeLe, kTV_eq, K_tV, kTA_eq, K_tAnd, kTO_eq, K_tOr, kTN_eq, K_tNot, K_yes, kMA2_eq, kMA1_eq, K_mAnd, kMO2_eq, kMO1_eq, K_mOr, notB_bl, K_mNot, kIf_eq, K_mIf, boolV_bl, tru_bl, tru_non, tru_int, tru_str, tru_tup, tru_lst, K_mNil, kC2_eq, kC1_eq, K_mCons, keptO_nil, keptO_sh, keptO_ow, keptO_tp, tupO_eq, lstO_eq, kTup_eq, kLst_eq, K_mTup, K_mLst, fzO_eq, kFz_eq, K_mFz, lzip2_eq, kLZ2_eq, kLZ1_eq, K_mLZip, K_mDic0, dic1_eq, kD2_eq, kD1_eq, K_mDic1, elB_sh, elB_ow, ixO_sh, ixO_ow, ixO_pl, ixO_tp, kIx2_eq, kIx1_eq, K_mIx, slO_eq, kSl3_eq, kSl2_eq, kSl1_eq, K_mSl, intD_int, K_mEndN, kEnd_eq, K_mEndS, K_mRev, get3_eq, kG3_eq, kG2_eq, kG1_eq, K_mGet, txtB_str, kSp3_eq, kSp2_eq, kSp1_eq, K_mSplit, lent_nil, lent_sh1, lent_ow, lent_tp, lent_pl, nodup0, nodup1, nodup2, handL_nil, handL_cons, handB_sh, handB_lst, handB_dic, handB_tp, handB_pl, lendS_sh, lendS_ow, lendS_io, argsO_eq, backL_nil, backL_cons, backB_sh, backB_ow, backB_tp, backB_plN, backB_plS, putE_zero, putE_succ, put_ow, put_io, sput_sh, KF_ok, KF_exc, KF_none, KF_ite, KF_r, kArg_eq, kCall_eq, K_mCall, ioS_io, ioS_sh, ioS_ow, ioS_no, outs0, outs1, outs2, outs3, outs4, outs5, kFn_rt, kFn_nx, eFn_eq, mkFn_eq, rep0, repS, itO_eq, kIt_eq, K_items, dItems_tup, dItems_lst, rngD_int, kRg_eq, K_itRange, zipO_eq, kZ2_eq, kZ1_eq, K_itZip, enO_eq, kEn_eq, K_itEnum, zip2_tup, zip2_lst, zipD_cons, zipD_nil, zipD_nil2, enumD_tup, enumD_lst, putS_succ, putS_no, putS_sh, putS_ow, putTg_one, putTg_tup, putSs_nil, putSs_cons, slots_one, slots_tup, clr_nil, clr_cons, back_nil, back_cons, free_nil, free_cons, fr1_succ, fr1_no, fr1_sh, kCoE_eq, kCo_eq, K_mComp, K_comp0, kCo3_eq, kCo2_eq, kCo1_eq, kCo0_eq, K_comp1, K_sPass, K_sBreak, K_sCont, kSeq_nx, kSeq_rt, kSeq_bk, kSeq_ct, K_sSeq, kDrop_eq, K_sDrop, K_sIf, kNx_eq, ownO_sh, ownO_ow, ownO_tp, setO_eq, kSet_eq, K_sSet, ownOs_nil, ownOs_cons, putA_nil, putA_cons, parO_eq, kPar_eq, K_sPar, tupB_tp, tupB_sh, unpO_eq, kUnp_eq, K_sUnp, putOE_zero, putOE_succ, obj_ow, obj_io, hasO_zero, hasO_succ, xsO_eq, kXS3_eq, kXS2_eq, kXS1_eq, K_sIxSet, apO_eq, kNon_eq, kAp2_eq, kAp1_eq, K_mApp, kKy_eq, K_itKeys, keysOf_dic, strD_str, getO_eq, getS_dic, kGt3_eq, kGt2_eq, kGt1_eq, kGt0_eq, K_mGetN, addAt_lst, setAt_lst, setAt_dicS, setAt_dicT, kFor_eq, K_sFor, kFor2_nx, kFor2_ct, kFor2_bk, kFor2_rt, kFor1_eq, K_for0, K_for1, kWh2_nx, kWh2_ct, kWh2_bk, kWh2_rt, kWh1_eq, kRet_sh, kRet_ow, kRet_tp, K_sRet, tpO_eq, kTp_eq, K_mTp, sbBs_nil, sbBs_cons, sbB_sh, sbB_ow, K_sRaise, eTry_eq, K_sTry, K_tryGo0, K_tryGo1, Add_int, Add_tup, Add_lst, Add_str, Sub_int, Mul_int, Mul_lst, Fdiv_int, Mod_int, Lt_int, Le_int, Gt_int, Ge_int, Eq_eq, Ne_eq, In_tup, In_lst, Nin_tup, Nin_lst, mem_nil, mem_cons, Ix_tup, Ix_lst, atI_0, atI_1, atI_2, atI_3, atI_4, atI_5, atI_6, Len_tup, Len_lst, Len_dic, Ix_dic, In_dic, Nin_dic, Min_int, Len_str, Int_int, Int_bl, Tuple_lst, Tuple_tup, List_lst, List_tup, List_dic, bools_nil, bools_cons, All_lst, Any_lst, dep_non, dep_bl, dep_int, dep_str, dep_tupS, dep_lstS, deps_nil, deps_cons, isNon_non, isNon_int, isNon_tup, isNon_lst, isNon_str, isNon_bl, eqv_ss, eqv_ii, eqv_bb, eqv_nn, eqv_tt, eqv_ll, eqvs_nn, eqvs_nc, eqvs_cn, eqvs_cc, upto_1, upto_2, upto_3, upto_7, K_mAdd, K_mSub, K_mMul, K_mFdiv, K_mMod, K_mPow, K_mEq, K_mNe, K_mLt, K_mLe, K_mGt, K_mGe, K_mIn, K_mNin, K_mMin, K_mJoin, K_mIndex, K_mLen, K_mInt, K_mStr, K_mTuple, K_mList, K_mAll, K_mAny, K_mSorted, K_mDict, K_mIsA, IsA_tup, IsA_lst, IsA_str, IsA_int, IsA_bl, Mul_tup, txt_nc, txt_cn, IsA_non, isA, LIM, List.drop_zero, List.take_zero, List.drop_succ_cons, List.take_succ_cons, List.drop_nil, List.take_nil, Nat.sub_zero, reduceIte, ite_true, ite_false, Nat.reduceAdd, Nat.reduceMul, Nat.reduceSub, Nat.reduceLT, Nat.reduceLeDiff, Nat.reduceEqDiff, Nat.reduceBEq, Nat.reduceBNe, Nat.reducePow, Int.reduceAdd, Int.reduceMul, Int.reduceNeg, Int.reduceSub, Int.reduceLE, Int.reduceLT, Int.reduceEq, Int.reduceBEq, Int.reduceBNe, Int.reducePow, Int.reduceToNat, Int.reduceNe, Int.reduceMod, Int.reduceDiv, Int.cast_ofNat_Int, Int.ofNat_zero, Int.ofNat_one, List.cons_beq_cons, and_true, true_and, and_self, and_false, false_and, not_false_eq_true, not_true_eq_false, or_true, true_or, or_false, false_or, List.map_cons, List.map_nil, List.length_cons, List.length_nil, List.cons_append, List.nil_append, List.append_nil, List.set_cons_zero, List.set_cons_succ, Option.bind_some, Option.bind_none, Option.map_some, Option.map_none, List.head?_cons, if_true, Bool.and_true, Bool.true_and, Bool.and_false, Bool.false_and, Bool.or_true, Bool.true_or, Bool.or_false, Bool.false_or, Bool.not_true, Bool.not_false, Bool.not_not, Bool.and_self, Bool.or_self, decide_true, decide_false, decide_eq_true_eq, beq_self_eq_true, Bool.false_eq_true, List.all_cons, List.all_nil, List.any_cons, List.any_nil, id_eq, Nat.max_self, Nat.sub_self, Nat.zero_le, Bool.decide_eq_true, List.isEmpty_cons, List.isEmpty_nil, ite_self, Nat.max_zero, Nat.zero_max, $ls,*])
open M2
section
variable {r : Ru} {x x2 : D} {s : Sd} {e : Ev} {k : List (Sd × Int)} {l : List Sd} {sz : List (Hm × Int)} {m : Int} {o5 o7 o8 o9 o10 o11 o12 : Option SB}
abbrev eSz (sz : List (Hm × Int)) : List (D × D) := eKn eHm D.int sz
abbrev envG (r : Ru) (x x2 : D) (k : List (Sd × Int)) (l : List Sd) (o5 : Option SB) (sz : List (Hm × Int)) (o7 o8 o9 o10 o11 o12 : Option SB) : Env := [some (.sh (eRu r)), some (.sh x), some (.sh x2), some (.ow (.dic true (eKn eSd D.int k))), some (oL l), o5, some (.ow (.dic false (eSz sz))), o7, o8, o9, o10, o11, o12]
theorem putI {k : List (Sd × Int)} {t : Sd} {v : Int} (h : t ∉ keysK k) : putD (eKn eSd D.int k) (eSd t) (.int v) = eKn eSd D.int (k ++ [(t, v)]) := put_enc eqv_Sd h
theorem isSomeI {k : List (Sd × Int)} {t : Sd} : (lookD (eKn eSd D.int k) (eSd t)).isSome = decide (t ∈ keysK k) := look_isSome eqv_Sd t k
theorem lookZ (sz : List (Hm × Int)) (h : Hm) : lookD (eSz sz) (.str (tHm h)) = (look sz h).map D.int := by
  rw [← eHm_str]; exact look_enc eqv_Hm h sz
theorem look_uniq : ∀ {sz : List (Hm × Int)} {a : Hm} {u : Int}, (keysK sz).Nodup → (a, u) ∈ sz → look sz a = some u
  | [], _, _, _, m => nomatch m
  | p :: sz, a, u, nd, m => by
    obtain ⟨n1, n2⟩ := List.nodup_cons.mp nd
    unfold look
    rcases List.mem_cons.mp m with rfl | m
    · rw [if_pos rfl]
    · rw [if_neg (fun q => n1 (by show p.1 ∈ _; rw [q]; exact List.mem_map.mpr ⟨(a, u), m, rfl⟩))]
      exact look_uniq n2 m
theorem putZ_enc {h : Hm} (nd : (keysK sz).Nodup) (le : ∀ h v, look sz h = some v → v ≤ m) :
    putD (eSz sz) (eHm h) (.int (if ((look sz h).getD m) < m then (look sz h).getD m else m)) = eSz (putZ sz m (some h)) := by
  rw [putZ_some]
  by_cases q : h ∈ keysK sz
  · rw [if_pos q]
    obtain ⟨v, hv⟩ : ∃ v, look sz h = some v := Option.isSome_iff_exists.mp (look_mem.mpr q)
    have hm := le h v hv
    rw [hv]
    dsimp only [Option.getD_some]
    have e1 : (if v < m then v else m) = v := by split <;> omega
    rw [e1]
    unfold putD
    rw [look_isSome eqv_Hm, decide_eq_true q, if_pos rfl]
    unfold eSz eKn
    rw [List.map_map]
    refine List.map_congr_left fun p mp => ?_
    show (if D.eqv (eHm p.1) (eHm h) = true then (eHm p.1, D.int v) else (eHm p.1, D.int p.2)) = _
    rw [eqv_Hm]
    by_cases w : p.1 = h
    · rw [decide_eq_true w, if_pos rfl]
      have : look sz p.1 = some p.2 := look_uniq nd (by cases p; exact mp)
      rw [w, hv] at this
      cases this
      rfl
    · rw [decide_eq_false w, if_neg (by decide)]
  · rw [if_neg q]
    have : look sz h = none := look_no.mpr q
    rw [this]
    dsimp only [Option.getD_none]
    rw [ite_self]
    exact put_enc eqv_Hm q
theorem getI {o : Option Int} : (o.map D.int).getD (.int m) = .int (o.getD m) := by cases o <;> rfl
abbrev mkM (m : Int) (_ : Sd) (_ : Ev) : Int := m
theorem gr_turn (nd : (keysK sz).Nodup) (le : ∀ h v, look sz h = some v → v ≤ m) (n10 : Nio o10) (n11 : Nio o11) (n12 : Nio o12) (hk : k.length < 16777216) (hl : l.length < 16777216) {pre : List Sd} (hp : pre.length + l.length < 16777216) :
    ∃ o10', Nio o10' ∧ fb1__law_graph (envG r x x2 k (pre ++ l) o5 sz (some (.sh (eEv e))) (some (.sh (eSd s))) (some (.sh (.int m))) o10 o11 o12) = some (.ok .nx, envG r x x2 (ins (mkM m s e) (nxR r s e) (k, l)).1 (pre ++ (ins (mkM m s e) (nxR r s e) (k, l)).2) o5 (putZ sz m (harmOf r s e)) (some (.sh (eEv e))) (some (.sh (eSd s))) (some (.sh (.int m))) o10' (some (.sh (eSd (nxR r s e)))) (some (.sh (eTd (step r s e).2)))) := by
  have hz : sz.length < 16777216 := by
    have := hs_few nd
    rw [keysK_len] at this
    omega
  unfold nxR
  cases hh : harmOf r s e with
  | none =>
    refine ⟨o10, n10, ?_⟩
    rw [K_id (m := fb1__law_graph), fb1__law_graph]
    by_cases q : (step r s e).1 ∈ keysK k
    · rw [show ins (mkM m s e) (step r s e).1 (k, l) = (k, l) from if_pos q]
      simp_arith [law_on_spec, law_harms_spec, hh, eHl, putS_nio n11, putS_nio n12, keyOf_Sd, isSomeI, decide_eq_true q, putZ]
    · rw [show ins (mkM m s e) (step r s e).1 (k, l) = (k ++ [((step r s e).1, m)], l ++ [(step r s e).1]) from if_neg q]
      simp_arith [law_on_spec, law_harms_spec, hh, eHl, putS_nio n11, putS_nio n12, keyOf_Sd, isSomeI, decide_eq_false q, putZ, putI q, eKn_len, hk, List.length_map, List.length_append, hp, List.map_append, envG, oL, List.append_assoc]
  | some h =>
    refine ⟨some (.sh (eHm h)), nio_sh, ?_⟩
    have st : fb0__law_graph (envG r x x2 k (pre ++ l) o5 sz (some (.sh (eEv e))) (some (.sh (eSd s))) (some (.sh (.int m))) (some (.sh (eHm h))) (some (.sh (eSd (step r s e).1))) (some (.sh (eTd (step r s e).2)))) = some (.ok .nx, envG r x x2 k (pre ++ l) o5 (putZ sz m (some h)) (some (.sh (eEv e))) (some (.sh (eSd s))) (some (.sh (.int m))) (some (.sh (eHm h))) (some (.sh (eSd (step r s e).1))) (some (.sh (eTd (step r s e).2)))) := by
      have pz := putZ_enc (h := h) nd le
      have ks := keyS_Hm h
      rw [eHm_str] at pz ks ⊢
      rw [K_id (m := fb0__law_graph), fb0__law_graph]
      simp_arith [lookZ, getI, ks, eKn_len, hz, pz]
    rw [K_id (m := fb1__law_graph), fb1__law_graph]
    by_cases q : (step r s e).1 ∈ keysK k
    · rw [show ins (mkM m s e) (step r s e).1 (k, l) = (k, l) from if_pos q]
      simp_arith [law_on_spec, law_harms_spec, hh, eHl, putS_nio n10, putS_nio n11, putS_nio n12, K_eq st, keyOf_Sd, isSomeI, decide_eq_true q]
    · simp only [envG, oL, List.map_append] at st
      rw [show ins (mkM m s e) (step r s e).1 (k, l) = (k ++ [((step r s e).1, m)], l ++ [(step r s e).1]) from if_neg q]
      simp_arith [law_on_spec, law_harms_spec, hh, eHl, putS_nio n10, putS_nio n11, putS_nio n12, K_eq st, keyOf_Sd, isSomeI, decide_eq_false q, putI q, eKn_len, hk, List.length_map, List.length_append, hp, List.map_append, envG, oL, List.append_assoc]
theorem gr_evs {pre : List Sd} : ∀ (es : List Ev) {k : List (Sd × Int)} {l : List Sd} {sz : List (Hm × Int)} {o7 o10 o11 o12 : Option SB}, (keysK sz).Nodup → (∀ h v, look sz h = some v → v ≤ m) → Nio o7 → Nio o10 → Nio o11 → Nio o12 → k.length + es.length ≤ 16000000 → pre.length + l.length + es.length ≤ 16000000 →
    ∃ o7' o10' o11' o12', Nio o7' ∧ Nio o10' ∧ Nio o11' ∧ Nio o12' ∧ forGo (.one 7) fb1__law_graph (es.map eEv) (envG r x x2 k (pre ++ l) o5 sz o7 (some (.sh (eSd s))) (some (.sh (.int m))) o10 o11 o12) = some (.ok .nx, envG r x x2 (inn (fun _ _ => false) (nxR r) (mkM m) s es (k, l)).2.1 (pre ++ (inn (fun _ _ => false) (nxR r) (mkM m) s es (k, l)).2.2) o5 (szE r m s es sz) o7' (some (.sh (eSd s))) (some (.sh (.int m))) o10' o11' o12')
  | [], k, l, sz, o7, o10, o11, o12, nd, le, n7, n10, n11, n12, _, _ => ⟨o7, o10, o11, o12, n7, n10, n11, n12, rfl⟩
  | e :: es, k, l, sz, o7, o10, o11, o12, nd, le, n7, n10, n11, n12, hk, hl => by
    rw [List.length_cons] at hk hl
    obtain ⟨p10, m10, t⟩ := gr_turn (r := r) (x := x) (x2 := x2) (s := s) (e := e) (k := k) (l := l) (o5 := o5) nd le n10 n11 n12 (by omega) (by omega) (pre := pre) (by omega)
    have hb := ins_len (v := mkM m s e) (t := nxR r s e) (st := (k, l))
    have ei : inn (fun _ _ => false) (nxR r) (mkM m) s (e :: es) (k, l) = inn (fun _ _ => false) (nxR r) (mkM m) s es (ins (mkM m s e) (nxR r s e) (k, l)) := rfl
    rw [ei]
    generalize ins (mkM m s e) (nxR r s e) (k, l) = st at hb t ⊢
    obtain ⟨k1, l1⟩ := st
    have hb : k1.length ≤ k.length + 1 ∧ l1.length ≤ l.length + 1 := hb
    have sl := szE_le (r := r) (m := m) (s := s) (es := [e]) ⟨nd, le⟩
    have sl : (keysK (putZ sz m (harmOf r s e))).Nodup ∧ ∀ h v, look (putZ sz m (harmOf r s e)) h = some v → v ≤ m := sl
    obtain ⟨q7, q10, q11, q12, c7, c10, c11, c12, g⟩ := gr_evs (pre := pre) es (k := k1) (l := l1) (o7 := some (.sh (eEv e))) (o10 := p10) (o11 := some (.sh (eSd (nxR r s e)))) (o12 := some (.sh (eTd (step r s e).2))) sl.1 sl.2 nio_sh m10 nio_sh nio_sh (by omega) (by omega)
    refine ⟨q7, q10, q11, q12, c7, c10, c11, c12, ?_⟩
    rw [K_id (m := forGo _ _ _), List.map_cons]
    simp_arith [putS_nio n7, K_eq t, K_eq g]
    rfl
theorem at_mid (pre cur : List Sd) (s : Sd) : WF.atI ((pre ++ s :: cur).map eSd) (pre.length : Int) = some (eSd s) := by
  rw [atI_nat (by rw [List.length_map, List.length_append, List.length_cons]; omega)]
  simp
theorem at_end (pre cur : List Sd) (s : Sd) : ((pre ++ s :: cur).map eSd).length = pre.length + (cur.length + 1) := by simp
abbrev tG : M Bool := tV (mLt (mP 5) (mLen (mP 4)))
abbrev atS (pre : List Sd) : Option SB := some (.sh (.int (pre.length : Int)))
/-- one stand of the line -/
theorem gr_step {evs : List Ev} {pre cur : List Sd} {n : Int} {F : Nat} (nd : (keysK sz).Nodup) (le : ∀ h v, look sz h = some v → v ≤ n + 1) (hs : look k s = some n) (n7 : Nio o7) (n8 : Nio o8) (n9 : Nio o9) (n10 : Nio o10) (n11 : Nio o11) (n12 : Nio o12) (hk : k.length + evs.length ≤ 16000000) (hl : pre.length + (cur.length + 1) + l.length + evs.length ≤ 16000000) :
    ∃ o7' o8' o9' o10' o11' o12', Nio o7' ∧ Nio o8' ∧ Nio o9' ∧ Nio o10' ∧ Nio o11' ∧ Nio o12' ∧
      whGo tG wb0__law_graph (F + 1) (envG r (.lst (evs.map eEv)) x2 k (pre ++ s :: cur ++ l) (atS pre) sz o7 o8 o9 o10 o11 o12) =
      whGo tG wb0__law_graph F (envG r (.lst (evs.map eEv)) x2 (inn (fun _ _ => false) (nxR r) (mkM (n + 1)) s evs (k, l)).2.1 (pre ++ s :: cur ++ (inn (fun _ _ => false) (nxR r) (mkM (n + 1)) s evs (k, l)).2.2) (atS (pre ++ [s])) (szE r (n + 1) s evs sz) o7' o8' o9' o10' o11' o12') := by
  obtain ⟨p7, p10, p11, p12, m7, m10, m11, m12, g⟩ := gr_evs (r := r) (x := .lst (evs.map eEv)) (x2 := x2) (s := s) (m := n + 1) (o5 := atS pre) (pre := pre ++ s :: cur) evs (k := k) (l := l) (o7 := o7) (o10 := o10) (o11 := o11) (o12 := o12) nd le n7 n10 n11 n12 hk (by rw [List.length_append, List.length_cons]; omega)
  refine ⟨p7, some (.sh (eSd s)), some (.sh (.int (n + 1))), p10, p11, p12, m7, nio_sh, nio_sh, m10, m11, m12, ?_⟩
  have a1 : WF.atI ((pre ++ s :: cur ++ l).map eSd) (pre.length : Int) = some (eSd s) := by
    rw [List.append_assoc]; exact at_mid pre (cur ++ l) s
  have a2 : ((pre.length : Int) < (((pre ++ s :: cur ++ l).map eSd).length : Int)) = True := eq_true (by
    rw [List.append_assoc, List.cons_append, at_end]; omega)
  have a3 : lookD (eKn eSd D.int k) (eSd s) = some (.int n) := by rw [look_enc eqv_Sd, hs]; rfl
  have a4 : (pre.length : Int) + 1 = ((pre ++ [s]).length : Int) := by simp
  have hb : ∀ (kf : Ct Fl (Res Fl × Env)) (eX : Ex (Res Fl × Env)), K wb0__law_graph (envG r (.lst (evs.map eEv)) x2 k (pre ++ s :: cur ++ l) (atS pre) sz o7 o8 o9 o10 o11 o12) kf eX = kf .nx (envG r (.lst (evs.map eEv)) x2 (inn (fun _ _ => false) (nxR r) (mkM (n + 1)) s evs (k, l)).2.1 (pre ++ s :: cur ++ (inn (fun _ _ => false) (nxR r) (mkM (n + 1)) s evs (k, l)).2.2) (atS (pre ++ [s])) (szE r (n + 1) s evs sz) p7 (some (.sh (eSd s))) (some (.sh (.int (n + 1)))) p10 p11 p12) := fun kf eX => by
    rw [wb0__law_graph]
    simp_arith [a1, a3, keyOf_Sd, putS_nio n8, putS_nio n9, K_eq g, a4]
  rw [K_id (m := whGo _ _ _), K_wh1]
  simp_arith [a2, hb, kWh2_nx]
  exact K_id.symm
end
end CM
end WF

set_option Elab.async false
set_option linter.all false
set_option maxRecDepth 100000
set_option maxHeartbeats 2000000
/-! C16: the law's graph, whole; what leads to a harm. -/
namespace WF
namespace M2
theorem lvl_cons_free {S E V : Type} [DecidableEq S] {nx : S → E → S} {mk : S → E → V} {evs : List E} {s : S} {ss : List S} {st : St2 S V} : lvl (fun _ _ => false) nx mk evs (s :: ss) st = lvl (fun _ _ => false) nx mk evs ss (inn (fun _ _ => false) nx mk s evs st).2 := by
  have h := inn_free (nx := nx) (mk := mk) (s := s) (es := evs) (st := st)
  show (match inn (fun _ _ => false) nx mk s evs st with | (some h, st1) => (some h, st1) | (none, st1) => lvl (fun _ _ => false) nx mk evs ss st1) = _
  cases hi : inn (fun _ _ => false) nx mk s evs st with
  | mk o st1 => rw [hi] at h; cases h; rfl
theorem lvl_len {S E V : Type} [DecidableEq S] {nx : S → E → S} {mk : S → E → V} {evs : List E} : ∀ {ss : List S} {st : St2 S V}, (lvl (fun _ _ => false) nx mk evs ss st).2.2.length ≤ st.2.length + ss.length * evs.length
  | [], st => by show st.2.length ≤ _; omega
  | s :: ss, st => by
    rw [lvl_cons_free]
    have h1 := lvl_len (nx := nx) (mk := mk) (evs := evs) (ss := ss) (st := (inn (fun _ _ => false) nx mk s evs st).2)
    have h2 := (inn_len (hit := fun _ _ => false) (nx := nx) (mk := mk) (s := s) (es := evs) (st := st)).2
    rw [List.length_cons, Nat.succ_mul]
    omega
theorem LV.low {S E V : Type} [DecidableEq S] {nx : S → E → S} {evs : List E} {s0 : S} {G : List (S × V) → Nat → S → Prop} {n : Nat} {k : List (S × V)} (h : LV nx evs s0 G n k []) {m : Nat} {s : S} (r : Rch nx evs s0 m s) : ∃ j, j < n ∧ Rch nx evs s0 j s := by
  obtain ⟨m', hm, r'⟩ := (h.keys s).mp ((h.done s).mpr ⟨m, r⟩)
  by_cases q : m' < n
  · exact ⟨m', q, r'⟩
  · have : m' = n := by omega
    subst this
    have : ¬ ∀ j, j < m' → ¬ Rch nx evs s0 j s := fun q => nomatch (h.line s).mpr ⟨r', q⟩
    obtain ⟨j, q⟩ := Classical.not_forall.mp this
    obtain ⟨hj, q⟩ := Classical.not_imp.mp q
    exact ⟨j, hj, Classical.not_not.mp q⟩
theorem SZ.next {r : Ru} {evs : List Ev} {n : Nat} {sz : List (Hm × Int)} {V : Type} {G : List (Sd × V) → Nat → Sd → Prop} {k : List (Sd × V)} {line : List Sd} (v : LV (nxR r) evs sd0 G n k line) (z : SZ r evs n sz (fun s e => s ∈ line ∧ e ∈ evs)) : SZ r evs (n + 1) sz (fun _ _ => False) := by
  refine ⟨z.nd, fun h v q => ?_, z.yes, fun h q => ⟨fun m hm s rs e me => ?_, fun _ _ f => f.elim⟩⟩
  · have := z.le h v q
    have : ((n + 1 : Nat) : Int) = (n : Int) + 1 := by simp
    omega
  · obtain ⟨a, b⟩ := z.no h q
    by_cases hn : m < n
    · exact a m hn s rs e me
    · have : m = n := by omega
      subst this
      by_cases w : ∀ j, j < m → ¬ Rch (nxR r) evs sd0 j s
      · exact b s e ⟨(v.line s).mpr ⟨rs, w⟩, me⟩
      · obtain ⟨j, q⟩ := Classical.not_forall.mp w
        obtain ⟨hj, q⟩ := Classical.not_imp.mp q
        exact a j hj s (Classical.not_not.mp q) e me
/-- what the sizes say in the end -/
structure Sized (r : Ru) (evs : List Ev) (sz : List (Hm × Int)) : Prop where
  nd : (keysK sz).Nodup
  yes : ∀ h v, look sz h = some v → ∃ d : Nat, v = (d : Int) + 1 ∧ (∃ s, Rch (nxR r) evs sd0 d s ∧ ∃ e ∈ evs, harmOf r s e = some h) ∧ ∀ m, m < d → ∀ s, Rch (nxR r) evs sd0 m s → ∀ e ∈ evs, harmOf r s e ≠ some h
  no : ∀ h, look sz h = none → ¬ Can r evs h
end M2
namespace CM
local macro_rules | `(tactic| simp_arith [$ls,*]) => `(tactic| simp only [KO_some, KO_none, KO_ite, KE_some, KE_none, KE_ite, K_ret, K_stuck, K_lift, kId_eq, eId_eq, un1_some, op2_some, dat_sh, dat_ow, dat_pl, dat_tp, sbsD_nil, sbsD_cons, toD_sh, toD_ow, toD_io, toD_lst, toD_dic, at_zero, at_succ, kV_sh, kV_lst, kV_dic, K_mV, kP_sh, kP_ow, kP_io, K_mP, kM_sh, kM_ow, K_mMv, K_mK, kOp2_eq, kOp1_eq, K_mOp, kUn_eq, K_mUn, K_mNeg, isNB_eq, notNB_eq, K_mIsN, K_mNotN, lele_int, kLL3_eq, kLL2_eq, kLL1_eq, K_mLeLe, kTV_eq, K_tV, kTA_eq, K_tAnd, kTO_eq, K_tOr, kTN_eq, K_tNot, K_yes, kMA2_eq, kMA1_eq, K_mAnd, kMO2_eq, kMO1_eq, K_mOr, notB_bl, K_mNot, kIf_eq, K_mIf, boolV_bl, tru_bl, tru_non, tru_int, tru_str, tru_tup, tru_lst, K_mNil, kC2_eq, kC1_eq, K_mCons, keptO_nil, keptO_sh, keptO_ow, keptO_tp, tupO_eq, lstO_eq, kTup_eq, kLst_eq, K_mTup, K_mLst, fzO_eq, kFz_eq, K_mFz, lzip2_eq, kLZ2_eq, kLZ1_eq, K_mLZip, K_mDic0, dic1_eq, kD2_eq, kD1_eq, K_mDic1, elB_sh, elB_ow, ixO_sh, ixO_ow, ixO_pl, ixO_tp, kIx2_eq, kIx1_eq, K_mIx, slO_eq, kSl3_eq, kSl2_eq, kSl1_eq, K_mSl, intD_int, K_mEndN, kEnd_eq, K_mEndS, K_mRev, get3_eq, kG3_eq, kG2_eq, kG1_eq, K_mGet, txtB_str, kSp3_eq, kSp2_eq, kSp1_eq, K_mSplit, lent_nil, lent_sh1, lent_ow, lent_tp, lent_pl, nodup0, nodup1, nodup2, handL_nil, handL_cons, handB_sh, handB_lst, handB_dic, handB_tp, handB_pl, lendS_sh, lendS_ow, lendS_io, argsO_eq, backL_nil, backL_cons, backB_sh, backB_ow, backB_tp, backB_plN, backB_plS, putE_zero, putE_succ, put_ow, put_io, sput_sh, KF_ok, KF_exc, KF_none, KF_ite, KF_r, kArg_eq, kCall_eq, K_mCall, ioS_io, ioS_sh, ioS_ow, ioS_no, outs0, outs1, outs2, outs3, outs4, outs5, kFn_rt, kFn_nx, eFn_eq, mkFn_eq, rep0, repS, itO_eq, kIt_eq, K_items, dItems_tup, dItems_lst, rngD_int, kRg_eq, K_itRange, zipO_eq, kZ2_eq, kZ1_eq, K_itZip, enO_eq, kEn_eq, K_itEnum, zip2_tup, zip2_lst, zipD_cons, zipD_nil, zipD_nil2, enumD_tup, enumD_lst, putS_succ, putS_no, putS_sh, putS_ow, putTg_one, putTg_tup, putSs_nil, putSs_cons, slots_one, slots_tup, clr_nil, clr_cons, back_nil, back_cons, free_nil, free_cons, fr1_succ, fr1_no, fr1_sh, kCoE_eq, kCo_eq, K_mComp, K_comp0, kCo3_eq, kCo2_eq, kCo1_eq, kCo0_eq, K_comp1, K_sPass, K_sBreak, K_sCont, kSeq_nx, kSeq_rt, kSeq_bk, kSeq_ct, K_sSeq, kDrop_eq, K_sDrop, K_sIf, kNx_eq, ownO_sh, ownO_ow, ownO_tp, setO_eq, kSet_eq, K_sSet, ownOs_nil, ownOs_cons, putA_nil, putA_cons, parO_eq, kPar_eq, K_sPar, tupB_tp, tupB_sh, unpO_eq, kUnp_eq, K_sUnp, putOE_zero, putOE_succ, obj_ow, obj_io, hasO_zero, hasO_succ, xsO_eq, kXS3_eq, kXS2_eq, kXS1_eq, K_sIxSet, apO_eq, kNon_eq, kAp2_eq, kAp1_eq, K_mApp, kKy_eq, K_itKeys, keysOf_dic, strD_str, getO_eq, getS_dic, kGt3_eq, kGt2_eq, kGt1_eq, kGt0_eq, K_mGetN, addAt_lst, setAt_lst, setAt_dicS, setAt_dicT, kFor_eq, K_sFor, kFor2_nx, kFor2_ct, kFor2_bk, kFor2_rt, kFor1_eq, K_for0, K_for1, kWh2_nx, kWh2_ct, kWh2_bk, kWh2_rt, kWh1_eq, kRet_sh, kRet_ow, kRet_tp, K_sRet, tpO_eq, kTp_eq, K_mTp, sbBs_nil, sbBs_cons, sbB_sh, sbB_ow, K_sRaise, eTry_eq, K_sTry, K_tryGo0, K_tryGo1, Add_int, Add_tup, Add_lst, Add_str, Sub_int, Mul_int, Mul_lst, Fdiv_int, Mod_int, Lt_int, Le_int, Gt_int, Ge_int, Eq_eq, Ne_eq, In_tup, In_lst, Nin_tup, Nin_lst, mem_nil, mem_cons, Ix_tup, Ix_lst, atI_0, atI_1, atI_2, atI_3, atI_4, atI_5, atI_6, Len_tup, Len_lst, Len_dic, Ix_dic, In_dic, Nin_dic, Min_int, Len_str, Int_int, Int_bl, Tuple_lst, Tuple_tup, List_lst, List_tup, List_dic, bools_nil, bools_cons, All_lst, Any_lst, dep_non, dep_bl, dep_int, dep_str, dep_tupS, dep_lstS, deps_nil, deps_cons, isNon_non, isNon_int, isNon_tup, isNon_lst, isNon_str, isNon_bl, eqv_ss, eqv_ii, eqv_bb, eqv_nn, eqv_tt, eqv_ll, eqvs_nn, eqvs_nc, eqvs_cn, eqvs_cc, upto_1, upto_2, upto_3, upto_7, K_mAdd, K_mSub, K_mMul, K_mFdiv, K_mMod, K_mPow, K_mEq, K_mNe, K_mLt, K_mLe, K_mGt, K_mGe, K_mIn, K_mNin, K_mMin, K_mJoin, K_mIndex, K_mLen, K_mInt, K_mStr, K_mTuple, K_mList, K_mAll, K_mAny, K_mSorted, K_mDict, K_mIsA, IsA_tup, IsA_lst, IsA_str, IsA_int, IsA_bl, Mul_tup, txt_nc, txt_cn, IsA_non, isA, LIM, List.drop_zero, List.take_zero, List.drop_succ_cons, List.take_succ_cons, List.drop_nil, List.take_nil, Nat.sub_zero, reduceIte, ite_true, ite_false, Nat.reduceAdd, Nat.reduceMul, Nat.reduceSub, Nat.reduceLT, Nat.reduceLeDiff, Nat.reduceEqDiff, Nat.reduceBEq, Nat.reduceBNe, Nat.reducePow, Int.reduceAdd, Int.reduceMul, Int.reduceNeg, Int.reduceSub, Int.reduceLE, Int.reduceLT, Int.reduceEq, Int.reduceBEq, Int.reduceBNe, Int.reducePow, Int.reduceToNat, Int.reduceNe, Int.reduceMod, Int.reduceDiv, Int.cast_ofNat_Int, Int.ofNat_zero, Int.ofNat_one, List.cons_beq_cons, and_true, true_and, and_self, and_false, false_and, not_false_eq_true, not_true_eq_false, or_true, true_or, or_false, false_or, List.map_cons, List.map_nil, List.length_cons, List.length_nil, List.cons_append, List.nil_append, List.append_nil, List.set_cons_zero, List.set_cons_succ, Option.bind_some, Option.bind_none, Option.map_some, Option.map_none, List.head?_cons, if_true, Bool.and_true, Bool.true_and, Bool.and_false, Bool.false_and, Bool.or_true, Bool.true_or, Bool.or_false, Bool.false_or, Bool.not_true, Bool.not_false, Bool.not_not, Bool.and_self, Bool.or_self, decide_true, decide_false, decide_eq_true_eq, beq_self_eq_true, Bool.false_eq_true, List.all_cons, List.all_nil, List.any_cons, List.any_nil, id_eq, Nat.max_self, Nat.sub_self, Nat.zero_le, Bool.decide_eq_true, List.isEmpty_cons, List.isEmpty_nil, ite_self, Nat.max_zero, Nat.zero_max, $ls,*])
open M2
section
variable {r : Ru} {x2 : D} {evs : List Ev}
theorem gr_lvl (he : evs.length ≤ 100) {n : Int} {F : Nat} : ∀ (cur : List Sd) {pre : List Sd} {k : List (Sd × Int)} {l : List Sd} {sz : List (Hm × Int)} {o7 o8 o9 o10 o11 o12 : Option SB}, (keysK sz).Nodup → (∀ h v, look sz h = some v → v ≤ n + 1) → (∀ s ∈ cur, look k s = some n) → Nio o7 → Nio o8 → Nio o9 → Nio o10 → Nio o11 → Nio o12 →
    k.length + cur.length * 100 ≤ 15000000 → pre.length + cur.length + l.length + cur.length * 100 ≤ 15000000 → ∃ o7' o8' o9' o10' o11' o12', Nio o7' ∧ Nio o8' ∧ Nio o9' ∧ Nio o10' ∧ Nio o11' ∧ Nio o12' ∧
      whGo tG wb0__law_graph (F + cur.length) (envG r (.lst (evs.map eEv)) x2 k (pre ++ cur ++ l) (atS pre) sz o7 o8 o9 o10 o11 o12) =
      whGo tG wb0__law_graph F (envG r (.lst (evs.map eEv)) x2 (lvl (fun _ _ => false) (nxR r) (mkM (n + 1)) evs cur (k, l)).2.1 (pre ++ cur ++ (lvl (fun _ _ => false) (nxR r) (mkM (n + 1)) evs cur (k, l)).2.2) (atS (pre ++ cur)) (szS r (n + 1) evs cur sz) o7' o8' o9' o10' o11' o12')
  | [], pre, k, l, sz, o7, o8, o9, o10, o11, o12, nd, le, hs, n7, n8, n9, n10, n11, n12, _, _ => ⟨o7, o8, o9, o10, o11, o12, n7, n8, n9, n10, n11, n12, by rw [List.append_nil]; rfl⟩
  | s :: cur, pre, k, l, sz, o7, o8, o9, o10, o11, o12, nd, le, hs, n7, n8, n9, n10, n11, n12, hk, hl => by
    rw [List.length_cons] at hk hl
    obtain ⟨p7, p8, p9, p10, p11, p12, m7, m8, m9, m10, m11, m12, g⟩ := gr_step (r := r) (x2 := x2) (evs := evs) (pre := pre) (cur := cur) (n := n) (F := F + cur.length) (k := k) (l := l) nd le (hs s List.mem_cons_self) n7 n8 n9 n10 n11 n12 (by omega) (by omega)
    have sl := szE_le (r := r) (m := n + 1) (s := s) (es := evs) ⟨nd, le⟩
    have hq := inn_leq (hit := fun _ _ => false) (nx := nxR r) (mk := mkM (n + 1)) (s := s) (es := evs) (st := (k, l))
    have hb := inn_len (hit := fun _ _ => false) (nx := nxR r) (mk := mkM (n + 1)) (s := s) (es := evs) (st := (k, l))
    rw [lvl_cons_free]
    generalize (inn (fun _ _ => false) (nxR r) (mkM (n + 1)) s evs (k, l)).2 = st at g hq hb ⊢
    obtain ⟨k1, l1⟩ := st
    have hb : k1.length ≤ k.length + evs.length ∧ l1.length ≤ l.length + evs.length := hb
    obtain ⟨q7, q8, q9, q10, q11, q12, c7, c8, c9, c10, c11, c12, g2⟩ := gr_lvl he (n := n) (F := F) cur (pre := pre ++ [s]) (k := k1) (l := l1) (sz := szE r (n + 1) s evs sz) (o7 := p7) (o8 := p8) (o9 := p9) (o10 := p10) (o11 := p11) (o12 := p12) sl.1 sl.2 (fun s' m => hq _ _ (hs s' (List.mem_cons_of_mem _ m))) m7 m8 m9 m10 m11 m12 (by omega) (by rw [List.length_append, List.length_cons, List.length_nil]; omega)
    refine ⟨q7, q8, q9, q10, q11, q12, c7, c8, c9, c10, c11, c12, ?_⟩
    have e1 : pre ++ s :: cur = pre ++ [s] ++ cur := by simp
    rw [List.length_cons, ← Nat.add_assoc, g]
    rw [e1]
    exact g2
theorem gr_go (he : evs.length ≤ 100) : ∀ (f n : Nat) (k : List (Sd × Int)) (line pre : List Sd) (sz : List (Hm × Int)) (F : Nat) (o7 o8 o9 o10 o11 o12 : Option SB), 8192 < f + n → LV (nxR r) evs sd0 (fun k n s => look k s = some (n : Int)) n k line → SZ r evs n sz (fun _ _ => False) → pre.length + line.length = k.length → 8192 < F + pre.length → Nio o7 → Nio o8 → Nio o9 → Nio o10 → Nio o11 → Nio o12 →
    ∃ k' l' o5' sz' o7' o8' o9' o10' o11' o12', (keysK k').Nodup ∧ (∀ t, t ∈ keysK k' ↔ ∃ m, Rch (nxR r) evs sd0 m t) ∧ Sized r evs sz' ∧
      whGo tG wb0__law_graph F (envG r (.lst (evs.map eEv)) x2 k (pre ++ line) (atS pre) sz o7 o8 o9 o10 o11 o12) = some (.ok .nx, envG r (.lst (evs.map eEv)) x2 k' l' o5' sz' o7' o8' o9' o10' o11' o12')
  | 0, n, k, line, pre, sz, F, o7, o8, o9, o10, o11, o12, hf, v, _, _, _, _, _, _, _, _, _ => absurd (v.small sd_few) (by have := v.len; omega)
  | f + 1, n, k, line, pre, sz, F, o7, o8, o9, o10, o11, o12, hf, v, z, hp, hF, n7, n8, n9, n10, n11, n12 => by
    have hB := v.small sd_few
    by_cases h0 : line = []
    · subst h0
      rw [List.length_nil] at hp
      obtain ⟨F', rfl⟩ : ∃ F', F = F' + 1 := ⟨F - 1, by omega⟩
      refine ⟨k, pre, atS pre, sz, o7, o8, o9, o10, o11, o12, v.nd, v.done, ⟨z.nd, z.yes, fun h q ⟨m, s, rs, e, me, w⟩ => ?_⟩, ?_⟩
      · obtain ⟨j, hj, rj⟩ := v.low rs
        exact (z.no h q).1 j hj s rj e me w
      · rw [List.append_nil, K_id (m := whGo _ _ _), K_wh1]
        have a2 : ((pre.length : Int) < (pre.length : Int)) = False := eq_false (by omega)
        simp_arith [List.length_map, a2]
    · obtain ⟨F', rfl⟩ : ∃ F', F = F' + line.length := ⟨F - line.length, by omega⟩
      have hz : (keysK sz).Nodup := z.nd
      obtain ⟨q7, q8, q9, q10, q11, q12, c7, c8, c9, c10, c11, c12, g⟩ := gr_lvl (r := r) (x2 := x2) he (n := (n : Int)) (F := F') line (pre := pre) (k := k) (l := []) (sz := sz) (o7 := o7) (o8 := o8) (o9 := o9) (o10 := o10) (o11 := o11) (o12 := o12) z.nd z.le v.g n7 n8 n9 n10 n11 n12 (by omega) (by rw [List.length_nil]; omega)
      obtain ⟨c1, _⟩ := lvl_ok (hit := fun _ _ => false) (evs := evs) line (Ext.init (nx := nxR r) (mk := mkD n) (k0 := k) v.nd)
      have lf := lvl_free (nx := nxR r) (mk := mkD n) (evs := evs) (ss := line) (st := (k, []))
      cases hl : lvl (fun _ _ => false) (nxR r) (mkD n) evs line (k, []) with
      | mk o st =>
        rw [hl] at lf
        cases lf
        obtain ⟨x, _⟩ := c1 st hl
        have x := x.imp (src' := fun s e => s ∈ line ∧ e ∈ evs) fun s e => ⟨fun q => q.elim False.elim id, .inr⟩
        have v' := v.next dst_ok h0 x
        have sz1 := (szS_ok (r := r) (evs := evs) (n := n) line (fun s m => ((v.line s).mp m).1) z).imp (src' := fun s e => s ∈ line ∧ e ∈ evs) fun s e => ⟨fun q => q.elim False.elim id, .inr⟩
        have z' := sz1.next v
        have xl := x.len
        obtain ⟨k', l', o5', sz', b7, b8, b9, b10, b11, b12, d1, d2, d3, d4⟩ := gr_go he f (n + 1) st.1 st.2 (pre ++ line) _ F' q7 q8 q9 q10 q11 q12 (by omega) v' z' (by rw [List.length_append]; omega) (by rw [List.length_append]; omega) c7 c8 c9 c10 c11 c12
        refine ⟨k', l', o5', sz', b7, b8, b9, b10, b11, b12, d1, d2, d3, ?_⟩
        have g' : lvl (fun _ _ => false) (nxR r) (mkM ((n : Int) + 1)) evs line (k, []) = (none, st) := hl
        rw [g', List.append_nil] at g
        exact g.trans d4
theorem graph_spec (r : Ru) (he : evs.length ≤ 100) : ∃ (k : List (Sd × Int)) (sz : List (Hm × Int)), (keysK k).Nodup ∧ (∀ t, t ∈ keysK k ↔ ∃ m, Rch (nxR r) evs sd0 m t) ∧ Sized r evs sz ∧ f__law_graph [.sh (eRu r), .sh (.lst (evs.map eEv))] = some (.ok (.tp [.ow (.dic true (eKn eSd D.int k)), .ow (.dic false (eSz sz))]), [none, none]) := by
  have v : LV (nxR r) evs sd0 (fun k n s => look k s = some (n : Int)) 0 [(sd0, (0 : Int))] [sd0] := LV.first rfl
  have z : SZ r evs 0 [] (fun _ _ => False) := ⟨List.nodup_nil, fun h v q => (by cases q), fun h v q => (by cases q), fun h q => ⟨fun m hm => absurd hm (by omega), fun _ _ f => f.elim⟩⟩
  obtain ⟨k', l', o5', sz', b7, b8, b9, b10, b11, b12, d1, d2, d3, g⟩ := gr_go (r := r) (x2 := eSd sd0) he TURNS 0 _ _ [] [] TURNS none none none none none none (by decide) v z rfl (by decide) nio_no nio_no nio_no nio_no nio_no nio_no
  refine ⟨k', sz', d1, d2, d3, ?_⟩
  have k0 : keyT (eSd sd0) = true := keyT_Sd sd0
  have g : sWhile tG wb0__law_graph [some (.sh (eRu r)), some (.sh (.lst (evs.map eEv))), some (.sh (eSd sd0)), some (.ow (.dic true [(eSd sd0, .int 0)])), some (.ow (.lst [eSd sd0])), some (.sh (.int 0)), some (.ow (.dic false [])), none, none, none, none, none, none] = _ := g
  rw [f__law_graph, mkFn_eq]
  simp_arith [new_spec, k0, K_eq g]
/-! ### leads -/
theorem ld_turn (s : Sd) (e : Ev) (x h : D) (fs : List D) {o6 o7 : Option SB} (n6 : Nio o6) (n7 : Nio o7) :
    fb0__law_leads [some (.sh (eRu r)), some (.sh x), some (.sh h), some (.sh (eSd s)), some (.ow (.lst fs)), some (.sh (eEv e)), o6, o7] = some (.ok .nx, [some (.sh (eRu r)), some (.sh x), some (.sh h), some (.sh (eSd (nxR r s e))), some (.ow (.lst (eHl (harmOf r s e)))), some (.sh (eEv e)), some (.sh (eSd (nxR r s e))), some (.sh (eTd (step r s e).2))]) := by
  unfold nxR
  rw [K_id (m := fb0__law_leads), fb0__law_leads]
  simp_arith [law_on_spec, law_harms_spec, putS_nio n6, putS_nio n7]
theorem ld_go (x h : D) (e : Ev) : ∀ (es : List Ev) (s : Sd) (fs : List D) {o5 o6 o7 : Option SB}, Nio o5 → Nio o6 → Nio o7 → ∃ o5' o6' o7', forGo (.one 5) fb0__law_leads ((es ++ [e]).map eEv) [some (.sh (eRu r)), some (.sh x), some (.sh h), some (.sh (eSd s)), some (.ow (.lst fs)), o5, o6, o7] = some (.ok .nx, [some (.sh (eRu r)), some (.sh x), some (.sh h), some (.sh (eSd (nxR r (es.foldl (nxR r) s) e))), some (.ow (.lst (eHl (harmOf r (es.foldl (nxR r) s) e)))), o5', o6', o7'])
  | [], s, fs, o5, o6, o7, n5, n6, n7 => by
    refine ⟨some (.sh (eEv e)), some (.sh (eSd (nxR r s e))), some (.sh (eTd (step r s e).2)), ?_⟩
    rw [K_id (m := forGo _ _ _)]
    simp_arith [putS_nio n5, K_eq (ld_turn s e x h fs n6 n7), List.foldl_nil]
  | a :: es, s, fs, o5, o6, o7, n5, n6, n7 => by
    obtain ⟨q5, q6, q7, g⟩ := ld_go x h e es (nxR r s a) (eHl (harmOf r s a)) (o5 := some (.sh (eEv a))) (o6 := some (.sh (eSd (nxR r s a)))) (o7 := some (.sh (eTd (step r s a).2))) nio_sh nio_sh nio_sh
    refine ⟨q5, q6, q7, ?_⟩
    rw [K_id (m := forGo _ _ _), List.cons_append, List.map_cons]
    simp_arith [-List.cons_append, putS_nio n5, K_eq (ld_turn s a x h fs n6 n7), K_eq g, List.foldl_cons]
theorem leads_spec (r : Ru) (es : List Ev) (e : Ev) (h : Hm) : f__law_leads [.sh (eRu r), .sh (eRow (es ++ [e])), .sh (eHm h)] = some (.ok (.sh (.bl (harmOf r (es.foldl (nxR r) sd0) e == some h))), [none, none, none]) := by
  obtain ⟨q5, q6, q7, g⟩ := ld_go (r := r) (eRow (es ++ [e])) (eHm h) e es sd0 [] nio_no nio_no nio_no
  have mh : memD (eHm h) (eHl (harmOf r (es.foldl (nxR r) sd0) e)) = (harmOf r (es.foldl (nxR r) sd0) e == some h) := mem_hm (h := some h)
  rw [f__law_leads, mkFn_eq]
  rw [eRow] at g ⊢
  simp_arith [new_spec, K_eq g, mh, dep_eHm, deps_eHl]
end
end CM
end WF

set_option Elab.async false
set_option linter.all false
set_option maxRecDepth 100000
set_option maxHeartbeats 2000000
/-! C17: rows that are reached; dicts of harms; what first_row says of all harms. -/
namespace WF
namespace M2
theorem rch_fold {S E : Type} {nx : S → E → S} {evs : List E} {s0 : S} : ∀ (row : List E) {n : Nat} {s : S}, Rch nx evs s0 n s → (∀ e ∈ row, e ∈ evs) → Rch nx evs s0 (n + row.length) (row.foldl nx s)
  | [], n, s, r, _ => r
  | e :: row, n, s, r, h => by
    have := rch_fold row (.succ r (h e List.mem_cons_self)) fun e' m => h e' (List.mem_cons_of_mem _ m)
    rw [List.length_cons, List.foldl_cons, show n + (row.length + 1) = n + 1 + row.length by omega]
    exact this
theorem rch_row {r : Ru} {evs : List Ev} (row : List Ev) (h : ∀ e ∈ row, e ∈ evs) : Rch (nxR r) evs sd0 row.length (row.foldl (nxR r) sd0) := by
  have := rch_fold row (Rch.zero (nx := nxR r) (evs := evs) (s0 := sd0)) h
  rw [Nat.zero_add] at this
  exact this
/-- reached by a row -/
theorem row_rch {r : Ru} {evs : List Ev} {n : Nat} {s : Sd} (h : Rch (nxR r) evs sd0 n s) : ∃ row : List Ev, row.length = n ∧ (∀ e ∈ row, e ∈ evs) ∧ row.foldl (nxR r) sd0 = s := by
  induction h with
  | zero => exact ⟨[], rfl, fun _ m => (nomatch m), rfl⟩
  | @succ n s e _ me ih =>
    obtain ⟨row, h1, h2, h3⟩ := ih
    refine ⟨row ++ [e], by rw [List.length_append, h1]; rfl, fun x m => ?_, by rw [List.foldl_append, h3]; rfl⟩
    rcases List.mem_append.mp m with q | q
    · exact h2 x q
    · rw [List.mem_singleton.mp q]; exact me
theorem rch_ext {r : Ru} {a b : List Ev} (h : ∀ e, e ∈ a → e ∈ b) {n : Nat} {s : Sd} (x : Rch (nxR r) a sd0 n s) : Rch (nxR r) b sd0 n s := by
  induction x with
  | zero => exact .zero
  | succ _ me ih => exact .succ ih (h _ me)
theorem can_ext {r : Ru} {a b : List Ev} {x : Hm} (h : ∀ e, e ∈ a ↔ e ∈ b) : Can r a x ↔ Can r b x :=
  ⟨fun ⟨m, s, q, e, me, w⟩ => ⟨m, s, rch_ext (fun e => (h e).mp) q, e, (h e).mp me, w⟩, fun ⟨m, s, q, e, me, w⟩ => ⟨m, s, rch_ext (fun e => (h e).mpr) q, e, (h e).mpr me, w⟩⟩
theorem led_fold (r : Ru) : ∀ (es : List Ev) (s : Sd), (led r s es).1 = es.foldl (nxR r) s
  | [], _ => rfl
  | e :: es, s => led_fold r es (nxR r s e)
theorem Sized.can {r : Ru} {evs : List Ev} {sz : List (Hm × Int)} (z : Sized r evs sz) (h : Hm) : h ∈ keysK sz ↔ Can r evs h := by
  rw [← look_mem]
  cases q : look sz h with
  | none => exact ⟨fun w => (nomatch w), fun w => absurd w (z.no h q)⟩
  | some v =>
    obtain ⟨d, _, ⟨s, rs, e, me, w⟩, _⟩ := z.yes h v q
    exact ⟨fun _ => ⟨d, s, rs, e, me, w⟩, fun _ => rfl⟩
theorem same_len {α : Type} [DecidableEq α] {a b : List α} (na : a.Nodup) (nb : b.Nodup) (h : ∀ x, x ∈ a ↔ x ∈ b) : a.length = b.length :=
  Nat.le_antisymm (nodup_le na fun x m => (h x).mp m) (nodup_le nb fun x m => (h x).mpr m)
theorem srtH_nd (hs : List Hm) : (srtH hs).Nodup := List.Pairwise.filter _ (by decide)
end M2
namespace CM
local macro_rules | `(tactic| simp_arith [$ls,*]) => `(tactic| simp only [KO_some, KO_none, KO_ite, KE_some, KE_none, KE_ite, K_ret, K_stuck, K_lift, kId_eq, eId_eq, un1_some, op2_some, dat_sh, dat_ow, dat_pl, dat_tp, sbsD_nil, sbsD_cons, toD_sh, toD_ow, toD_io, toD_lst, toD_dic, at_zero, at_succ, kV_sh, kV_lst, kV_dic, K_mV, kP_sh, kP_ow, kP_io, K_mP, kM_sh, kM_ow, K_mMv, K_mK, kOp2_eq, kOp1_eq, K_mOp, kUn_eq, K_mUn, K_mNeg, isNB_eq, notNB_eq, K_mIsN, K_mNotN, lele_int, kLL3_eq, kLL2_eq, kLL1_eq, K_mLeLe, kTV_eq, K_tV, kTA_eq, K_tAnd, kTO_eq, K_tOr, kTN_eq, K_tNot, K_yes, kMA2_eq, kMA1_eq, K_mAnd, kMO2_eq, kMO1_eq, K_mOr, notB_bl, K_mNot, kIf_eq, K_mIf, boolV_bl, tru_bl, tru_non, tru_int, tru_str, tru_tup, tru_lst, K_mNil, kC2_eq, kC1_eq, K_mCons, keptO_nil, keptO_sh, keptO_ow, keptO_tp, tupO_eq, lstO_eq, kTup_eq, kLst_eq, K_mTup, K_mLst, fzO_eq, kFz_eq, K_mFz, lzip2_eq, kLZ2_eq, kLZ1_eq, K_mLZip, K_mDic0, dic1_eq, kD2_eq, kD1_eq, K_mDic1, elB_sh, elB_ow, ixO_sh, ixO_ow, ixO_pl, ixO_tp, kIx2_eq, kIx1_eq, K_mIx, slO_eq, kSl3_eq, kSl2_eq, kSl1_eq, K_mSl, intD_int, K_mEndN, kEnd_eq, K_mEndS, K_mRev, get3_eq, kG3_eq, kG2_eq, kG1_eq, K_mGet, txtB_str, kSp3_eq, kSp2_eq, kSp1_eq, K_mSplit, lent_nil, lent_sh1, lent_ow, lent_tp, lent_pl, nodup0, nodup1, nodup2, handL_nil, handL_cons, handB_sh, handB_lst, handB_dic, handB_tp, handB_pl, lendS_sh, lendS_ow, lendS_io, argsO_eq, backL_nil, backL_cons, backB_sh, backB_ow, backB_tp, backB_plN, backB_plS, putE_zero, putE_succ, put_ow, put_io, sput_sh, KF_ok, KF_exc, KF_none, KF_ite, KF_r, kArg_eq, kCall_eq, K_mCall, ioS_io, ioS_sh, ioS_ow, ioS_no, outs0, outs1, outs2, outs3, outs4, outs5, kFn_rt, kFn_nx, eFn_eq, mkFn_eq, rep0, repS, itO_eq, kIt_eq, K_items, dItems_tup, dItems_lst, rngD_int, kRg_eq, K_itRange, zipO_eq, kZ2_eq, kZ1_eq, K_itZip, enO_eq, kEn_eq, K_itEnum, zip2_tup, zip2_lst, zipD_cons, zipD_nil, zipD_nil2, enumD_tup, enumD_lst, putS_succ, putS_no, putS_sh, putS_ow, putTg_one, putTg_tup, putSs_nil, putSs_cons, slots_one, slots_tup, clr_nil, clr_cons, back_nil, back_cons, free_nil, free_cons, fr1_succ, fr1_no, fr1_sh, kCoE_eq, kCo_eq, K_mComp, K_comp0, kCo3_eq, kCo2_eq, kCo1_eq, kCo0_eq, K_comp1, K_sPass, K_sBreak, K_sCont, kSeq_nx, kSeq_rt, kSeq_bk, kSeq_ct, K_sSeq, kDrop_eq, K_sDrop, K_sIf, kNx_eq, ownO_sh, ownO_ow, ownO_tp, setO_eq, kSet_eq, K_sSet, ownOs_nil, ownOs_cons, putA_nil, putA_cons, parO_eq, kPar_eq, K_sPar, tupB_tp, tupB_sh, unpO_eq, kUnp_eq, K_sUnp, putOE_zero, putOE_succ, obj_ow, obj_io, hasO_zero, hasO_succ, xsO_eq, kXS3_eq, kXS2_eq, kXS1_eq, K_sIxSet, apO_eq, kNon_eq, kAp2_eq, kAp1_eq, K_mApp, kKy_eq, K_itKeys, keysOf_dic, strD_str, getO_eq, getS_dic, kGt3_eq, kGt2_eq, kGt1_eq, kGt0_eq, K_mGetN, addAt_lst, setAt_lst, setAt_dicS, setAt_dicT, kFor_eq, K_sFor, kFor2_nx, kFor2_ct, kFor2_bk, kFor2_rt, kFor1_eq, K_for0, K_for1, kWh2_nx, kWh2_ct, kWh2_bk, kWh2_rt, kWh1_eq, kRet_sh, kRet_ow, kRet_tp, K_sRet, tpO_eq, kTp_eq, K_mTp, sbBs_nil, sbBs_cons, sbB_sh, sbB_ow, K_sRaise, eTry_eq, K_sTry, K_tryGo0, K_tryGo1, Add_int, Add_tup, Add_lst, Add_str, Sub_int, Mul_int, Mul_lst, Fdiv_int, Mod_int, Lt_int, Le_int, Gt_int, Ge_int, Eq_eq, Ne_eq, In_tup, In_lst, Nin_tup, Nin_lst, mem_nil, mem_cons, Ix_tup, Ix_lst, atI_0, atI_1, atI_2, atI_3, atI_4, atI_5, atI_6, Len_tup, Len_lst, Len_dic, Ix_dic, In_dic, Nin_dic, Min_int, Len_str, Int_int, Int_bl, Tuple_lst, Tuple_tup, List_lst, List_tup, List_dic, bools_nil, bools_cons, All_lst, Any_lst, dep_non, dep_bl, dep_int, dep_str, dep_tupS, dep_lstS, deps_nil, deps_cons, isNon_non, isNon_int, isNon_tup, isNon_lst, isNon_str, isNon_bl, eqv_ss, eqv_ii, eqv_bb, eqv_nn, eqv_tt, eqv_ll, eqvs_nn, eqvs_nc, eqvs_cn, eqvs_cc, upto_1, upto_2, upto_3, upto_7, K_mAdd, K_mSub, K_mMul, K_mFdiv, K_mMod, K_mPow, K_mEq, K_mNe, K_mLt, K_mLe, K_mGt, K_mGe, K_mIn, K_mNin, K_mMin, K_mJoin, K_mIndex, K_mLen, K_mInt, K_mStr, K_mTuple, K_mList, K_mAll, K_mAny, K_mSorted, K_mDict, K_mIsA, IsA_tup, IsA_lst, IsA_str, IsA_int, IsA_bl, Mul_tup, txt_nc, txt_cn, IsA_non, isA, LIM, List.drop_zero, List.take_zero, List.drop_succ_cons, List.take_succ_cons, List.drop_nil, List.take_nil, Nat.sub_zero, reduceIte, ite_true, ite_false, Nat.reduceAdd, Nat.reduceMul, Nat.reduceSub, Nat.reduceLT, Nat.reduceLeDiff, Nat.reduceEqDiff, Nat.reduceBEq, Nat.reduceBNe, Nat.reducePow, Int.reduceAdd, Int.reduceMul, Int.reduceNeg, Int.reduceSub, Int.reduceLE, Int.reduceLT, Int.reduceEq, Int.reduceBEq, Int.reduceBNe, Int.reducePow, Int.reduceToNat, Int.reduceNe, Int.reduceMod, Int.reduceDiv, Int.cast_ofNat_Int, Int.ofNat_zero, Int.ofNat_one, List.cons_beq_cons, and_true, true_and, and_self, and_false, false_and, not_false_eq_true, not_true_eq_false, or_true, true_or, or_false, false_or, List.map_cons, List.map_nil, List.length_cons, List.length_nil, List.cons_append, List.nil_append, List.append_nil, List.set_cons_zero, List.set_cons_succ, Option.bind_some, Option.bind_none, Option.map_some, Option.map_none, List.head?_cons, if_true, Bool.and_true, Bool.true_and, Bool.and_false, Bool.false_and, Bool.or_true, Bool.true_or, Bool.or_false, Bool.false_or, Bool.not_true, Bool.not_false, Bool.not_not, Bool.and_self, Bool.or_self, decide_true, decide_false, decide_eq_true_eq, beq_self_eq_true, Bool.false_eq_true, List.all_cons, List.all_nil, List.any_cons, List.any_nil, id_eq, Nat.max_self, Nat.sub_self, Nat.zero_le, Bool.decide_eq_true, List.isEmpty_cons, List.isEmpty_nil, ite_self, Nat.max_zero, Nat.zero_max, $ls,*])
open M2
/-- the rows of first_row, and their sizes -/
theorem first_rows (r : Ru) : ∃ f : Hm → List Ev, ∀ h, (Can r allEv h → 1 ≤ (f h).length ∧ (f h).length ≤ 10001 ∧ (∀ m, m + 1 < (f h).length → ∀ s, Rch (nxR r) allEv sd0 m s → ∀ e ∈ allEv, harmOf r s e ≠ some h) ∧ (∃ row e, f h = row ++ [e] ∧ harmOf r (row.foldl (nxR r) sd0) e = some h) ∧ f_first_row [.sh (eRu r), .sh (eHm h)] = some (.ok (.sh (eRow (f h))), [none, none])) ∧
    (¬ Can r allEv h → f_first_row [.sh (eRu r), .sh (eHm h)] = some (.ok (.sh .non), [none, none])) := by
  refine Classical.axiomOfChoice (r := fun h (x : List Ev) => (Can r allEv h → 1 ≤ x.length ∧ x.length ≤ 10001 ∧ (∀ m, m + 1 < x.length → ∀ s, Rch (nxR r) allEv sd0 m s → ∀ e ∈ allEv, harmOf r s e ≠ some h) ∧ (∃ row e, x = row ++ [e] ∧ harmOf r (row.foldl (nxR r) sd0) e = some h) ∧ f_first_row [.sh (eRu r), .sh (eHm h)] = some (.ok (.sh (eRow x)), [none, none])) ∧
    (¬ Can r allEv h → f_first_row [.sh (eRu r), .sh (eHm h)] = some (.ok (.sh .non), [none, none]))) fun h => ?_
  rcases first_row_enc r h with ⟨nc, e⟩ | ⟨row, ev, hl, hh, mn, e⟩
  · exact ⟨[], fun c => absurd c nc, fun _ => e⟩
  · refine ⟨row ++ [ev], fun _ => ⟨?_, ?_, fun m hm => mn m ?_, ⟨row, ev, rfl, hh⟩, e⟩, fun c => absurd ⟨row.length, _, rch_row row fun e _ => mem_allEv e, ev, mem_allEv ev, hh⟩ c⟩
    · rw [List.length_append]; exact Nat.le_add_left _ _
    · rw [List.length_append, List.length_cons, List.length_nil]; omega
    · rw [List.length_append, List.length_cons, List.length_nil] at hm; omega
/-- a dict of harms and ints, of a list of pairs -/
theorem pairs_hm (f : Hm → Int) : ∀ hs : List Hm, pairsD (hs.map fun h => .tup [eHm h, .int (f h)]) = some (hs.map fun h => (eHm h, .int (f h)))
  | [] => rfl
  | h :: hs => by
    show (pairsD (hs.map fun h => .tup [eHm h, .int (f h)])).map _ = _
    rw [pairs_hm f hs]
    rfl
theorem foldD_hm (f : Hm → Int) : ∀ (hs acc : List Hm), (acc ++ hs).Nodup → (hs.map fun h => (eHm h, D.int (f h))).foldl (fun a p => putD a p.1 p.2) (eSz (acc.map fun h => (h, f h))) = eSz ((acc ++ hs).map fun h => (h, f h))
  | [], acc, _ => by rw [List.append_nil]; rfl
  | h :: hs, acc, nd => by
    have n0 : h ∉ keysK (acc.map fun h => (h, f h)) := fun m => by
      have m : h ∈ acc := by simpa [keysK] using m
      exact (List.nodup_append.mp nd).2.2 h m h List.mem_cons_self rfl
    have ih := foldD_hm f hs (acc ++ [h]) (by rw [List.append_assoc]; exact nd)
    rw [List.append_assoc] at ih
    rw [List.map_cons, List.foldl_cons, put_enc eqv_Hm n0]
    rw [List.map_append] at ih
    exact ih
theorem dict_hm (f : Hm → Int) {hs : List Hm} (nd : hs.Nodup) : iDict (.lst (hs.map fun h => .tup [eHm h, .int (f h)])) = some (.ow (.dic false (eSz (hs.map fun h => (h, f h))))) := by
  unfold iDict
  dsimp only
  rw [pairs_hm]
  dsimp only
  rw [if_pos (by
    rw [List.all_eq_true]
    intro p mp
    obtain ⟨h, _, rfl⟩ := List.mem_map.mp mp
    exact keyS_Hm h)]
  have e := foldD_hm f hs [] nd
  exact congrArg (fun x => some (B.ow (O.dic false x))) e
theorem look_map (f : Hm → Int) : ∀ (hs : List Hm) (h : Hm), look (hs.map fun h => (h, f h)) h = if h ∈ hs then some (f h) else none
  | [], h => rfl
  | a :: hs, h => by
    show (if a = h then some (f a) else look (hs.map fun h => (h, f h)) h) = _
    rw [look_map f hs h]
    by_cases q : a = h
    · subst q; simp
    · have q' : ¬ h = a := fun w => q w.symm
      simp [q, q']
end CM
end WF

set_option Elab.async false
set_option linter.all false
set_option maxRecDepth 100000
set_option maxHeartbeats 2000000
/-! C18: the events of one parent; alone. -/
namespace WF
namespace M2
def evsOf (p : Bool) : List Ev := [.come .a, .come .b, .come .o, .morning, .paper p, .say p .always, .say p .bar, .say p .no, .say p .once]
theorem evsOf_few (p : Bool) : (evsOf p).length ≤ 100 := by cases p <;> decide
/-- a set of stands that no event leaves -/
theorem closed {r : Ru} {evs : List Ev} (C : List Sd) (h0 : sd0 ∈ C) (hc : ∀ s ∈ C, ∀ e ∈ evs, nxR r s e ∈ C) {n : Nat} {s : Sd} (x : Rch (nxR r) evs sd0 n s) : s ∈ C := by
  induction x with
  | zero => exact h0
  | succ _ me ih => exact hc _ ih _ me
theorem cannot {r : Ru} {evs : List Ev} {h : Hm} (C : List Sd) (h0 : sd0 ∈ C) (hc : ∀ s ∈ C, ∀ e ∈ evs, nxR r s e ∈ C ∧ harmOf r s e ≠ some h) : ¬ Can r evs h :=
  fun ⟨_, s, x, e, me, w⟩ => (hc s (closed C h0 (fun s m e me => (hc s m e me).1) x) e me).2 w
theorem can_row {r : Ru} {evs : List Ev} {h : Hm} (row : List Ev) (e : Ev) (hr : ∀ e ∈ row, e ∈ evs) (he : e ∈ evs) (w : harmOf r (row.foldl (nxR r) sd0) e = some h) : Can r evs h := ⟨_, _, rch_row row hr, e, he, w⟩
end M2
namespace CM
local macro_rules | `(tactic| simp_arith [$ls,*]) => `(tactic| simp only [KO_some, KO_none, KO_ite, KE_some, KE_none, KE_ite, K_ret, K_stuck, K_lift, kId_eq, eId_eq, un1_some, op2_some, dat_sh, dat_ow, dat_pl, dat_tp, sbsD_nil, sbsD_cons, toD_sh, toD_ow, toD_io, toD_lst, toD_dic, at_zero, at_succ, kV_sh, kV_lst, kV_dic, K_mV, kP_sh, kP_ow, kP_io, K_mP, kM_sh, kM_ow, K_mMv, K_mK, kOp2_eq, kOp1_eq, K_mOp, kUn_eq, K_mUn, K_mNeg, isNB_eq, notNB_eq, K_mIsN, K_mNotN, lele_int, kLL3_eq, kLL2_eq, kLL1_eq, K_mLeLe, kTV_eq, K_tV, kTA_eq, K_tAnd, kTO_eq, K_tOr, kTN_eq, K_tNot, K_yes, kMA2_eq, kMA1_eq, K_mAnd, kMO2_eq, kMO1_eq, K_mOr, notB_bl, K_mNot, kIf_eq, K_mIf, boolV_bl, tru_bl, tru_non, tru_int, tru_str, tru_tup, tru_lst, K_mNil, kC2_eq, kC1_eq, K_mCons, keptO_nil, keptO_sh, keptO_ow, keptO_tp, tupO_eq, lstO_eq, kTup_eq, kLst_eq, K_mTup, K_mLst, fzO_eq, kFz_eq, K_mFz, lzip2_eq, kLZ2_eq, kLZ1_eq, K_mLZip, K_mDic0, dic1_eq, kD2_eq, kD1_eq, K_mDic1, elB_sh, elB_ow, ixO_sh, ixO_ow, ixO_pl, ixO_tp, kIx2_eq, kIx1_eq, K_mIx, slO_eq, kSl3_eq, kSl2_eq, kSl1_eq, K_mSl, intD_int, K_mEndN, kEnd_eq, K_mEndS, K_mRev, get3_eq, kG3_eq, kG2_eq, kG1_eq, K_mGet, txtB_str, kSp3_eq, kSp2_eq, kSp1_eq, K_mSplit, lent_nil, lent_sh1, lent_ow, lent_tp, lent_pl, nodup0, nodup1, nodup2, handL_nil, handL_cons, handB_sh, handB_lst, handB_dic, handB_tp, handB_pl, lendS_sh, lendS_ow, lendS_io, argsO_eq, backL_nil, backL_cons, backB_sh, backB_ow, backB_tp, backB_plN, backB_plS, putE_zero, putE_succ, put_ow, put_io, sput_sh, KF_ok, KF_exc, KF_none, KF_ite, KF_r, kArg_eq, kCall_eq, K_mCall, ioS_io, ioS_sh, ioS_ow, ioS_no, outs0, outs1, outs2, outs3, outs4, outs5, kFn_rt, kFn_nx, eFn_eq, mkFn_eq, rep0, repS, itO_eq, kIt_eq, K_items, dItems_tup, dItems_lst, rngD_int, kRg_eq, K_itRange, zipO_eq, kZ2_eq, kZ1_eq, K_itZip, enO_eq, kEn_eq, K_itEnum, zip2_tup, zip2_lst, zipD_cons, zipD_nil, zipD_nil2, enumD_tup, enumD_lst, putS_succ, putS_no, putS_sh, putS_ow, putTg_one, putTg_tup, putSs_nil, putSs_cons, slots_one, slots_tup, clr_nil, clr_cons, back_nil, back_cons, free_nil, free_cons, fr1_succ, fr1_no, fr1_sh, kCoE_eq, kCo_eq, K_mComp, K_comp0, kCo3_eq, kCo2_eq, kCo1_eq, kCo0_eq, K_comp1, K_sPass, K_sBreak, K_sCont, kSeq_nx, kSeq_rt, kSeq_bk, kSeq_ct, K_sSeq, kDrop_eq, K_sDrop, K_sIf, kNx_eq, ownO_sh, ownO_ow, ownO_tp, setO_eq, kSet_eq, K_sSet, ownOs_nil, ownOs_cons, putA_nil, putA_cons, parO_eq, kPar_eq, K_sPar, tupB_tp, tupB_sh, unpO_eq, kUnp_eq, K_sUnp, putOE_zero, putOE_succ, obj_ow, obj_io, hasO_zero, hasO_succ, xsO_eq, kXS3_eq, kXS2_eq, kXS1_eq, K_sIxSet, apO_eq, kNon_eq, kAp2_eq, kAp1_eq, K_mApp, kKy_eq, K_itKeys, keysOf_dic, strD_str, getO_eq, getS_dic, kGt3_eq, kGt2_eq, kGt1_eq, kGt0_eq, K_mGetN, addAt_lst, setAt_lst, setAt_dicS, setAt_dicT, kFor_eq, K_sFor, kFor2_nx, kFor2_ct, kFor2_bk, kFor2_rt, kFor1_eq, K_for0, K_for1, kWh2_nx, kWh2_ct, kWh2_bk, kWh2_rt, kWh1_eq, kRet_sh, kRet_ow, kRet_tp, K_sRet, tpO_eq, kTp_eq, K_mTp, sbBs_nil, sbBs_cons, sbB_sh, sbB_ow, K_sRaise, eTry_eq, K_sTry, K_tryGo0, K_tryGo1, Add_int, Add_tup, Add_lst, Add_str, Sub_int, Mul_int, Mul_lst, Fdiv_int, Mod_int, Lt_int, Le_int, Gt_int, Ge_int, Eq_eq, Ne_eq, In_tup, In_lst, Nin_tup, Nin_lst, mem_nil, mem_cons, Ix_tup, Ix_lst, atI_0, atI_1, atI_2, atI_3, atI_4, atI_5, atI_6, Len_tup, Len_lst, Len_dic, Ix_dic, In_dic, Nin_dic, Min_int, Len_str, Int_int, Int_bl, Tuple_lst, Tuple_tup, List_lst, List_tup, List_dic, bools_nil, bools_cons, All_lst, Any_lst, dep_non, dep_bl, dep_int, dep_str, dep_tupS, dep_lstS, deps_nil, deps_cons, isNon_non, isNon_int, isNon_tup, isNon_lst, isNon_str, isNon_bl, eqv_ss, eqv_ii, eqv_bb, eqv_nn, eqv_tt, eqv_ll, eqvs_nn, eqvs_nc, eqvs_cn, eqvs_cc, upto_1, upto_2, upto_3, upto_7, K_mAdd, K_mSub, K_mMul, K_mFdiv, K_mMod, K_mPow, K_mEq, K_mNe, K_mLt, K_mLe, K_mGt, K_mGe, K_mIn, K_mNin, K_mMin, K_mJoin, K_mIndex, K_mLen, K_mInt, K_mStr, K_mTuple, K_mList, K_mAll, K_mAny, K_mSorted, K_mDict, K_mIsA, IsA_tup, IsA_lst, IsA_str, IsA_int, IsA_bl, Mul_tup, txt_nc, txt_cn, IsA_non, isA, LIM, List.drop_zero, List.take_zero, List.drop_succ_cons, List.take_succ_cons, List.drop_nil, List.take_nil, Nat.sub_zero, reduceIte, ite_true, ite_false, Nat.reduceAdd, Nat.reduceMul, Nat.reduceSub, Nat.reduceLT, Nat.reduceLeDiff, Nat.reduceEqDiff, Nat.reduceBEq, Nat.reduceBNe, Nat.reducePow, Int.reduceAdd, Int.reduceMul, Int.reduceNeg, Int.reduceSub, Int.reduceLE, Int.reduceLT, Int.reduceEq, Int.reduceBEq, Int.reduceBNe, Int.reducePow, Int.reduceToNat, Int.reduceNe, Int.reduceMod, Int.reduceDiv, Int.cast_ofNat_Int, Int.ofNat_zero, Int.ofNat_one, List.cons_beq_cons, and_true, true_and, and_self, and_false, false_and, not_false_eq_true, not_true_eq_false, or_true, true_or, or_false, false_or, List.map_cons, List.map_nil, List.length_cons, List.length_nil, List.cons_append, List.nil_append, List.append_nil, List.set_cons_zero, List.set_cons_succ, Option.bind_some, Option.bind_none, Option.map_some, Option.map_none, List.head?_cons, if_true, Bool.and_true, Bool.true_and, Bool.and_false, Bool.false_and, Bool.or_true, Bool.true_or, Bool.or_false, Bool.false_or, Bool.not_true, Bool.not_false, Bool.not_not, Bool.and_self, Bool.or_self, decide_true, decide_false, decide_eq_true_eq, beq_self_eq_true, Bool.false_eq_true, List.all_cons, List.all_nil, List.any_cons, List.any_nil, id_eq, Nat.max_self, Nat.sub_self, Nat.zero_le, Bool.decide_eq_true, List.isEmpty_cons, List.isEmpty_nil, ite_self, Nat.max_zero, Nat.zero_max, $ls,*])
open M2
theorem events_of_spec (p : Bool) : f_events_of [.sh (eP p)] = some (.ok (.ow (.lst ((evsOf p).map eEv))), [none]) := by cases p <;> rfl
theorem law_own_spec (p : Bool) : f__law_own [.sh (eP p)] = some (.ok (.ow (.lst ((evsOf p).map eEv))), [none]) := by
  have g : forGo (.one 2) fb0__law_own (allEv.map eEv) [some (.sh (eP p)), some (.ow (.lst [])), none] = some (.ok .nx, [some (.sh (eP p)), some (.ow (.lst ((evsOf p).map eEv))), some (.sh (.tup [.str t_say, .int 1, .str t_once]))]) := by cases p <;> rfl
  rw [f__law_own, mkFn_eq]
  simp_arith [law_events_spec, K_eq g]
/-- whether a search by one parent's events finds something -/
theorem search_own (r : Ru) (p : Bool) (h : Hm) : (¬ Can r (evsOf p) h ∧ ∃ k, f_search [.sh (eRu r), .sh (.lst ((evsOf p).map eEv)), .sh (eHm h)] = some (.ok (.tp [.ow (oP k), .sh .non]), [none, none, none])) ∨
    (Can r (evsOf p) h ∧ ∃ k row, f_search [.sh (eRu r), .sh (.lst ((evsOf p).map eEv)), .sh (eHm h)] = some (.ok (.sh (.tup [dP k, eRow row])), [none, none, none])) := by
  rcases search_spec (x := .lst ((evsOf p).map eEv)) (evs := evsOf p) rfl r (some h) (evsOf_few p) with ⟨k, _, _, c, d⟩ | ⟨k, row, e, _, hr, he, c, _, d⟩
  · refine .inl ⟨fun ⟨m, s, q, e, me, z⟩ => ?_, k, d⟩
    have := c m s q e me
    unfold hitH hitO at this
    rw [z] at this
    exact absurd this (by simp)
  · exact .inr ⟨can_row row e hr he (beq_iff_eq.mp c), k, row ++ [e], d⟩
theorem alone_enc (r : Ru) (h : Hm) : ∃ b0 b1 : Bool, (b0 = true ↔ Can r (evsOf false) h) ∧ (b1 = true ↔ Can r (evsOf true) h) ∧ f_alone [.sh (eRu r), .sh (eHm h)] = some (.ok (.ow (.lst (bl1 (.int 0) b0 ++ bl1 (.int 1) b1))), [none, none]) := by
  have e0 : f_events_of [.sh (.int 0)] = some (.ok (.ow (.lst ((evsOf false).map eEv))), [none]) := events_of_spec false
  have e1 : f_events_of [.sh (.int 1)] = some (.ok (.ow (.lst ((evsOf true).map eEv))), [none]) := events_of_spec true
  rcases search_own r false h with ⟨n0, k0, s0⟩ | ⟨c0, k0, w0, s0⟩
  · rcases search_own r true h with ⟨n1, k1, s1⟩ | ⟨c1, k1, w1, s1⟩
    · refine ⟨false, false, ⟨fun q => (nomatch q), fun q => absurd q n0⟩, ⟨fun q => (nomatch q), fun q => absurd q n1⟩, ?_⟩
      rw [f_alone, mkFn_eq]
      simp_arith [need_rule_enc, need_harm_enc, cc0_alone, ce0_alone, e0, e1, s0, s1, bl1]
    · refine ⟨false, true, ⟨fun q => (nomatch q), fun q => absurd q n0⟩, ⟨fun _ => c1, fun _ => rfl⟩, ?_⟩
      rw [f_alone, mkFn_eq]
      simp_arith [need_rule_enc, need_harm_enc, cc0_alone, ce0_alone, e0, e1, s0, s1, bl1, eRow]
  · rcases search_own r true h with ⟨n1, k1, s1⟩ | ⟨c1, k1, w1, s1⟩
    · refine ⟨true, false, ⟨fun _ => c0, fun _ => rfl⟩, ⟨fun q => (nomatch q), fun q => absurd q n1⟩, ?_⟩
      rw [f_alone, mkFn_eq]
      simp_arith [need_rule_enc, need_harm_enc, cc0_alone, ce0_alone, e0, e1, s0, s1, bl1, eRow]
    · refine ⟨true, true, ⟨fun _ => c0, fun _ => rfl⟩, ⟨fun _ => c1, fun _ => rfl⟩, ?_⟩
      rw [f_alone, mkFn_eq]
      simp_arith [need_rule_enc, need_harm_enc, cc0_alone, ce0_alone, e0, e1, s0, s1, bl1, eRow]
end CM
end WF

set_option Elab.async false
set_option linter.all false
set_option maxRecDepth 100000
set_option maxHeartbeats 2000000
/-! P_k05: the pure statement of k05. -/
namespace WF
namespace M2
def ruA : Ru := ⟨.both, false, false, false, false, true, true⟩
def ruB : Ru := ⟨.last, false, false, false, false, true, true⟩
def mkS (p : Bool) (w l : Wd) (t : Bool) : Sd := if p then ⟨.no, w, false, false, .no, l, false, false, t⟩ else ⟨w, .no, false, false, l, .no, false, false, t⟩
def wdS (p : Bool) (s : Sd) : Wd := if p then s.s1 else s.s0
def ldS (p : Bool) (s : Sd) : Wd := if p then s.l1 else s.l0
theorem stA : ∀ p ∈ allB, ∀ w ∈ allWd, ∀ l ∈ allWd, ∀ t ∈ allB, ∀ e ∈ evsOf p, nxR ruA (mkS p w l t) e = mkS p (wdS p (nxR ruA (mkS p w l t) e)) (ldS p (nxR ruA (mkS p w l t) e)) (nxR ruA (mkS p w l t) e).th ∧ harmOf ruA (mkS p w l t) e ≠ some .kept ∧ harmOf ruA (mkS p w l t) e ≠ some .wrong := by decide +kernel
theorem A_no (p : Bool) : ∀ {n : Nat} {s : Sd}, Rch (nxR ruA) (evsOf p) sd0 n s → ∃ w l t, s = mkS p w l t := fun x => by
  induction x with
  | zero => exact ⟨.no, .no, true, by cases p <;> rfl⟩
  | succ _ me ih =>
    obtain ⟨w, l, t, rfl⟩ := ih
    exact ⟨_, _, _, (stA p (mem_allB p) w (mem_allWd w) l (mem_allWd l) t (mem_allB t) _ me).1⟩
theorem A_kept (p : Bool) : ¬ Can ruA (evsOf p) .kept := fun ⟨_, s, x, e, me, q⟩ => by
  obtain ⟨w, l, t, rfl⟩ := A_no p x
  exact (stA p (mem_allB p) w (mem_allWd w) l (mem_allWd l) t (mem_allB t) e me).2.1 q
theorem A_wrong (p : Bool) : ¬ Can ruA (evsOf p) .wrong := fun ⟨_, s, x, e, me, q⟩ => by
  obtain ⟨w, l, t, rfl⟩ := A_no p x
  exact (stA p (mem_allB p) w (mem_allWd w) l (mem_allWd l) t (mem_allB t) e me).2.2 q
theorem A_two (p : Bool) : Can ruA (evsOf p) .two := can_row [.come .a] (.come .a) (by cases p <;> decide) (by cases p <;> decide) (by decide)
theorem B_wrong (p : Bool) : Can ruB (evsOf p) .wrong := can_row [.say p .always, .morning, .say p .no] (.come .o) (by cases p <;> decide) (by cases p <;> decide) (by cases p <;> decide)
end M2
namespace K05
local macro_rules | `(tactic| simp_arith [$ls,*]) => `(tactic| simp only [KO_some, KO_none, KO_ite, KE_some, KE_none, KE_ite, K_ret, K_stuck, K_lift, kId_eq, eId_eq, un1_some, op2_some, dat_sh, dat_ow, dat_pl, dat_tp, sbsD_nil, sbsD_cons, toD_sh, toD_ow, toD_io, toD_lst, toD_dic, at_zero, at_succ, kV_sh, kV_lst, kV_dic, K_mV, kP_sh, kP_ow, kP_io, K_mP, kM_sh, kM_ow, K_mMv, K_mK, kOp2_eq, kOp1_eq, K_mOp, kUn_eq, K_mUn, K_mNeg, isNB_eq, notNB_eq, K_mIsN, K_mNotN, lele_int, kLL3_eq, kLL2_eq, kLL1_eq, K_mLeLe, kTV_eq, K_tV, kTA_eq, K_tAnd, kTO_eq, K_tOr, kTN_eq, K_tNot, K_yes, kMA2_eq, kMA1_eq, K_mAnd, kMO2_eq, kMO1_eq, K_mOr, notB_bl, K_mNot, kIf_eq, K_mIf, boolV_bl, tru_bl, tru_non, tru_int, tru_str, tru_tup, tru_lst, K_mNil, kC2_eq, kC1_eq, K_mCons, keptO_nil, keptO_sh, keptO_ow, keptO_tp, tupO_eq, lstO_eq, kTup_eq, kLst_eq, K_mTup, K_mLst, fzO_eq, kFz_eq, K_mFz, lzip2_eq, kLZ2_eq, kLZ1_eq, K_mLZip, K_mDic0, dic1_eq, kD2_eq, kD1_eq, K_mDic1, elB_sh, elB_ow, ixO_sh, ixO_ow, ixO_pl, ixO_tp, kIx2_eq, kIx1_eq, K_mIx, slO_eq, kSl3_eq, kSl2_eq, kSl1_eq, K_mSl, intD_int, K_mEndN, kEnd_eq, K_mEndS, K_mRev, get3_eq, kG3_eq, kG2_eq, kG1_eq, K_mGet, txtB_str, kSp3_eq, kSp2_eq, kSp1_eq, K_mSplit, lent_nil, lent_sh1, lent_ow, lent_tp, lent_pl, nodup0, nodup1, nodup2, handL_nil, handL_cons, handB_sh, handB_lst, handB_dic, handB_tp, handB_pl, lendS_sh, lendS_ow, lendS_io, argsO_eq, backL_nil, backL_cons, backB_sh, backB_ow, backB_tp, backB_plN, backB_plS, putE_zero, putE_succ, put_ow, put_io, sput_sh, KF_ok, KF_exc, KF_none, KF_ite, KF_r, kArg_eq, kCall_eq, K_mCall, ioS_io, ioS_sh, ioS_ow, ioS_no, outs0, outs1, outs2, outs3, outs4, outs5, kFn_rt, kFn_nx, eFn_eq, mkFn_eq, rep0, repS, itO_eq, kIt_eq, K_items, dItems_tup, dItems_lst, rngD_int, kRg_eq, K_itRange, zipO_eq, kZ2_eq, kZ1_eq, K_itZip, enO_eq, kEn_eq, K_itEnum, zip2_tup, zip2_lst, zipD_cons, zipD_nil, zipD_nil2, enumD_tup, enumD_lst, putS_succ, putS_no, putS_sh, putS_ow, putTg_one, putTg_tup, putSs_nil, putSs_cons, slots_one, slots_tup, clr_nil, clr_cons, back_nil, back_cons, free_nil, free_cons, fr1_succ, fr1_no, fr1_sh, kCoE_eq, kCo_eq, K_mComp, K_comp0, kCo3_eq, kCo2_eq, kCo1_eq, kCo0_eq, K_comp1, K_sPass, K_sBreak, K_sCont, kSeq_nx, kSeq_rt, kSeq_bk, kSeq_ct, K_sSeq, kDrop_eq, K_sDrop, K_sIf, kNx_eq, ownO_sh, ownO_ow, ownO_tp, setO_eq, kSet_eq, K_sSet, ownOs_nil, ownOs_cons, putA_nil, putA_cons, parO_eq, kPar_eq, K_sPar, tupB_tp, tupB_sh, unpO_eq, kUnp_eq, K_sUnp, putOE_zero, putOE_succ, obj_ow, obj_io, hasO_zero, hasO_succ, xsO_eq, kXS3_eq, kXS2_eq, kXS1_eq, K_sIxSet, apO_eq, kNon_eq, kAp2_eq, kAp1_eq, K_mApp, kKy_eq, K_itKeys, keysOf_dic, strD_str, getO_eq, getS_dic, kGt3_eq, kGt2_eq, kGt1_eq, kGt0_eq, K_mGetN, addAt_lst, setAt_lst, setAt_dicS, setAt_dicT, kFor_eq, K_sFor, kFor2_nx, kFor2_ct, kFor2_bk, kFor2_rt, kFor1_eq, K_for0, K_for1, kWh2_nx, kWh2_ct, kWh2_bk, kWh2_rt, kWh1_eq, kRet_sh, kRet_ow, kRet_tp, K_sRet, tpO_eq, kTp_eq, K_mTp, sbBs_nil, sbBs_cons, sbB_sh, sbB_ow, K_sRaise, eTry_eq, K_sTry, K_tryGo0, K_tryGo1, Add_int, Add_tup, Add_lst, Add_str, Sub_int, Mul_int, Mul_lst, Fdiv_int, Mod_int, Lt_int, Le_int, Gt_int, Ge_int, Eq_eq, Ne_eq, In_tup, In_lst, Nin_tup, Nin_lst, mem_nil, mem_cons, Ix_tup, Ix_lst, atI_0, atI_1, atI_2, atI_3, atI_4, atI_5, atI_6, Len_tup, Len_lst, Len_dic, Ix_dic, In_dic, Nin_dic, Min_int, Len_str, Int_int, Int_bl, Tuple_lst, Tuple_tup, List_lst, List_tup, List_dic, bools_nil, bools_cons, All_lst, Any_lst, dep_non, dep_bl, dep_int, dep_str, dep_tupS, dep_lstS, deps_nil, deps_cons, isNon_non, isNon_int, isNon_tup, isNon_lst, isNon_str, isNon_bl, eqv_ss, eqv_ii, eqv_bb, eqv_nn, eqv_tt, eqv_ll, eqvs_nn, eqvs_nc, eqvs_cn, eqvs_cc, upto_1, upto_2, upto_3, upto_7, K_mAdd, K_mSub, K_mMul, K_mFdiv, K_mMod, K_mPow, K_mEq, K_mNe, K_mLt, K_mLe, K_mGt, K_mGe, K_mIn, K_mNin, K_mMin, K_mJoin, K_mIndex, K_mLen, K_mInt, K_mStr, K_mTuple, K_mList, K_mAll, K_mAny, K_mSorted, K_mDict, K_mIsA, IsA_tup, IsA_lst, IsA_str, IsA_int, IsA_bl, Mul_tup, txt_nc, txt_cn, IsA_non, isA, LIM, List.drop_zero, List.take_zero, List.drop_succ_cons, List.take_succ_cons, List.drop_nil, List.take_nil, Nat.sub_zero, reduceIte, ite_true, ite_false, Nat.reduceAdd, Nat.reduceMul, Nat.reduceSub, Nat.reduceLT, Nat.reduceLeDiff, Nat.reduceEqDiff, Nat.reduceBEq, Nat.reduceBNe, Nat.reducePow, Int.reduceAdd, Int.reduceMul, Int.reduceNeg, Int.reduceSub, Int.reduceLE, Int.reduceLT, Int.reduceEq, Int.reduceBEq, Int.reduceBNe, Int.reducePow, Int.reduceToNat, Int.reduceNe, Int.reduceMod, Int.reduceDiv, Int.cast_ofNat_Int, Int.ofNat_zero, Int.ofNat_one, List.cons_beq_cons, and_true, true_and, and_self, and_false, false_and, not_false_eq_true, not_true_eq_false, or_true, true_or, or_false, false_or, List.map_cons, List.map_nil, List.length_cons, List.length_nil, List.cons_append, List.nil_append, List.append_nil, List.set_cons_zero, List.set_cons_succ, Option.bind_some, Option.bind_none, Option.map_some, Option.map_none, List.head?_cons, if_true, Bool.and_true, Bool.true_and, Bool.and_false, Bool.false_and, Bool.or_true, Bool.true_or, Bool.or_false, Bool.false_or, Bool.not_true, Bool.not_false, Bool.not_not, Bool.and_self, Bool.or_self, decide_true, decide_false, decide_eq_true_eq, beq_self_eq_true, Bool.false_eq_true, List.all_cons, List.all_nil, List.any_cons, List.any_nil, id_eq, Nat.max_self, Nat.sub_self, Nat.zero_le, Bool.decide_eq_true, List.isEmpty_cons, List.isEmpty_nil, ite_self, Nat.max_zero, Nat.zero_max, $ls,*])
open CM M2
theorem of_iff {b : Bool} {P : Prop} (h : b = true ↔ P) (p : P) : b = true := h.mpr p
theorem of_not {b : Bool} {P : Prop} (h : b = true ↔ P) (p : ¬ P) : b = false := Bool.eq_false_iff.mpr fun q => p (h.mp q)
section
variable {r : Ru} {sz0 sz1 : List (Hm × Int)} {o0 o1 o2 o6 o7 : Option SB}
abbrev sizes2 (sz0 sz1 : List (Hm × Int)) : Option SB := some (.ow (.lst [.dic false (eSz sz0), .dic false (eSz sz1)]))
theorem turn (z0 : Sized r (evsOf false) sz0) (z1 : Sized r (evsOf true) sz1) (h : Hm) (n6 : Nio o6) (n7 : Fre o7) : ∃ o6', Nio o6' ∧ fb0_law [o0, o1, o2, some (.sh (eRu r)), sizes2 sz0 sz1, some (.sh (eHm h)), o6, o7] = some (.ok .nx, [o0, o1, o2, some (.sh (eRu r)), sizes2 sz0 sz1, some (.sh (eHm h)), o6', o7]) := by
  have ks := keyS_Hm h
  have l0 : (lookD (eSz sz0) (eHm h)).isSome = decide (h ∈ keysK sz0) := look_isSome eqv_Hm h sz0
  have l1 : (lookD (eSz sz1) (eHm h)).isSome = decide (h ∈ keysK sz1) := look_isSome eqv_Hm h sz1
  obtain ⟨b0, b1, c0, c1, e⟩ := alone_enc r h
  have q0 : decide (h ∈ keysK sz0) = b0 := by rw [Bool.eq_iff_iff, decide_eq_true_iff, c0, z0.can h]
  have q1 : decide (h ∈ keysK sz1) = b1 := by rw [Bool.eq_iff_iff, decide_eq_true_iff, c1, z1.can h]
  rw [q0] at l0
  rw [q1] at l1
  refine ⟨some (.ow (.lst (bl1 (.int 0) b0 ++ bl1 (.int 1) b1))), nio_ow, ?_⟩
  clear c0 c1 q0 q1
  rw [K_id (m := fb0_law), fb0_law]
  cases b0 <;> cases b1 <;> simp_arith [putS_nio n6, e, bl1, fr1_fre n7, cc0_law, ce1_law, ks, l0, l1, sizes2]
theorem cellT {cell : Int} {o3 o4 o5 : Option SB} (n2 : Nio o2) (n3 : Nio o3) (n4 : Nio o4) (n5 : Nio o5) (n6 : Nio o6) (n7 : Fre o7) :
    ∃ o2' o3' o4' o5' o6' o7', Nio o2' ∧ Nio o3' ∧ Nio o4' ∧ Nio o5' ∧ Nio o6' ∧ Fre o7' ∧ fb1_law [o0, some (.sh (.int cell)), o2, o3, o4, o5, o6, o7] = some (.ok .nx, [o0, some (.sh (.int cell)), o2', o3', o4', o5', o6', o7']) := by
  obtain ⟨g1, s1, p1, e1⟩ := pot_spec cell 27 (by decide) (by decide)
  obtain ⟨g2, s2, r, p2, e2⟩ := rule_draw p1
  obtain ⟨k0, sz0, _, _, z0, e3⟩ := graph_spec r (evsOf_few false)
  obtain ⟨k1, sz1, _, _, z1, e4⟩ := graph_spec r (evsOf_few true)
  have w0 : f__law_own [.sh (.int 0)] = some (.ok (.ow (.lst ((evsOf false).map eEv))), [none]) := law_own_spec false
  have w1 : f__law_own [.sh (.int 1)] = some (.ok (.ow (.lst ((evsOf true).map eEv))), [none]) := law_own_spec true
  obtain ⟨q6, c6, t1⟩ := turn (o0 := o0) (o1 := some (.sh (.int cell))) (o2 := some (oPot g2 s2)) z0 z1 .kept n6 n7
  obtain ⟨q6, c6, t2⟩ := turn (o0 := o0) (o1 := some (.sh (.int cell))) (o2 := some (oPot g2 s2)) z0 z1 .nobody c6 n7
  obtain ⟨q6, c6, t3⟩ := turn (o0 := o0) (o1 := some (.sh (.int cell))) (o2 := some (oPot g2 s2)) z0 z1 .two c6 n7
  obtain ⟨q6, c6, t4⟩ := turn (o0 := o0) (o1 := some (.sh (.int cell))) (o2 := some (oPot g2 s2)) z0 z1 .wrong c6 n7
  simp only [eHm] at t1 t2 t3 t4
  refine ⟨some (oPot g2 s2), some (.sh (eRu r)), sizes2 sz0 sz1, some (.sh (.str t_wrong)), q6, o7, nio_ow, nio_sh, nio_ow, nio_sh, c6, n7, ?_⟩
  rw [K_id (m := fb1_law), fb1_law]
  simp_arith [putS_nio n2, putS_nio n3, putS_nio n4, putS_nio n5, e1, e2, e3, e4, w0, w1, fr1_fre n7, ce0_law, K_eq t1, K_eq t2, K_eq t3, K_eq t4]
theorem cells {o0 : Option SB} (cs : List Int) {o1 o2 o3 o4 o5 o6 o7 : Option SB} (n1 : Nio o1) (n2 : Nio o2) (n3 : Nio o3) (n4 : Nio o4) (n5 : Nio o5) (n6 : Nio o6) (n7 : Fre o7) :
    ∃ a1 a2 a3 a4 a5 a6 a7, Nio a3 ∧ forGo (.one 1) fb1_law (cs.map D.int) [o0, o1, o2, o3, o4, o5, o6, o7] = some (.ok .nx, [o0, a1, a2, a3, a4, a5, a6, a7]) := by
  obtain ⟨ρ', e, a1, a2, a3, a4, a5, a6, a7, h⟩ := forGo_inv (t := .one 1) (body := fb1_law) (fun ρ => ∃ o1 o2 o3 o4 o5 o6 o7, Nio o1 ∧ Nio o2 ∧ Nio o3 ∧ Nio o4 ∧ Nio o5 ∧ Nio o6 ∧ Fre o7 ∧ ρ = [o0, o1, o2, o3, o4, o5, o6, o7]) (ds := cs.map D.int) (fun d md ρ ⟨o1, o2, o3, o4, o5, o6, o7, n1, n2, n3, n4, n5, n6, n7, h⟩ => by
    subst h
    obtain ⟨c, _, rfl⟩ := List.mem_map.mp md
    obtain ⟨a2, a3, a4, a5, a6, a7, m2, m3, m4, m5, m6, m7, e⟩ := cellT (cell := c) (o0 := o0) n2 n3 n4 n5 n6 n7
    exact ⟨_, _, by show putS _ 1 _ = _; simp only [putS_succ, putS_nio n1, Option.map_some], e, _, a2, a3, a4, a5, a6, a7, nio_sh, m2, m3, m4, m5, m6, m7, rfl⟩) _ ⟨o1, o2, o3, o4, o5, o6, o7, n1, n2, n3, n4, n5, n6, n7, rfl⟩
  obtain ⟨m1, m2, m3, m4, m5, m6, m7, rfl⟩ := h
  exact ⟨_, _, _, _, _, _, _, m3, e⟩
end
theorem alone_is (r : Ru) (h : Hm) (b : Bool) (c : ∀ p, if b then Can r (evsOf p) h else ¬ Can r (evsOf p) h) : f_alone [.sh (eRu r), .sh (eHm h)] = some (.ok (.ow (.lst (if b then [.int 0, .int 1] else []))), [none, none]) := by
  obtain ⟨b0, b1, c0, c1, e⟩ := alone_enc r h
  have d0 := c false
  have d1 := c true
  cases b with
  | true =>
    have f0 : b0 = true := c0.mpr d0
    have f1 : b1 = true := c1.mpr d1
    subst f0; subst f1
    exact e
  | false =>
    have f0 : b0 = false := of_not c0 d0
    have f1 : b1 = false := of_not c1 d1
    subst f0; subst f1
    exact e
theorem keeps : ∀ ns : List Int, ns.length ≤ 63 → ∃ os, f_law [.sh (.lst (ns.map D.int))] = some (.ok (.sh (.bl true)), os) := fun ns hl => by
  obtain ⟨cs, e0⟩ : ∃ cs : List Int, iSl (.lst ((.int 0 : D) :: ns.map D.int)) none (some 2) = some (.ow (.lst (cs.map D.int))) := by
    refine ⟨(0 :: ns).take 2, ?_⟩
    show some (B.ow (.lst ((((0 :: ns).map D.int).drop 0).take (min 2 ((0 :: ns).map D.int).length)))) = _
    rw [List.drop_zero, List.map_take, ← List.take_take, List.take_length]
  have l0 : 1 + ns.length ≤ 16777216 := by omega
  obtain ⟨a1, a2, a3, a4, a5, a6, a7, n3, e1⟩ := cells (o0 := some (.sh (.lst (ns.map D.int)))) cs (o1 := none) (o2 := none) (o3 := none) (o4 := none) (o5 := none) (o6 := none) (o7 := none) nio_no nio_no nio_no nio_no nio_no nio_no fre_no
  obtain ⟨x, hx⟩ : ∃ x : D, D.tup [.str t_both, .str t_own, .str t_morning, .str t_morning, .str t_day, .bl true, .bl true] = x := ⟨_, rfl⟩
  obtain ⟨y, hy⟩ : ∃ y : D, D.tup [.str t_own, .str t_morning, .str t_morning, .str t_day, .bl true, .bl true] = y := ⟨_, rfl⟩
  obtain ⟨z, hz⟩ : ∃ z : D, D.tup [.str t_last, .str t_own, .str t_morning, .str t_morning, .str t_day, .bl true, .bl true] = z := ⟨_, rfl⟩
  have ex : eRu ruA = x := hx
  have ez : eRu ruB = z := hz
  have t1 := alone_is ruA .kept false A_kept
  have t2 := alone_is ruA .wrong false A_wrong
  have t3 := alone_is ruA .two true A_two
  have t4 := alone_is ruB .wrong true B_wrong
  rw [ex] at t1 t2 t3
  rw [ez] at t4
  simp only [eHm, Bool.false_eq_true, if_false, if_true] at t1 t2 t3 t4
  have sl : iSl x (some 1) none = some (.sh y) := by rw [← hx, ← hy]; rfl
  have ad : iAdd (.tup [.str t_last]) y = some (.sh z) := by rw [← hy, ← hz]; rfl
  refine ⟨[none], ?_⟩
  rw [f_law, mkFn_eq, hx]
  clear hx hy hz ex ez
  simp (maxSteps := 10000000) only [KO_some, KO_none, KO_ite, KE_some, KE_none, KE_ite, K_ret, K_stuck, K_lift, kId_eq, eId_eq, un1_some, op2_some, dat_sh, dat_ow, dat_pl, dat_tp, sbsD_nil, sbsD_cons, toD_sh, toD_ow, toD_io, toD_lst, toD_dic, at_zero, at_succ, kV_sh, kV_lst, kV_dic, K_mV, kP_sh, kP_ow, kP_io, K_mP, kM_sh, kM_ow, K_mMv, K_mK, kOp2_eq, kOp1_eq, K_mOp, kUn_eq, K_mUn, K_mNeg, isNB_eq, notNB_eq, K_mIsN, K_mNotN, lele_int, kLL3_eq, kLL2_eq, kLL1_eq, K_mLeLe, kTV_eq, K_tV, kTA_eq, K_tAnd, kTO_eq, K_tOr, kTN_eq, K_tNot, K_yes, kMA2_eq, kMA1_eq, K_mAnd, kMO2_eq, kMO1_eq, K_mOr, notB_bl, K_mNot, kIf_eq, K_mIf, boolV_bl, tru_bl, tru_non, tru_int, tru_str, tru_tup, tru_lst, K_mNil, kC2_eq, kC1_eq, K_mCons, keptO_nil, keptO_sh, keptO_ow, keptO_tp, tupO_eq, lstO_eq, kTup_eq, kLst_eq, K_mTup, K_mLst, fzO_eq, kFz_eq, K_mFz, lzip2_eq, kLZ2_eq, kLZ1_eq, K_mLZip, K_mDic0, dic1_eq, kD2_eq, kD1_eq, K_mDic1, elB_sh, elB_ow, ixO_sh, ixO_ow, ixO_pl, ixO_tp, kIx2_eq, kIx1_eq, K_mIx, slO_eq, kSl3_eq, kSl2_eq, kSl1_eq, K_mSl, intD_int, K_mEndN, kEnd_eq, K_mEndS, K_mRev, get3_eq, kG3_eq, kG2_eq, kG1_eq, K_mGet, txtB_str, kSp3_eq, kSp2_eq, kSp1_eq, K_mSplit, lent_nil, lent_sh1, lent_ow, lent_tp, lent_pl, nodup0, nodup1, nodup2, handL_nil, handL_cons, handB_sh, handB_lst, handB_dic, handB_tp, handB_pl, lendS_sh, lendS_ow, lendS_io, argsO_eq, backL_nil, backL_cons, backB_sh, backB_ow, backB_tp, backB_plN, backB_plS, putE_zero, putE_succ, put_ow, put_io, sput_sh, KF_ok, KF_exc, KF_none, KF_ite, KF_r, kArg_eq, kCall_eq, K_mCall, ioS_io, ioS_sh, ioS_ow, ioS_no, outs0, outs1, outs2, outs3, outs4, outs5, kFn_rt, kFn_nx, eFn_eq, mkFn_eq, rep0, repS, itO_eq, kIt_eq, K_items, dItems_tup, dItems_lst, rngD_int, kRg_eq, K_itRange, zipO_eq, kZ2_eq, kZ1_eq, K_itZip, enO_eq, kEn_eq, K_itEnum, zip2_tup, zip2_lst, zipD_cons, zipD_nil, zipD_nil2, enumD_tup, enumD_lst, putS_succ, putS_no, putS_sh, putS_ow, putTg_one, putTg_tup, putSs_nil, putSs_cons, slots_one, slots_tup, clr_nil, clr_cons, back_nil, back_cons, free_nil, free_cons, fr1_succ, fr1_no, fr1_sh, kCoE_eq, kCo_eq, K_mComp, K_comp0, kCo3_eq, kCo2_eq, kCo1_eq, kCo0_eq, K_comp1, K_sPass, K_sBreak, K_sCont, kSeq_nx, kSeq_rt, kSeq_bk, kSeq_ct, K_sSeq, kDrop_eq, K_sDrop, K_sIf, kNx_eq, ownO_sh, ownO_ow, ownO_tp, setO_eq, kSet_eq, K_sSet, ownOs_nil, ownOs_cons, putA_nil, putA_cons, parO_eq, kPar_eq, K_sPar, tupB_tp, tupB_sh, unpO_eq, kUnp_eq, K_sUnp, putOE_zero, putOE_succ, obj_ow, obj_io, hasO_zero, hasO_succ, xsO_eq, kXS3_eq, kXS2_eq, kXS1_eq, K_sIxSet, apO_eq, kNon_eq, kAp2_eq, kAp1_eq, K_mApp, kKy_eq, K_itKeys, keysOf_dic, strD_str, getO_eq, getS_dic, kGt3_eq, kGt2_eq, kGt1_eq, kGt0_eq, K_mGetN, addAt_lst, setAt_lst, setAt_dicS, setAt_dicT, kFor_eq, K_sFor, kFor2_nx, kFor2_ct, kFor2_bk, kFor2_rt, kFor1_eq, kWh2_nx, kWh2_ct, kWh2_bk, kWh2_rt, kWh1_eq, kRet_sh, kRet_ow, kRet_tp, K_sRet, tpO_eq, kTp_eq, K_mTp, sbBs_nil, sbBs_cons, sbB_sh, sbB_ow, K_sRaise, eTry_eq, K_sTry, K_tryGo0, K_tryGo1, Add_int, Add_tup, Add_lst, Add_str, Sub_int, Mul_int, Mul_lst, Fdiv_int, Mod_int, Lt_int, Le_int, Gt_int, Ge_int, Eq_eq, Ne_eq, In_tup, In_lst, Nin_tup, Nin_lst, mem_nil, mem_cons, Ix_tup, Ix_lst, atI_0, atI_1, atI_2, atI_3, atI_4, atI_5, atI_6, Len_tup, Len_lst, Len_dic, Ix_dic, In_dic, Nin_dic, Min_int, Len_str, Int_int, Int_bl, Tuple_lst, Tuple_tup, List_lst, List_tup, List_dic, bools_nil, bools_cons, All_lst, Any_lst, dep_non, dep_bl, dep_int, dep_str, dep_tupS, dep_lstS, deps_nil, deps_cons, isNon_non, isNon_int, isNon_tup, isNon_lst, isNon_str, isNon_bl, eqv_ss, eqv_ii, eqv_bb, eqv_nn, eqv_tt, eqv_ll, eqvs_nn, eqvs_nc, eqvs_cn, eqvs_cc, upto_1, upto_2, upto_3, upto_7, K_mAdd, K_mSub, K_mMul, K_mFdiv, K_mMod, K_mPow, K_mEq, K_mNe, K_mLt, K_mLe, K_mGt, K_mGe, K_mIn, K_mNin, K_mMin, K_mJoin, K_mIndex, K_mLen, K_mInt, K_mStr, K_mTuple, K_mList, K_mAll, K_mAny, K_mSorted, K_mDict, K_mIsA, IsA_tup, IsA_lst, IsA_str, IsA_int, IsA_bl, Mul_tup, txt_nc, txt_cn, IsA_non, isA, LIM, List.drop_zero, List.take_zero, List.drop_succ_cons, List.take_succ_cons, List.drop_nil, List.take_nil, Nat.sub_zero, reduceIte, ite_true, ite_false, Nat.reduceAdd, Nat.reduceMul, Nat.reduceSub, Nat.reduceLT, Nat.reduceLeDiff, Nat.reduceEqDiff, Nat.reduceBEq, Nat.reduceBNe, Nat.reducePow, Int.reduceAdd, Int.reduceMul, Int.reduceNeg, Int.reduceSub, Int.reduceLE, Int.reduceLT, Int.reduceEq, Int.reduceBEq, Int.reduceBNe, Int.reducePow, Int.reduceToNat, Int.reduceNe, Int.reduceMod, Int.reduceDiv, Int.cast_ofNat_Int, Int.ofNat_zero, Int.ofNat_one, List.cons_beq_cons, and_true, true_and, and_self, and_false, false_and, not_false_eq_true, not_true_eq_false, or_true, true_or, or_false, false_or, List.map_cons, List.map_nil, List.length_cons, List.length_nil, List.cons_append, List.nil_append, List.append_nil, List.set_cons_zero, List.set_cons_succ, Option.bind_some, Option.bind_none, Option.map_some, Option.map_none, List.head?_cons, if_true, Bool.and_true, Bool.true_and, Bool.and_false, Bool.false_and, Bool.or_true, Bool.true_or, Bool.or_false, Bool.false_or, Bool.not_true, Bool.not_false, Bool.not_not, Bool.and_self, Bool.or_self, decide_true, decide_false, decide_eq_true_eq, beq_self_eq_true, Bool.false_eq_true, List.all_cons, List.all_nil, List.any_cons, List.any_nil, id_eq, Nat.max_self, Nat.sub_self, Nat.zero_le, Bool.decide_eq_true, List.isEmpty_cons, List.isEmpty_nil, ite_self, Nat.max_zero, Nat.zero_max, List.length_map, l0, e0, K_eq e1, putS_nio n3, t1, t2, t3, t4, sl, ad]
end K05
end WF

set_option Elab.async false
set_option linter.all false
set_option maxRecDepth 100000
set_option maxHeartbeats 4000000
namespace WF
namespace K05
open CM PySem PySem.Spec PyProof.Rows L2
def top (i : Nat) : Stmt := PySem.Challenge.pw_whofetches_k05_who_can_alone.main.body.getD i (.Pass ⟨0, 0, 0, 0⟩)
abbrev s_is_same : Stmt := top 9
abbrev s_is_rule : Stmt := top 10
abbrev s_need_rule : Stmt := top 11
abbrev s_need_harm : Stmt := top 12
abbrev s_begin : Stmt := top 15
abbrev s_put_at : Stmt := top 16
abbrev s_worded : Stmt := top 17
abbrev s_spoken : Stmt := top 18
abbrev s_may : Stmt := top 19
abbrev s_used_up : Stmt := top 20
abbrev s_come : Stmt := top 21
abbrev s_morning : Stmt := top 22
abbrev s_step : Stmt := top 23
abbrev s_truly_may : Stmt := top 24
abbrev s_harms_of : Stmt := top 26
abbrev s_events_of : Stmt := top 27
abbrev s_search : Stmt := top 28
abbrev s_way_to : Stmt := top 29
abbrev s_alone : Stmt := top 30
abbrev s__law_pot : Stmt := top 32
abbrev s__law_lot : Stmt := top 33
abbrev s__law_pick : Stmt := top 34
abbrev s__law_values : Stmt := top 35
abbrev s__law_rule : Stmt := top 36
abbrev s__law_words : Stmt := top 37
abbrev s__law_events : Stmt := top 38
abbrev s__law_new : Stmt := top 39
abbrev s__law_said : Stmt := top 40
abbrev s__law_may : Stmt := top 41
abbrev s__law_comes : Stmt := top 42
abbrev s__law_on : Stmt := top 43
abbrev s__law_rights : Stmt := top 44
abbrev s__law_harms : Stmt := top 45
abbrev s__law_graph : Stmt := top 46
abbrev s__law_own : Stmt := top 47
abbrev s_law : Stmt := top 48
theorem nm_InvalidHarm : Nm "InvalidHarm" := nm_of (by decide +kernel)
theorem nm_InvalidRule : Nm "InvalidRule" := nm_of (by decide +kernel)
theorem nm__law_comes : Nm "_law_comes" := nm_of (by decide +kernel)
theorem nm__law_events : Nm "_law_events" := nm_of (by decide +kernel)
theorem nm__law_graph : Nm "_law_graph" := nm_of (by decide +kernel)
theorem nm__law_harms : Nm "_law_harms" := nm_of (by decide +kernel)
theorem nm__law_lot : Nm "_law_lot" := nm_of (by decide +kernel)
theorem nm__law_may : Nm "_law_may" := nm_of (by decide +kernel)
theorem nm__law_new : Nm "_law_new" := nm_of (by decide +kernel)
theorem nm__law_on : Nm "_law_on" := nm_of (by decide +kernel)
theorem nm__law_own : Nm "_law_own" := nm_of (by decide +kernel)
theorem nm__law_pick : Nm "_law_pick" := nm_of (by decide +kernel)
theorem nm__law_pot : Nm "_law_pot" := nm_of (by decide +kernel)
theorem nm__law_rights : Nm "_law_rights" := nm_of (by decide +kernel)
theorem nm__law_rule : Nm "_law_rule" := nm_of (by decide +kernel)
theorem nm__law_said : Nm "_law_said" := nm_of (by decide +kernel)
theorem nm__law_values : Nm "_law_values" := nm_of (by decide +kernel)
theorem nm__law_words : Nm "_law_words" := nm_of (by decide +kernel)
theorem nm_alone : Nm "alone" := nm_of (by decide +kernel)
theorem nm_at : Nm "at" := nm_of (by decide +kernel)
theorem nm_barred : Nm "barred" := nm_of (by decide +kernel)
theorem nm_begin : Nm "begin" := nm_of (by decide +kernel)
theorem nm_cell : Nm "cell" := nm_of (by decide +kernel)
theorem nm_come : Nm "come" := nm_of (by decide +kernel)
theorem nm_counted : Nm "counted" := nm_of (by decide +kernel)
theorem nm_courts : Nm "courts" := nm_of (by decide +kernel)
theorem nm_deep : Nm "deep" := nm_of (by decide +kernel)
theorem nm_ended : Nm "ended" := nm_of (by decide +kernel)
theorem nm_event : Nm "event" := nm_of (by decide +kernel)
theorem nm_events : Nm "events" := nm_of (by decide +kernel)
theorem nm_events_of : Nm "events_of" := nm_of (by decide +kernel)
theorem nm_first : Nm "first" := nm_of (by decide +kernel)
theorem nm_found : Nm "found" := nm_of (by decide +kernel)
theorem nm_good : Nm "good" := nm_of (by decide +kernel)
theorem nm_great : Nm "great" := nm_of (by decide +kernel)
theorem nm_harm : Nm "harm" := nm_of (by decide +kernel)
theorem nm_harms_of : Nm "harms_of" := nm_of (by decide +kernel)
theorem nm_is_rule : Nm "is_rule" := nm_of (by decide +kernel)
theorem nm_is_same : Nm "is_same" := nm_of (by decide +kernel)
theorem nm_known : Nm "known" := nm_of (by decide +kernel)
theorem nm_later : Nm "later" := nm_of (by decide +kernel)
theorem nm_line : Nm "line" := nm_of (by decide +kernel)
theorem nm_listed : Nm "listed" := nm_of (by decide +kernel)
theorem nm_many : Nm "many" := nm_of (by decide +kernel)
theorem nm_may : Nm "may" := nm_of (by decide +kernel)
theorem nm_mine : Nm "mine" := nm_of (by decide +kernel)
theorem nm_morning : Nm "morning" := nm_of (by decide +kernel)
theorem nm_need_harm : Nm "need_harm" := nm_of (by decide +kernel)
theorem nm_need_rule : Nm "need_rule" := nm_of (by decide +kernel)
theorem nm_now : Nm "now" := nm_of (by decide +kernel)
theorem nm_old : Nm "old" := nm_of (by decide +kernel)
theorem nm_one : Nm "one" := nm_of (by decide +kernel)
theorem nm_other : Nm "other" := nm_of (by decide +kernel)
theorem nm_pair : Nm "pair" := nm_of (by decide +kernel)
theorem nm_pairs : Nm "pairs" := nm_of (by decide +kernel)
theorem nm_parent : Nm "parent" := nm_of (by decide +kernel)
theorem nm_pot : Nm "pot" := nm_of (by decide +kernel)
theorem nm_put_at : Nm "put_at" := nm_of (by decide +kernel)
theorem nm_rights : Nm "rights" := nm_of (by decide +kernel)
theorem nm_rule : Nm "rule" := nm_of (by decide +kernel)
theorem nm_said : Nm "said" := nm_of (by decide +kernel)
theorem nm_salt : Nm "salt" := nm_of (by decide +kernel)
theorem nm_script : Nm "script" := nm_of (by decide +kernel)
theorem nm_search : Nm "search" := nm_of (by decide +kernel)
theorem nm_signer : Nm "signer" := nm_of (by decide +kernel)
theorem nm_sizes : Nm "sizes" := nm_of (by decide +kernel)
theorem nm_some : Nm "some" := nm_of (by decide +kernel)
theorem nm_spoken : Nm "spoken" := nm_of (by decide +kernel)
theorem nm_stand : Nm "stand" := nm_of (by decide +kernel)
theorem nm_step : Nm "step" := nm_of (by decide +kernel)
theorem nm_there : Nm "there" := nm_of (by decide +kernel)
theorem nm_things : Nm "things" := nm_of (by decide +kernel)
theorem nm_truly_may : Nm "truly_may" := nm_of (by decide +kernel)
theorem nm_used_up : Nm "used_up" := nm_of (by decide +kernel)
theorem nm_value : Nm "value" := nm_of (by decide +kernel)
theorem nm_way_to : Nm "way_to" := nm_of (by decide +kernel)
theorem nm_who : Nm "who" := nm_of (by decide +kernel)
theorem nm_word : Nm "word" := nm_of (by decide +kernel)
theorem nm_worded : Nm "worded" := nm_of (by decide +kernel)
theorem nm_words : Nm "words" := nm_of (by decide +kernel)
structure Ad where
  a_is_same : Addr
  fd_is_same : FuncData
  a_is_rule : Addr
  fd_is_rule : FuncData
  a_need_rule : Addr
  fd_need_rule : FuncData
  a_need_harm : Addr
  fd_need_harm : FuncData
  a_begin : Addr
  fd_begin : FuncData
  a_put_at : Addr
  fd_put_at : FuncData
  a_worded : Addr
  fd_worded : FuncData
  a_spoken : Addr
  fd_spoken : FuncData
  a_may : Addr
  fd_may : FuncData
  a_used_up : Addr
  fd_used_up : FuncData
  a_come : Addr
  fd_come : FuncData
  a_morning : Addr
  fd_morning : FuncData
  a_step : Addr
  fd_step : FuncData
  a_truly_may : Addr
  fd_truly_may : FuncData
  a_harms_of : Addr
  fd_harms_of : FuncData
  a_events_of : Addr
  fd_events_of : FuncData
  a_search : Addr
  fd_search : FuncData
  a_way_to : Addr
  fd_way_to : FuncData
  a_alone : Addr
  fd_alone : FuncData
  a__law_pot : Addr
  fd__law_pot : FuncData
  a__law_lot : Addr
  fd__law_lot : FuncData
  a__law_pick : Addr
  fd__law_pick : FuncData
  a__law_values : Addr
  fd__law_values : FuncData
  a__law_rule : Addr
  fd__law_rule : FuncData
  a__law_words : Addr
  fd__law_words : FuncData
  a__law_events : Addr
  fd__law_events : FuncData
  a__law_new : Addr
  fd__law_new : FuncData
  a__law_said : Addr
  fd__law_said : FuncData
  a__law_may : Addr
  fd__law_may : FuncData
  a__law_comes : Addr
  fd__law_comes : FuncData
  a__law_on : Addr
  fd__law_on : FuncData
  a__law_rights : Addr
  fd__law_rights : FuncData
  a__law_harms : Addr
  fd__law_harms : FuncData
  a__law_graph : Addr
  fd__law_graph : FuncData
  a__law_own : Addr
  fd__law_own : FuncData
  a_law : Addr
  fd_law : FuncData
  cl_FetchError : Addr
  cl_InvalidRule : Addr
  cl_InvalidHarm : Addr
abbrev Ad.cl (a : Ad) : Nat → Addr
  | 0 => a.cl_FetchError
  | 1 => a.cl_InvalidRule
  | 2 => a.cl_FetchError
  | 3 => a.cl_InvalidHarm
  | 4 => a.cl_FetchError
  | 5 => a.cl_FetchError
  | 6 => a.cl_FetchError
  | 7 => a.cl_FetchError
  | 8 => a.cl_FetchError
  | 9 => a.cl_FetchError
  | 10 => a.cl_FetchError
  | 11 => a.cl_FetchError
  | _ => a.cl_FetchError
abbrev n_is_same : List Str := ["one", "other"]
abbrev p_is_same : List Str := ["one", "other"]
theorem sc_is_same : FnScope n_is_same p_is_same (defScope s_is_same) := ⟨rfl, rfl, rfl, by decide +kernel, rfl, by decide +kernel, by decide +kernel⟩
abbrev n_is_rule : List Str := ["value", "one", "some", "other"]
abbrev p_is_rule : List Str := ["value"]
theorem sc_is_rule : FnScope n_is_rule p_is_rule (defScope s_is_rule) := ⟨rfl, rfl, rfl, by decide +kernel, rfl, by decide +kernel, by decide +kernel⟩
abbrev n_need_rule : List Str := ["rule"]
abbrev p_need_rule : List Str := ["rule"]
theorem sc_need_rule : FnScope n_need_rule p_need_rule (defScope s_need_rule) := ⟨rfl, rfl, rfl, by decide +kernel, rfl, by decide +kernel, by decide +kernel⟩
abbrev n_need_harm : List Str := ["harm"]
abbrev p_need_harm : List Str := ["harm"]
theorem sc_need_harm : FnScope n_need_harm p_need_harm (defScope s_need_harm) := ⟨rfl, rfl, rfl, by decide +kernel, rfl, by decide +kernel, by decide +kernel⟩
abbrev n_begin : List Str := []
abbrev p_begin : List Str := []
theorem sc_begin : FnScope n_begin p_begin (defScope s_begin) := ⟨rfl, rfl, rfl, by decide +kernel, rfl, by decide +kernel, by decide +kernel⟩
abbrev n_put_at : List Str := ["pair", "at", "value"]
abbrev p_put_at : List Str := ["pair", "at", "value"]
theorem sc_put_at : FnScope n_put_at p_put_at (defScope s_put_at) := ⟨rfl, rfl, rfl, by decide +kernel, rfl, by decide +kernel, by decide +kernel⟩
abbrev n_spoken : List Str := ["rule", "words", "parent", "word"]
abbrev p_spoken : List Str := ["rule", "words", "parent", "word"]
theorem sc_spoken : FnScope n_spoken p_spoken (defScope s_spoken) := ⟨rfl, rfl, rfl, by decide +kernel, rfl, by decide +kernel, by decide +kernel⟩
abbrev n_worded : List Str := ["rule", "words", "courts", "signer", "word", "barred"]
abbrev p_worded : List Str := ["rule", "words", "courts", "signer"]
theorem sc_worded : FnScope n_worded p_worded (defScope s_worded) := ⟨rfl, rfl, rfl, by decide +kernel, rfl, by decide +kernel, by decide +kernel⟩
abbrev n_may : List Str := ["rule", "words", "courts", "who", "signer", "counted", "good", "word"]
abbrev p_may : List Str := ["rule", "words", "courts", "who", "signer"]
theorem sc_may : FnScope n_may p_may (defScope s_may) := ⟨rfl, rfl, rfl, by decide +kernel, rfl, by decide +kernel, by decide +kernel⟩
abbrev n_used_up : List Str := ["words", "word"]
abbrev p_used_up : List Str := ["words"]
theorem sc_used_up : FnScope n_used_up p_used_up (defScope s_used_up) := ⟨rfl, rfl, rfl, by decide +kernel, rfl, by decide +kernel, by decide +kernel⟩
abbrev n_come : List Str := ["rule", "stand", "who", "signer", "said", "courts", "listed", "known", "there"]
abbrev p_come : List Str := ["rule", "stand", "who", "signer"]
theorem sc_come : FnScope n_come p_come (defScope s_come) := ⟨rfl, rfl, rfl, by decide +kernel, rfl, by decide +kernel, by decide +kernel⟩
abbrev n_morning : List Str := ["rule", "stand", "said", "courts", "listed", "known", "there", "pairs", "word", "old"]
abbrev p_morning : List Str := ["rule", "stand"]
theorem sc_morning : FnScope n_morning p_morning (defScope s_morning) := ⟨rfl, rfl, rfl, by decide +kernel, rfl, by decide +kernel, by decide +kernel⟩
abbrev n_step : List Str := ["rule", "stand", "event", "said", "courts", "listed", "known", "there"]
abbrev p_step : List Str := ["rule", "stand", "event"]
theorem sc_step : FnScope n_step p_step (defScope s_step) := ⟨rfl, rfl, rfl, by decide +kernel, rfl, by decide +kernel, by decide +kernel⟩
abbrev n_truly_may : List Str := ["rule", "stand", "signer", "who"]
abbrev p_truly_may : List Str := ["rule", "stand", "signer"]
theorem sc_truly_may : FnScope n_truly_may p_truly_may (defScope s_truly_may) := ⟨rfl, rfl, rfl, by decide +kernel, rfl, by decide +kernel, by decide +kernel⟩
abbrev n_harms_of : List Str := ["rule", "stand", "event", "word", "rights", "mine"]
abbrev p_harms_of : List Str := ["rule", "stand", "event", "word"]
theorem sc_harms_of : FnScope n_harms_of p_harms_of (defScope s_harms_of) := ⟨rfl, rfl, rfl, by decide +kernel, rfl, by decide +kernel, by decide +kernel⟩
abbrev n_events_of : List Str := ["parent", "found", "event"]
abbrev p_events_of : List Str := ["parent"]
theorem sc_events_of : FnScope n_events_of p_events_of (defScope s_events_of) := ⟨rfl, rfl, rfl, by decide +kernel, rfl, by decide +kernel, by decide +kernel⟩
abbrev n_way_to : List Str := ["known", "stand", "events", "event"]
abbrev p_way_to : List Str := ["known", "stand"]
theorem sc_way_to : FnScope n_way_to p_way_to (defScope s_way_to) := ⟨rfl, rfl, rfl, by decide +kernel, rfl, by decide +kernel, by decide +kernel⟩
abbrev n_search : List Str := ["rule", "events", "harm", "first", "known", "line", "later", "stand", "event", "there", "word"]
abbrev p_search : List Str := ["rule", "events", "harm"]
theorem sc_search : FnScope n_search p_search (defScope s_search) := ⟨rfl, rfl, rfl, by decide +kernel, rfl, by decide +kernel, by decide +kernel⟩
abbrev n_alone : List Str := ["rule", "harm", "parent"]
abbrev p_alone : List Str := ["rule", "harm"]
theorem sc_alone : FnScope n_alone p_alone (defScope s_alone) := ⟨rfl, rfl, rfl, by decide +kernel, rfl, by decide +kernel, by decide +kernel⟩
abbrev n__law_pot : List Str := ["cell", "salt", "great"]
abbrev p__law_pot : List Str := ["cell", "salt"]
theorem sc__law_pot : FnScope n__law_pot p__law_pot (defScope s__law_pot) := ⟨rfl, rfl, rfl, by decide +kernel, rfl, by decide +kernel, by decide +kernel⟩
abbrev n__law_lot : List Str := ["pot", "many", "found", "deep"]
abbrev p__law_lot : List Str := ["pot", "many"]
theorem sc__law_lot : FnScope n__law_lot p__law_lot (defScope s__law_lot) := ⟨rfl, rfl, rfl, by decide +kernel, rfl, by decide +kernel, by decide +kernel⟩
abbrev n__law_pick : List Str := ["pot", "things"]
abbrev p__law_pick : List Str := ["pot", "things"]
theorem sc__law_pick : FnScope n__law_pick p__law_pick (defScope s__law_pick) := ⟨rfl, rfl, rfl, by decide +kernel, rfl, by decide +kernel, by decide +kernel⟩
abbrev n__law_values : List Str := ["found"]
abbrev p__law_values : List Str := []
theorem sc__law_values : FnScope n__law_values p__law_values (defScope s__law_values) := ⟨rfl, rfl, rfl, by decide +kernel, rfl, by decide +kernel, by decide +kernel⟩
abbrev n__law_rule : List Str := ["pot", "some"]
abbrev p__law_rule : List Str := ["pot"]
theorem sc__law_rule : FnScope n__law_rule p__law_rule (defScope s__law_rule) := ⟨rfl, rfl, rfl, by decide +kernel, rfl, by decide +kernel, by decide +kernel⟩
abbrev n__law_words : List Str := []
abbrev p__law_words : List Str := []
theorem sc__law_words : FnScope n__law_words p__law_words (defScope s__law_words) := ⟨rfl, rfl, rfl, by decide +kernel, rfl, by decide +kernel, by decide +kernel⟩
abbrev n__law_events : List Str := ["found", "who", "parent", "word"]
abbrev p__law_events : List Str := []
theorem sc__law_events : FnScope n__law_events p__law_events (defScope s__law_events) := ⟨rfl, rfl, rfl, by decide +kernel, rfl, by decide +kernel, by decide +kernel⟩
abbrev n__law_new : List Str := []
abbrev p__law_new : List Str := []
theorem sc__law_new : FnScope n__law_new p__law_new (defScope s__law_new) := ⟨rfl, rfl, rfl, by decide +kernel, rfl, by decide +kernel, by decide +kernel⟩
abbrev n__law_said : List Str := ["rule", "words", "parent", "word", "found"]
abbrev p__law_said : List Str := ["rule", "words", "parent", "word"]
theorem sc__law_said : FnScope n__law_said p__law_said (defScope s__law_said) := ⟨rfl, rfl, rfl, by decide +kernel, rfl, by decide +kernel, by decide +kernel⟩
abbrev n__law_may : List Str := ["rule", "words", "barred", "who", "signer", "counted", "parent", "good", "word"]
abbrev p__law_may : List Str := ["rule", "words", "barred", "who", "signer"]
theorem sc__law_may : FnScope n__law_may p__law_may (defScope s__law_may) := ⟨rfl, rfl, rfl, by decide +kernel, rfl, by decide +kernel, by decide +kernel⟩
abbrev n__law_comes : List Str := ["rule", "stand", "who", "signer", "said", "barred", "listed", "known", "there", "word"]
abbrev p__law_comes : List Str := ["rule", "stand", "who", "signer"]
theorem sc__law_comes : FnScope n__law_comes p__law_comes (defScope s__law_comes) := ⟨rfl, rfl, rfl, by decide +kernel, rfl, by decide +kernel, by decide +kernel⟩
abbrev n__law_on : List Str := ["rule", "stand", "event", "said", "barred", "listed", "known", "there", "signer", "ended", "parent", "now"]
abbrev p__law_on : List Str := ["rule", "stand", "event"]
theorem sc__law_on : FnScope n__law_on p__law_on (defScope s__law_on) := ⟨rfl, rfl, rfl, by decide +kernel, rfl, by decide +kernel, by decide +kernel⟩
abbrev n__law_rights : List Str := ["rule", "stand", "signer", "who"]
abbrev p__law_rights : List Str := ["rule", "stand", "signer"]
theorem sc__law_rights : FnScope n__law_rights p__law_rights (defScope s__law_rights) := ⟨rfl, rfl, rfl, by decide +kernel, rfl, by decide +kernel, by decide +kernel⟩
abbrev n__law_harms : List Str := ["rule", "stand", "event", "word", "signer", "rights", "mine", "found"]
abbrev p__law_harms : List Str := ["rule", "stand", "event", "word"]
theorem sc__law_harms : FnScope n__law_harms p__law_harms (defScope s__law_harms) := ⟨rfl, rfl, rfl, by decide +kernel, rfl, by decide +kernel, by decide +kernel⟩
abbrev n__law_graph : List Str := ["rule", "events", "first", "found", "line", "at", "sizes", "event", "stand", "many", "harm", "there", "word"]
abbrev p__law_graph : List Str := ["rule", "events"]
theorem sc__law_graph : FnScope n__law_graph p__law_graph (defScope s__law_graph) := ⟨rfl, rfl, rfl, by decide +kernel, rfl, by decide +kernel, by decide +kernel⟩
abbrev n__law_own : List Str := ["parent", "found", "event"]
abbrev p__law_own : List Str := ["parent"]
theorem sc__law_own : FnScope n__law_own p__law_own (defScope s__law_own) := ⟨rfl, rfl, rfl, by decide +kernel, rfl, by decide +kernel, by decide +kernel⟩
abbrev n_law : List Str := ["script", "cell", "pot", "rule", "sizes", "harm", "found", "parent"]
abbrev p_law : List Str := ["script"]
theorem sc_law : FnScope n_law p_law (defScope s_law) := ⟨rfl, rfl, rfl, by decide +kernel, rfl, by decide +kernel, by decide +kernel⟩
/-- what the top has written -/
structure Txt (K : PySem.W.Frag) (mg : Str → Option Value) (a : Ad) : Prop where
  g_is_same : mg "is_same" = some (.ref a.a_is_same)
  k_is_same : PySem.W.keepIn K (.ref a.a_is_same) = true
  t_is_same : Fun K "is_same" "is_same" s_is_same a.a_is_same a.fd_is_same
  d_is_same : Binds K a.fd_is_same ["one", "other"] []
  g_is_rule : mg "is_rule" = some (.ref a.a_is_rule)
  k_is_rule : PySem.W.keepIn K (.ref a.a_is_rule) = true
  t_is_rule : Fun K "is_rule" "is_rule" s_is_rule a.a_is_rule a.fd_is_rule
  d_is_rule : Binds K a.fd_is_rule ["value"] []
  g_need_rule : mg "need_rule" = some (.ref a.a_need_rule)
  k_need_rule : PySem.W.keepIn K (.ref a.a_need_rule) = true
  t_need_rule : Fun K "need_rule" "need_rule" s_need_rule a.a_need_rule a.fd_need_rule
  d_need_rule : Binds K a.fd_need_rule ["rule"] []
  g_need_harm : mg "need_harm" = some (.ref a.a_need_harm)
  k_need_harm : PySem.W.keepIn K (.ref a.a_need_harm) = true
  t_need_harm : Fun K "need_harm" "need_harm" s_need_harm a.a_need_harm a.fd_need_harm
  d_need_harm : Binds K a.fd_need_harm ["harm"] []
  g_begin : mg "begin" = some (.ref a.a_begin)
  k_begin : PySem.W.keepIn K (.ref a.a_begin) = true
  t_begin : Fun K "begin" "begin" s_begin a.a_begin a.fd_begin
  d_begin : Binds K a.fd_begin [] []
  g_put_at : mg "put_at" = some (.ref a.a_put_at)
  k_put_at : PySem.W.keepIn K (.ref a.a_put_at) = true
  t_put_at : Fun K "put_at" "put_at" s_put_at a.a_put_at a.fd_put_at
  d_put_at : Binds K a.fd_put_at ["pair", "at", "value"] []
  g_worded : mg "worded" = some (.ref a.a_worded)
  k_worded : PySem.W.keepIn K (.ref a.a_worded) = true
  t_worded : Fun K "worded" "worded" s_worded a.a_worded a.fd_worded
  d_worded : Binds K a.fd_worded ["rule", "words", "courts", "signer"] []
  g_spoken : mg "spoken" = some (.ref a.a_spoken)
  k_spoken : PySem.W.keepIn K (.ref a.a_spoken) = true
  t_spoken : Fun K "spoken" "spoken" s_spoken a.a_spoken a.fd_spoken
  d_spoken : Binds K a.fd_spoken ["rule", "words", "parent", "word"] []
  g_may : mg "may" = some (.ref a.a_may)
  k_may : PySem.W.keepIn K (.ref a.a_may) = true
  t_may : Fun K "may" "may" s_may a.a_may a.fd_may
  d_may : Binds K a.fd_may ["rule", "words", "courts", "who", "signer"] []
  g_used_up : mg "used_up" = some (.ref a.a_used_up)
  k_used_up : PySem.W.keepIn K (.ref a.a_used_up) = true
  t_used_up : Fun K "used_up" "used_up" s_used_up a.a_used_up a.fd_used_up
  d_used_up : Binds K a.fd_used_up ["words"] []
  g_come : mg "come" = some (.ref a.a_come)
  k_come : PySem.W.keepIn K (.ref a.a_come) = true
  t_come : Fun K "come" "come" s_come a.a_come a.fd_come
  d_come : Binds K a.fd_come ["rule", "stand", "who", "signer"] []
  g_morning : mg "morning" = some (.ref a.a_morning)
  k_morning : PySem.W.keepIn K (.ref a.a_morning) = true
  t_morning : Fun K "morning" "morning" s_morning a.a_morning a.fd_morning
  d_morning : Binds K a.fd_morning ["rule", "stand"] []
  g_step : mg "step" = some (.ref a.a_step)
  k_step : PySem.W.keepIn K (.ref a.a_step) = true
  t_step : Fun K "step" "step" s_step a.a_step a.fd_step
  d_step : Binds K a.fd_step ["rule", "stand", "event"] []
  g_truly_may : mg "truly_may" = some (.ref a.a_truly_may)
  k_truly_may : PySem.W.keepIn K (.ref a.a_truly_may) = true
  t_truly_may : Fun K "truly_may" "truly_may" s_truly_may a.a_truly_may a.fd_truly_may
  d_truly_may : Binds K a.fd_truly_may ["rule", "stand", "signer"] []
  g_harms_of : mg "harms_of" = some (.ref a.a_harms_of)
  k_harms_of : PySem.W.keepIn K (.ref a.a_harms_of) = true
  t_harms_of : Fun K "harms_of" "harms_of" s_harms_of a.a_harms_of a.fd_harms_of
  d_harms_of : Binds K a.fd_harms_of ["rule", "stand", "event", "word"] []
  g_events_of : mg "events_of" = some (.ref a.a_events_of)
  k_events_of : PySem.W.keepIn K (.ref a.a_events_of) = true
  t_events_of : Fun K "events_of" "events_of" s_events_of a.a_events_of a.fd_events_of
  d_events_of : Binds K a.fd_events_of ["parent"] []
  g_search : mg "search" = some (.ref a.a_search)
  k_search : PySem.W.keepIn K (.ref a.a_search) = true
  t_search : Fun K "search" "search" s_search a.a_search a.fd_search
  d_search : Binds K a.fd_search ["rule", "events", "harm"] []
  g_way_to : mg "way_to" = some (.ref a.a_way_to)
  k_way_to : PySem.W.keepIn K (.ref a.a_way_to) = true
  t_way_to : Fun K "way_to" "way_to" s_way_to a.a_way_to a.fd_way_to
  d_way_to : Binds K a.fd_way_to ["known", "stand"] []
  g_alone : mg "alone" = some (.ref a.a_alone)
  k_alone : PySem.W.keepIn K (.ref a.a_alone) = true
  t_alone : Fun K "alone" "alone" s_alone a.a_alone a.fd_alone
  d_alone : Binds K a.fd_alone ["rule", "harm"] []
  g__law_pot : mg "_law_pot" = some (.ref a.a__law_pot)
  k__law_pot : PySem.W.keepIn K (.ref a.a__law_pot) = true
  t__law_pot : Fun K "_law_pot" "_law_pot" s__law_pot a.a__law_pot a.fd__law_pot
  d__law_pot : Binds K a.fd__law_pot ["cell", "salt"] []
  g__law_lot : mg "_law_lot" = some (.ref a.a__law_lot)
  k__law_lot : PySem.W.keepIn K (.ref a.a__law_lot) = true
  t__law_lot : Fun K "_law_lot" "_law_lot" s__law_lot a.a__law_lot a.fd__law_lot
  d__law_lot : Binds K a.fd__law_lot ["pot", "many"] []
  g__law_pick : mg "_law_pick" = some (.ref a.a__law_pick)
  k__law_pick : PySem.W.keepIn K (.ref a.a__law_pick) = true
  t__law_pick : Fun K "_law_pick" "_law_pick" s__law_pick a.a__law_pick a.fd__law_pick
  d__law_pick : Binds K a.fd__law_pick ["pot", "things"] []
  g__law_values : mg "_law_values" = some (.ref a.a__law_values)
  k__law_values : PySem.W.keepIn K (.ref a.a__law_values) = true
  t__law_values : Fun K "_law_values" "_law_values" s__law_values a.a__law_values a.fd__law_values
  d__law_values : Binds K a.fd__law_values [] []
  g__law_rule : mg "_law_rule" = some (.ref a.a__law_rule)
  k__law_rule : PySem.W.keepIn K (.ref a.a__law_rule) = true
  t__law_rule : Fun K "_law_rule" "_law_rule" s__law_rule a.a__law_rule a.fd__law_rule
  d__law_rule : Binds K a.fd__law_rule ["pot"] []
  g__law_words : mg "_law_words" = some (.ref a.a__law_words)
  k__law_words : PySem.W.keepIn K (.ref a.a__law_words) = true
  t__law_words : Fun K "_law_words" "_law_words" s__law_words a.a__law_words a.fd__law_words
  d__law_words : Binds K a.fd__law_words [] []
  g__law_events : mg "_law_events" = some (.ref a.a__law_events)
  k__law_events : PySem.W.keepIn K (.ref a.a__law_events) = true
  t__law_events : Fun K "_law_events" "_law_events" s__law_events a.a__law_events a.fd__law_events
  d__law_events : Binds K a.fd__law_events [] []
  g__law_new : mg "_law_new" = some (.ref a.a__law_new)
  k__law_new : PySem.W.keepIn K (.ref a.a__law_new) = true
  t__law_new : Fun K "_law_new" "_law_new" s__law_new a.a__law_new a.fd__law_new
  d__law_new : Binds K a.fd__law_new [] []
  g__law_said : mg "_law_said" = some (.ref a.a__law_said)
  k__law_said : PySem.W.keepIn K (.ref a.a__law_said) = true
  t__law_said : Fun K "_law_said" "_law_said" s__law_said a.a__law_said a.fd__law_said
  d__law_said : Binds K a.fd__law_said ["rule", "words", "parent", "word"] []
  g__law_may : mg "_law_may" = some (.ref a.a__law_may)
  k__law_may : PySem.W.keepIn K (.ref a.a__law_may) = true
  t__law_may : Fun K "_law_may" "_law_may" s__law_may a.a__law_may a.fd__law_may
  d__law_may : Binds K a.fd__law_may ["rule", "words", "barred", "who", "signer"] []
  g__law_comes : mg "_law_comes" = some (.ref a.a__law_comes)
  k__law_comes : PySem.W.keepIn K (.ref a.a__law_comes) = true
  t__law_comes : Fun K "_law_comes" "_law_comes" s__law_comes a.a__law_comes a.fd__law_comes
  d__law_comes : Binds K a.fd__law_comes ["rule", "stand", "who", "signer"] []
  g__law_on : mg "_law_on" = some (.ref a.a__law_on)
  k__law_on : PySem.W.keepIn K (.ref a.a__law_on) = true
  t__law_on : Fun K "_law_on" "_law_on" s__law_on a.a__law_on a.fd__law_on
  d__law_on : Binds K a.fd__law_on ["rule", "stand", "event"] []
  g__law_rights : mg "_law_rights" = some (.ref a.a__law_rights)
  k__law_rights : PySem.W.keepIn K (.ref a.a__law_rights) = true
  t__law_rights : Fun K "_law_rights" "_law_rights" s__law_rights a.a__law_rights a.fd__law_rights
  d__law_rights : Binds K a.fd__law_rights ["rule", "stand", "signer"] []
  g__law_harms : mg "_law_harms" = some (.ref a.a__law_harms)
  k__law_harms : PySem.W.keepIn K (.ref a.a__law_harms) = true
  t__law_harms : Fun K "_law_harms" "_law_harms" s__law_harms a.a__law_harms a.fd__law_harms
  d__law_harms : Binds K a.fd__law_harms ["rule", "stand", "event", "word"] []
  g__law_graph : mg "_law_graph" = some (.ref a.a__law_graph)
  k__law_graph : PySem.W.keepIn K (.ref a.a__law_graph) = true
  t__law_graph : Fun K "_law_graph" "_law_graph" s__law_graph a.a__law_graph a.fd__law_graph
  d__law_graph : Binds K a.fd__law_graph ["rule", "events"] []
  g__law_own : mg "_law_own" = some (.ref a.a__law_own)
  k__law_own : PySem.W.keepIn K (.ref a.a__law_own) = true
  t__law_own : Fun K "_law_own" "_law_own" s__law_own a.a__law_own a.fd__law_own
  d__law_own : Binds K a.fd__law_own ["parent"] []
  g_law : mg "law" = some (.ref a.a_law)
  k_law : PySem.W.keepIn K (.ref a.a_law) = true
  t_law : Fun K "law" "law" s_law a.a_law a.fd_law
  d_law : Binds K a.fd_law ["script"] []
  g_FetchError : mg "FetchError" = some (.ref a.cl_FetchError)
  k_FetchError : PySem.W.keepIn K (.ref a.cl_FetchError) = true
  u_FetchError : PySem.W.subIn K (.ref a.cl_FetchError) (.type "BaseException") = some true
  y_FetchError : PySem.W.typeIn K (.ref a.cl_FetchError) = some (.type "type")
  x_FetchError : PySem.W.excIn K a.cl_FetchError [.type "ValueError", .type "Exception", .type "BaseException", .type "object"] "ValueError.__new__" = true
  g_InvalidRule : mg "InvalidRule" = some (.ref a.cl_InvalidRule)
  k_InvalidRule : PySem.W.keepIn K (.ref a.cl_InvalidRule) = true
  u_InvalidRule : PySem.W.subIn K (.ref a.cl_InvalidRule) (.type "BaseException") = some true
  y_InvalidRule : PySem.W.typeIn K (.ref a.cl_InvalidRule) = some (.type "type")
  x_InvalidRule : PySem.W.excIn K a.cl_InvalidRule [.type "ValueError", .type "Exception", .type "BaseException", .type "object"] "ValueError.__new__" = true
  g_InvalidHarm : mg "InvalidHarm" = some (.ref a.cl_InvalidHarm)
  k_InvalidHarm : PySem.W.keepIn K (.ref a.cl_InvalidHarm) = true
  u_InvalidHarm : PySem.W.subIn K (.ref a.cl_InvalidHarm) (.type "BaseException") = some true
  y_InvalidHarm : PySem.W.typeIn K (.ref a.cl_InvalidHarm) = some (.type "type")
  x_InvalidHarm : PySem.W.excIn K a.cl_InvalidHarm [.type "ValueError", .type "Exception", .type "BaseException", .type "object"] "ValueError.__new__" = true
  e_EVENTS : ∀ {X : Cx} {pos : Pos}, X.K = K → X.mg = mg → Gl X "EVENTS" → SimE a.cl X (.Name "EVENTS" pos) (mK c_EVENTS)
  e_HARMS : ∀ {X : Cx} {pos : Pos}, X.K = K → X.mg = mg → Gl X "HARMS" → SimE a.cl X (.Name "HARMS" pos) (mK c_HARMS)
  e_OTHER : ∀ {X : Cx} {pos : Pos}, X.K = K → X.mg = mg → Gl X "OTHER" → SimE a.cl X (.Name "OTHER" pos) (mK c_OTHER)
  e_PART_NAMES : ∀ {X : Cx} {pos : Pos}, X.K = K → X.mg = mg → Gl X "PART_NAMES" → SimE a.cl X (.Name "PART_NAMES" pos) (mK c_PART_NAMES)
  e_VALUES : ∀ {X : Cx} {pos : Pos}, X.K = K → X.mg = mg → Gl X "VALUES" → SimE a.cl X (.Name "VALUES" pos) (mK c_VALUES)
  b_all : mg "all" = none
  b_any : mg "any" = none
  b_bool : mg "bool" = none
  b_int : mg "int" = none
  b_isinstance : mg "isinstance" = none
  b_len : mg "len" = none
  b_list : mg "list" = none
  b_min : mg "min" = none
  b_range : mg "range" = none
  b_sorted : mg "sorted" = none
  b_str : mg "str" = none
  b_tuple : mg "tuple" = none
  b_zip : mg "zip" = none
variable {P : Program} {w : World} {K : PySem.W.Frag} {mg : Str → Option Value} {base : Heap} {a : Ad}
theorem ok_is_same (T : Txt K mg a) : FnOk P w K mg base (L2.CX P w) 1 a.a_is_same a.fd_is_same p_is_same (FSp ⟨P, w, K, a.cl⟩ f_is_same) := by
  refine fn_ok (k := 0) a.cl T.t_is_same sc_is_same rfl rfl (by decide) fun cdv A outer s H E hr => ?_
  have hu := hu_room hr
  exact (sim_seq (sim_ifS (sim_tW (sim_tOrC (sim_tV (e_isBool ⟨by rfl, T.b_isinstance⟩ ⟨by rfl, T.b_bool⟩ (e_P 0 rfl (Or.inl rfl) nm_one)) (fun _ => rfl)) (sim_tOr1 (sim_tV (e_isBool ⟨by rfl, T.b_isinstance⟩ ⟨by rfl, T.b_bool⟩ (e_P 1 rfl (Or.inl rfl) nm_other)) (fun _ => rfl))))) (sim_one (sim_ret (sim_and (e_isBool ⟨by rfl, T.b_isinstance⟩ ⟨by rfl, T.b_bool⟩ (e_P 0 rfl (Or.inl rfl) nm_one)) (sim_and (e_isBool ⟨by rfl, T.b_isinstance⟩ ⟨by rfl, T.b_bool⟩ (e_P 1 rfl (Or.inl rfl) nm_other)) (sim_and1 ((sim_eq hu (e_P 0 rfl (Or.inl rfl) nm_one) (e_P 1 rfl (Or.inl rfl) nm_other))).e))))) sim_pnil)
  (sim_one (sim_ret (sim_and (e_isStr ⟨by rfl, T.b_isinstance⟩ ⟨by rfl, T.b_str⟩ (e_P 0 rfl (Or.inl rfl) nm_one)) (sim_and (e_isStr ⟨by rfl, T.b_isinstance⟩ ⟨by rfl, T.b_str⟩ (e_P 1 rfl (Or.inl rfl) nm_other)) (sim_and1 ((sim_eq hu (e_P 0 rfl (Or.inl rfl) nm_one) (e_P 1 rfl (Or.inl rfl) nm_other))).e))))))
theorem ok_is_rule (T : Txt K mg a) : FnOk P w K mg base (L2.CX P w) 2 a.a_is_rule a.fd_is_rule p_is_rule (FSp ⟨P, w, K, a.cl⟩ f_is_rule) := by
  refine fn_ok (k := 1) a.cl T.t_is_rule sc_is_rule rfl rfl (by decide) fun cdv A outer s H E hr => ?_
  have hu := hu_room hr
  exact (sim_seq (sim_ifS (sim_tW (sim_tOrC (sim_tNot (sim_tV (e_isTup ⟨by rfl, T.b_isinstance⟩ ⟨by rfl, T.b_tuple⟩ (e_P 0 rfl (Or.inl rfl) nm_value)) (fun _ => rfl))) (sim_tOr1 ((sim_ne hu (e_len ⟨by rfl, T.b_len⟩ (e_P 0 rfl (Or.inl rfl) nm_value)) (e_len ⟨by rfl, T.b_len⟩ (T.e_PART_NAMES rfl rfl (by rfl))))).t))) (sim_one (sim_ret (sim_cst (by kernel_rfl)))) sim_pnil)
  (sim_one (sim_ret (e_all ⟨by rfl, T.b_all⟩ rfl (sim_comp (own := [("one", 1), ("some", 2)]) rfl sc_is_rule.nd (i_zip ⟨by rfl, T.b_zip⟩ (e_V 0 rfl (Or.inl rfl) nm_value) (T.e_VALUES rfl rfl (by rfl))) (blkOk_by (by kernel_rfl)) rfl (tg_tup 2 rfl (fun _ _ _ _ _ => pg_tup rfl (pgs_one sc_is_rule.nd rfl (Or.inr rfl) (Or.inl rfl) (pgs_one sc_is_rule.nd rfl (Or.inl rfl) (Or.inr rfl) pgs_nil rfl) rfl) rfl rfl)) (fun _ _ _ _ _ => simTs_nil) (fun _ _ _ _ _ => (e_any ⟨by rfl, T.b_any⟩ rfl (sim_comp (own := [("other", 3)]) rfl sc_is_rule.nd (sim_items (e_V 2 rfl (Or.inl rfl) nm_some)) (blkOk_by (by kernel_rfl)) rfl (tg_one (fun _ _ _ _ _ => pg_name sc_is_rule.nd rfl (Or.inl rfl) (Or.inr rfl))) (fun _ _ _ _ _ => simTs_nil) (fun _ _ _ _ _ => (e_call (ok_is_same T) (hr.mono (by decide)) T.g_is_same T.k_is_same T.d_is_same nm_is_same (a_c (e_V 1 rfl (Or.inr (Or.inl rfl)) nm_one) (a_c (e_V 3 rfl (Or.inl rfl) nm_other) a_n)) (by rfl))) (fun _ => rfl)))) (fun _ => rfl))))))
theorem ok_need_rule (T : Txt K mg a) : FnOk P w K mg base (L2.CX P w) 3 a.a_need_rule a.fd_need_rule p_need_rule (FSp ⟨P, w, K, a.cl⟩ f_need_rule) := by
  refine fn_ok (k := 2) a.cl T.t_need_rule sc_need_rule rfl rfl (by decide) fun cdv A outer s H E hr => ?_
  have hu := hu_room hr
  exact (sim_one (sim_ifS (sim_tNot (sim_tV (e_call (ok_is_rule T) (hr.mono (by decide)) T.g_is_rule T.k_is_rule T.d_is_rule nm_is_rule (a_c (e_P 0 rfl (Or.inl rfl) nm_rule) a_n) (by rfl)) (fun _ => rfl))) (sim_one (sim_raise rfl (pmk_own PySem.F.excBase_ValueError T.x_InvalidRule T.g_InvalidRule T.k_InvalidRule (raises_own T.u_InvalidRule T.y_InvalidRule) (by rfl) nm_InvalidRule.d))) sim_pnil))
theorem ok_need_harm (T : Txt K mg a) : FnOk P w K mg base (L2.CX P w) 1 a.a_need_harm a.fd_need_harm p_need_harm (FSp ⟨P, w, K, a.cl⟩ f_need_harm) := by
  refine fn_ok (k := 0) a.cl T.t_need_harm sc_need_harm rfl rfl (by decide) fun cdv A outer s H E hr => ?_
  have hu := hu_room hr
  exact (sim_one (sim_ifS (sim_tW (sim_tOrC (sim_tNot (sim_tV (e_isStr ⟨by rfl, T.b_isinstance⟩ ⟨by rfl, T.b_str⟩ (e_P 0 rfl (Or.inl rfl) nm_harm)) (fun _ => rfl))) (sim_tOr1 ((sim_nin hu rfl (e_P 0 rfl (Or.inl rfl) nm_harm) (T.e_HARMS rfl rfl (by rfl)))).t))) (sim_one (sim_raise rfl (pmk_own PySem.F.excBase_ValueError T.x_InvalidHarm T.g_InvalidHarm T.k_InvalidHarm (raises_own T.u_InvalidHarm T.y_InvalidHarm) (by rfl) nm_InvalidHarm.d))) sim_pnil))
theorem ok_begin (T : Txt K mg a) : FnOk P w K mg base (L2.CX P w) 1 a.a_begin a.fd_begin p_begin (FSp ⟨P, w, K, a.cl⟩ f_begin) := by
  refine fn_ok (k := 0) a.cl T.t_begin sc_begin rfl rfl (by decide) fun cdv A outer s H E hr => ?_
  have hu := hu_room hr
  exact (sim_one (sim_ret (sim_cst (by kernel_rfl))))
theorem ok_put_at (T : Txt K mg a) : FnOk P w K mg base (L2.CX P w) 1 a.a_put_at a.fd_put_at p_put_at (FSp ⟨P, w, K, a.cl⟩ f_put_at) := by
  refine fn_ok (k := 0) a.cl T.t_put_at sc_put_at rfl rfl (by decide) fun cdv A outer s H E hr => ?_
  have hu := hu_room hr
  exact (sim_one (sim_ret (sim_if ((sim_eq hu (e_P 1 rfl (Or.inl rfl) nm_at) (sim_cst (by kernel_rfl)))).t (sim_tup (a_c (e_V 2 rfl (Or.inl rfl) nm_value) (a_c (sim_ix hu (e_P 0 rfl (Or.inl rfl) nm_pair) (sim_cst (by kernel_rfl)) (fun _ _ => rfl)) a_n))) (sim_tup (a_c (sim_ix hu (e_P 0 rfl (Or.inl rfl) nm_pair) (sim_cst (by kernel_rfl)) (fun _ _ => rfl)) (a_c (e_V 2 rfl (Or.inl rfl) nm_value) a_n))))))
theorem ok_spoken (T : Txt K mg a) : FnOk P w K mg base (L2.CX P w) 2 a.a_spoken a.fd_spoken p_spoken (FSp ⟨P, w, K, a.cl⟩ f_spoken) := by
  refine fn_ok (k := 1) a.cl T.t_spoken sc_spoken rfl rfl (by decide) fun cdv A outer s H E hr => ?_
  have hu := hu_room hr
  exact (sim_seq (sim_ifS ((sim_eq hu (sim_ix hu (e_P 0 rfl (Or.inl rfl) nm_rule) (sim_cst (by kernel_rfl)) (fun _ _ => rfl)) (sim_cst (by kernel_rfl)))).t (sim_one (sim_set sc_spoken.nd rfl (Or.inl rfl) (sim_cst (by kernel_rfl)) rfl (Or.inl rfl))) sim_pnil)
  (sim_one (sim_ret (e_call (ok_put_at T) (hr.mono (by decide)) T.g_put_at T.k_put_at T.d_put_at nm_put_at (a_c (e_P 1 rfl (Or.inl rfl) nm_words) (a_c (e_P 2 rfl (Or.inl rfl) nm_parent) (a_c (e_P 3 rfl (Or.inl rfl) nm_word) a_n))) (by rfl)))))
theorem ok_worded (T : Txt K mg a) : FnOk P w K mg base (L2.CX P w) 3 a.a_worded a.fd_worded p_worded (FSp ⟨P, w, K, a.cl⟩ f_worded) := by
  refine fn_ok (k := 2) a.cl T.t_worded sc_worded rfl rfl (by decide) fun cdv A outer s H E hr => ?_
  have hu := hu_room hr
  exact (sim_seq (sim_ifS (sim_tW (sim_tAndC ((sim_notN (e_P 3 rfl (Or.inl rfl) nm_signer))).t (sim_tAnd1 (sim_tV (sim_ix hu (e_P 0 rfl (Or.inr (Or.inl rfl)) nm_rule) (sim_cst (by kernel_rfl)) (fun _ _ => rfl)) (fun _ => rfl))))) (sim_one (sim_set sc_worded.nd rfl (Or.inl rfl) (e_call (ok_spoken T) (hr.mono (by decide)) T.g_spoken T.k_spoken T.d_spoken nm_spoken (a_c (e_P 0 rfl (Or.inr (Or.inl rfl)) nm_rule) (a_c (e_P 1 rfl (Or.inl rfl) nm_words) (a_c (e_P 3 rfl (Or.inl rfl) nm_signer) (a_c (sim_cst (by kernel_rfl)) a_n)))) (by rfl)) rfl (Or.inl rfl))) sim_pnil)
  (sim_one (sim_ret (e_tuple ⟨by rfl, T.b_tuple⟩ (sim_comp (own := [("word", 4), ("barred", 5)]) rfl sc_worded.nd (i_zip ⟨by rfl, T.b_zip⟩ (e_V 1 rfl (Or.inl rfl) nm_words) (e_V 2 rfl (Or.inl rfl) nm_courts)) (blkOk_by (by kernel_rfl)) rfl (tg_tup 2 rfl (fun _ _ _ _ _ => pg_tup rfl (pgs_one sc_worded.nd rfl (Or.inl rfl) (Or.inr rfl) (pgs_one sc_worded.nd rfl (Or.inl rfl) (Or.inr rfl) pgs_nil rfl) rfl) rfl rfl)) (fun _ _ _ _ _ => simTs_nil) (fun _ _ _ _ _ => (sim_if (sim_tW (sim_tAndC (sim_tV (sim_ix hu (e_P 0 rfl (Or.inr (Or.inl rfl)) nm_rule) (sim_cst (by kernel_rfl)) (fun _ _ => rfl)) (fun _ => rfl)) (sim_tAnd1 (sim_tV (e_P 5 rfl (Or.inl rfl) nm_barred) (fun _ => rfl))))) (sim_cst (by kernel_rfl)) (e_V 4 rfl (Or.inl rfl) nm_word))) (fun _ => rfl))))))
theorem ok_may (T : Txt K mg a) : FnOk P w K mg base (L2.CX P w) 4 a.a_may a.fd_may p_may (FSp ⟨P, w, K, a.cl⟩ f_may) := by
  refine fn_ok (k := 3) a.cl T.t_may sc_may rfl rfl (by decide) fun cdv A outer s H E hr => ?_
  have hu := hu_room hr
  exact (sim_seq (sim_ifS ((sim_ne hu (e_P 3 rfl (Or.inl rfl) nm_who) (T.e_OTHER rfl rfl (by rfl)))).t (sim_one (sim_ret (sim_not (sim_ix hu (e_P 2 rfl (Or.inl rfl) nm_courts) (e_P 3 rfl (Or.inl rfl) nm_who) (fun _ _ => rfl))))) sim_pnil)
  (sim_seq (sim_set sc_may.nd rfl (Or.inl rfl) (e_call (ok_worded T) (hr.mono (by decide)) T.g_worded T.k_worded T.d_worded nm_worded (a_c (e_P 0 rfl (Or.inl rfl) nm_rule) (a_c (e_P 1 rfl (Or.inl rfl) nm_words) (a_c (e_P 2 rfl (Or.inl rfl) nm_courts) (a_c (e_P 4 rfl (Or.inl rfl) nm_signer) a_n)))) (by rfl)) rfl (Or.inl rfl))
  (sim_seq (sim_ifS (sim_tW (sim_tAndC ((sim_eq hu (sim_ix hu (e_P 0 rfl (Or.inl rfl) nm_rule) (sim_cst (by kernel_rfl)) (fun _ _ => rfl)) (sim_cst (by kernel_rfl)))).t (sim_tAnd1 ((sim_in hu rfl (sim_cst (by kernel_rfl)) (e_P 5 rfl (Or.inl rfl) nm_counted))).t))) (sim_one (sim_ret (sim_cst (by kernel_rfl)))) sim_pnil)
  (sim_seq (sim_setLc (own := [("word", 7)]) rfl sc_may.nd rfl rfl (sw_true rfl rfl rfl (by decide +kernel)) (sim_items (e_V 5 rfl (Or.inl rfl) nm_counted)) (blkOk_by (by kernel_rfl)) rfl (tg_one (fun _ _ _ _ _ => pg_name sc_may.nd rfl (Or.inl rfl) (Or.inr rfl))) (fun _ _ _ _ _ => simTs_nil) (fun _ _ _ _ _ => ((sim_in hu rfl (e_P 7 rfl (Or.inl rfl) nm_word) (sim_cst (by kernel_rfl)))).e) (fun _ => rfl))
  (sim_one (sim_ret (sim_if ((sim_eq hu (sim_ix hu (e_P 0 rfl (Or.inl rfl) nm_rule) (sim_cst (by kernel_rfl)) (fun _ _ => rfl)) (sim_cst (by kernel_rfl)))).t (e_all ⟨by rfl, T.b_all⟩ rfl (e_P 6 rfl (Or.inl rfl) nm_good)) (e_any ⟨by rfl, T.b_any⟩ rfl (e_P 6 rfl (Or.inl rfl) nm_good)))))))))
theorem ok_used_up (T : Txt K mg a) : FnOk P w K mg base (L2.CX P w) 1 a.a_used_up a.fd_used_up p_used_up (FSp ⟨P, w, K, a.cl⟩ f_used_up) := by
  refine fn_ok (k := 0) a.cl T.t_used_up sc_used_up rfl rfl (by decide) fun cdv A outer s H E hr => ?_
  have hu := hu_room hr
  exact (sim_one (sim_ret (e_tuple ⟨by rfl, T.b_tuple⟩ (sim_comp (own := [("word", 1)]) rfl sc_used_up.nd (sim_items (e_V 0 rfl (Or.inl rfl) nm_words)) (blkOk_by (by kernel_rfl)) rfl (tg_one (fun _ _ _ _ _ => pg_name sc_used_up.nd rfl (Or.inl rfl) (Or.inr rfl))) (fun _ _ _ _ _ => simTs_nil) (fun _ _ _ _ _ => (sim_if ((sim_eq hu (e_P 1 rfl (Or.inl rfl) nm_word) (sim_cst (by kernel_rfl)))).t (sim_cst (by kernel_rfl)) (e_V 1 rfl (Or.inl rfl) nm_word))) (fun _ => rfl)))))
theorem ok_come (T : Txt K mg a) : FnOk P w K mg base (L2.CX P w) 5 a.a_come a.fd_come p_come (FSp ⟨P, w, K, a.cl⟩ f_come) := by
  refine fn_ok (k := 4) a.cl T.t_come sc_come rfl rfl (by decide) fun cdv A outer s H E hr => ?_
  have hu := hu_room hr
  exact (sim_seq (sim_unp rfl rfl (pgs_one sc_come.nd rfl (Or.inl rfl) (Or.inl rfl) (pgs_one sc_come.nd rfl (Or.inl rfl) (Or.inl rfl) (pgs_one sc_come.nd rfl (Or.inl rfl) (Or.inl rfl) (pgs_one sc_come.nd rfl (Or.inl rfl) (Or.inl rfl) (pgs_one sc_come.nd rfl (Or.inl rfl) (Or.inl rfl) pgs_nil rfl) rfl) rfl) rfl) rfl) rfl rfl (e_V 1 rfl (Or.inl rfl) nm_stand) rfl rfl rfl)
  (sim_seq (sim_ifS (sim_tNot (sim_tV (e_P 8 rfl (Or.inl rfl) nm_there) (fun _ => rfl))) (sim_one (sim_ret (sim_tup (a_c (e_V 1 rfl (Or.inl rfl) nm_stand) (a_c (sim_cst (by kernel_rfl)) a_n))))) sim_pnil)
  (sim_seq (sim_ifS (sim_tNot (sim_tV (e_call (ok_may T) (hr.mono (by decide)) T.g_may T.k_may T.d_may nm_may (a_c (e_P 0 rfl (Or.inl rfl) nm_rule) (a_c (e_V 6 rfl (Or.inl rfl) nm_listed) (a_c (e_V 7 rfl (Or.inl rfl) nm_known) (a_c (e_P 2 rfl (Or.inl rfl) nm_who) (a_c (e_P 3 rfl (Or.inl rfl) nm_signer) a_n))))) (by rfl)) (fun _ => rfl))) (sim_one (sim_ret (sim_tup (a_c (e_V 1 rfl (Or.inl rfl) nm_stand) (a_c (sim_cst (by kernel_rfl)) a_n))))) sim_pnil)
  (sim_seq (sim_ifS (sim_tW (sim_tAndC ((sim_eq hu (e_P 2 rfl (Or.inl rfl) nm_who) (T.e_OTHER rfl rfl (by rfl)))).t (sim_tAnd1 ((sim_eq hu (sim_ix hu (e_P 0 rfl (Or.inl rfl) nm_rule) (sim_cst (by kernel_rfl)) (fun _ _ => rfl)) (sim_cst (by kernel_rfl)))).t))) (sim_one (sim_par rfl sc_come.nd rfl rfl (by decide) rfl rfl (a_c (e_call (ok_used_up T) (hr.mono (by decide)) T.g_used_up T.k_used_up T.d_used_up nm_used_up (a_c (e_V 4 rfl (Or.inl rfl) nm_said) a_n) (by rfl)) (a_c (e_call (ok_used_up T) (hr.mono (by decide)) T.g_used_up T.k_used_up T.d_used_up nm_used_up (a_c (e_V 6 rfl (Or.inl rfl) nm_listed) a_n) (by rfl)) a_n)) rfl rfl)) sim_pnil)
  (sim_one (sim_ret (sim_tup (a_c (sim_tup (a_c (e_V 4 rfl (Or.inl rfl) nm_said) (a_c (e_V 5 rfl (Or.inl rfl) nm_courts) (a_c (e_V 6 rfl (Or.inl rfl) nm_listed) (a_c (e_V 7 rfl (Or.inl rfl) nm_known) (a_c (sim_cst (by kernel_rfl)) a_n)))))) (a_c (sim_cst (by kernel_rfl)) a_n)))))))))
theorem ok_morning (T : Txt K mg a) : FnOk P w K mg base (L2.CX P w) 1 a.a_morning a.fd_morning p_morning (FSp ⟨P, w, K, a.cl⟩ f_morning) := by
  refine fn_ok (k := 0) a.cl T.t_morning sc_morning rfl rfl (by decide) fun cdv A outer s H E hr => ?_
  have hu := hu_room hr
  exact (sim_seq (sim_unp rfl rfl (pgs_one sc_morning.nd rfl (Or.inl rfl) (Or.inl rfl) (pgs_one sc_morning.nd rfl (Or.inl rfl) (Or.inl rfl) (pgs_one sc_morning.nd rfl (Or.inl rfl) (Or.inl rfl) (pgs_one sc_morning.nd rfl (Or.inl rfl) (Or.inl rfl) (pgs_one sc_morning.nd rfl (Or.inl rfl) (Or.inl rfl) pgs_nil rfl) rfl) rfl) rfl) rfl) rfl rfl (e_V 1 rfl (Or.inl rfl) nm_stand) rfl rfl rfl)
  (sim_seq (sim_ifS ((sim_eq hu (sim_ix hu (e_P 0 rfl (Or.inl rfl) nm_rule) (sim_cst (by kernel_rfl)) (fun _ _ => rfl)) (sim_cst (by kernel_rfl)))).t (sim_seq (sim_set sc_morning.nd rfl (Or.inl rfl) (e_lzip rfl ⟨by rfl, T.b_list⟩ ⟨by rfl, T.b_zip⟩ (e_V 2 rfl (Or.inl rfl) nm_said) (e_V 4 rfl (Or.inl rfl) nm_listed)) rfl (Or.inl rfl))
  (sim_one (sim_set sc_morning.nd rfl (Or.inl rfl) (e_tuple ⟨by rfl, T.b_tuple⟩ (sim_comp (own := [("word", 8), ("old", 9)]) rfl sc_morning.nd (sim_items (e_V 7 rfl (Or.inl rfl) nm_pairs)) (blkOk_by (by kernel_rfl)) rfl (tg_tup 2 rfl (fun _ _ _ _ _ => pg_tup rfl (pgs_one sc_morning.nd rfl (Or.inl rfl) (Or.inr rfl) (pgs_one sc_morning.nd rfl (Or.inl rfl) (Or.inr rfl) pgs_nil rfl) rfl) rfl rfl)) (fun _ _ _ _ _ => simTs_nil) (fun _ _ _ _ _ => (sim_if (sim_tW (sim_tAndC ((sim_eq hu (e_P 8 rfl (Or.inl rfl) nm_word) (sim_cst (by kernel_rfl)))).t (sim_tAnd1 ((sim_eq hu (e_P 9 rfl (Or.inl rfl) nm_old) (sim_cst (by kernel_rfl)))).t))) (sim_cst (by kernel_rfl)) (e_V 8 rfl (Or.inl rfl) nm_word))) (fun _ => rfl))) rfl (Or.inl rfl)))) sim_pnil)
  (sim_one (sim_ret (sim_tp (a_c (e_M 2 rfl (Or.inl rfl) nm_said) (a_c (e_M 3 rfl (Or.inl rfl) nm_courts) (a_c (e_M 2 rfl (Or.inl rfl) nm_said) (a_c (e_M 3 rfl (Or.inl rfl) nm_courts) (a_c (sim_cst (by kernel_rfl)) a_n))))))))))
theorem ok_step (T : Txt K mg a) : FnOk P w K mg base (L2.CX P w) 6 a.a_step a.fd_step p_step (FSp ⟨P, w, K, a.cl⟩ f_step) := by
  refine fn_ok (k := 5) a.cl T.t_step sc_step rfl rfl (by decide) fun cdv A outer s H E hr => ?_
  have hu := hu_room hr
  exact (sim_seq (sim_unp rfl rfl (pgs_one sc_step.nd rfl (Or.inl rfl) (Or.inl rfl) (pgs_one sc_step.nd rfl (Or.inl rfl) (Or.inl rfl) (pgs_one sc_step.nd rfl (Or.inl rfl) (Or.inl rfl) (pgs_one sc_step.nd rfl (Or.inl rfl) (Or.inl rfl) (pgs_one sc_step.nd rfl (Or.inl rfl) (Or.inl rfl) pgs_nil rfl) rfl) rfl) rfl) rfl) rfl rfl (e_V 1 rfl (Or.inl rfl) nm_stand) rfl rfl rfl)
  (sim_seq (sim_ifS ((sim_eq hu (sim_ix hu (e_P 2 rfl (Or.inl rfl) nm_event) (sim_cst (by kernel_rfl)) (fun _ _ => rfl)) (sim_cst (by kernel_rfl)))).t (sim_one (sim_ret (e_call (ok_come T) (hr.mono (by decide)) T.g_come T.k_come T.d_come nm_come (a_c (e_P 0 rfl (Or.inl rfl) nm_rule) (a_c (e_P 1 rfl (Or.inl rfl) nm_stand) (a_c (sim_ix hu (e_P 2 rfl (Or.inl rfl) nm_event) (sim_cst (by kernel_rfl)) (fun _ _ => rfl)) (a_c (sim_cst (by kernel_rfl)) a_n)))) (by rfl)))) sim_pnil)
  (sim_seq (sim_ifS ((sim_eq hu (sim_ix hu (e_P 2 rfl (Or.inl rfl) nm_event) (sim_cst (by kernel_rfl)) (fun _ _ => rfl)) (sim_cst (by kernel_rfl)))).t (sim_one (sim_ret (e_call (ok_come T) (hr.mono (by decide)) T.g_come T.k_come T.d_come nm_come (a_c (e_P 0 rfl (Or.inl rfl) nm_rule) (a_c (e_P 1 rfl (Or.inl rfl) nm_stand) (a_c (T.e_OTHER rfl rfl (by rfl)) (a_c (sim_ix hu (e_P 2 rfl (Or.inl rfl) nm_event) (sim_cst (by kernel_rfl)) (fun _ _ => rfl)) a_n)))) (by rfl)))) sim_pnil)
  (sim_seq (sim_ifS ((sim_eq hu (sim_ix hu (e_P 2 rfl (Or.inl rfl) nm_event) (sim_cst (by kernel_rfl)) (fun _ _ => rfl)) (sim_cst (by kernel_rfl)))).t (sim_one (sim_ret (sim_tup (a_c (e_call (ok_morning T) (hr.mono (by decide)) T.g_morning T.k_morning T.d_morning nm_morning (a_c (e_P 0 rfl (Or.inl rfl) nm_rule) (a_c (e_P 1 rfl (Or.inl rfl) nm_stand) a_n)) (by rfl)) (a_c (sim_cst (by kernel_rfl)) a_n))))) sim_pnil)
  (sim_seq (sim_ifS ((sim_eq hu (sim_ix hu (e_P 2 rfl (Or.inl rfl) nm_event) (sim_cst (by kernel_rfl)) (fun _ _ => rfl)) (sim_cst (by kernel_rfl)))).t (sim_seq (sim_set sc_step.nd rfl (Or.inl rfl) (e_call (ok_spoken T) (hr.mono (by decide)) T.g_spoken T.k_spoken T.d_spoken nm_spoken (a_c (e_P 0 rfl (Or.inl rfl) nm_rule) (a_c (e_V 3 rfl (Or.inl rfl) nm_said) (a_c (sim_ix hu (e_P 2 rfl (Or.inl rfl) nm_event) (sim_cst (by kernel_rfl)) (fun _ _ => rfl)) (a_c (sim_ix hu (e_P 2 rfl (Or.inl rfl) nm_event) (sim_cst (by kernel_rfl)) (fun _ _ => rfl)) a_n)))) (by rfl)) rfl (Or.inl rfl))
  (sim_one (sim_set sc_step.nd rfl (Or.inl rfl) (sim_if ((sim_eq hu (sim_ix hu (e_P 0 rfl (Or.inl rfl) nm_rule) (sim_cst (by kernel_rfl)) (fun _ _ => rfl)) (sim_cst (by kernel_rfl)))).t (e_V 3 rfl (Or.inl rfl) nm_said) (e_V 5 rfl (Or.inl rfl) nm_listed)) rfl (Or.inl rfl)))) (sim_seq (sim_set sc_step.nd rfl (Or.inl rfl) (e_call (ok_put_at T) (hr.mono (by decide)) T.g_put_at T.k_put_at T.d_put_at nm_put_at (a_c (e_V 4 rfl (Or.inl rfl) nm_courts) (a_c (sim_ix hu (e_P 2 rfl (Or.inl rfl) nm_event) (sim_cst (by kernel_rfl)) (fun _ _ => rfl)) (a_c ((sim_eq hu (sim_ix hu (e_P 2 rfl (Or.inl rfl) nm_event) (sim_cst (by kernel_rfl)) (fun _ _ => rfl)) (sim_cst (by kernel_rfl)))).e a_n))) (by rfl)) rfl (Or.inl rfl))
  (sim_one (sim_set sc_step.nd rfl (Or.inl rfl) (sim_if ((sim_eq hu (sim_ix hu (e_P 0 rfl (Or.inl rfl) nm_rule) (sim_cst (by kernel_rfl)) (fun _ _ => rfl)) (sim_cst (by kernel_rfl)))).t (e_V 4 rfl (Or.inl rfl) nm_courts) (e_V 6 rfl (Or.inl rfl) nm_known)) rfl (Or.inl rfl)))))
  (sim_one (sim_ret (sim_tup (a_c (sim_tup (a_c (e_V 3 rfl (Or.inl rfl) nm_said) (a_c (e_V 4 rfl (Or.inl rfl) nm_courts) (a_c (e_V 5 rfl (Or.inl rfl) nm_listed) (a_c (e_V 6 rfl (Or.inl rfl) nm_known) (a_c (e_V 7 rfl (Or.inl rfl) nm_there) a_n)))))) (a_c (sim_cst (by kernel_rfl)) a_n))))))))))
theorem ok_truly_may (T : Txt K mg a) : FnOk P w K mg base (L2.CX P w) 5 a.a_truly_may a.fd_truly_may p_truly_may (FSp ⟨P, w, K, a.cl⟩ f_truly_may) := by
  refine fn_ok (k := 4) a.cl T.t_truly_may sc_truly_may rfl rfl (by decide) fun cdv A outer s H E hr => ?_
  have hu := hu_room hr
  exact (sim_one (sim_ret (e_tuple ⟨by rfl, T.b_tuple⟩ (sim_comp (own := [("who", 3)]) rfl sc_truly_may.nd (i_range ⟨by rfl, T.b_range⟩ (sim_cst (by kernel_rfl))) (blkOk_by (by kernel_rfl)) rfl (tg_one (fun _ _ _ _ _ => pg_name sc_truly_may.nd rfl (Or.inl rfl) (Or.inr rfl))) (fun _ _ _ _ _ => simTs_nil) (fun _ _ _ _ _ => (e_call (ok_may T) (hr.mono (by decide)) T.g_may T.k_may T.d_may nm_may (a_c (e_P 0 rfl (Or.inr (Or.inl rfl)) nm_rule) (a_c (sim_ix hu (e_P 1 rfl (Or.inr (Or.inl rfl)) nm_stand) (sim_cst (by kernel_rfl)) (fun _ _ => rfl)) (a_c (sim_ix hu (e_P 1 rfl (Or.inr (Or.inl rfl)) nm_stand) (sim_cst (by kernel_rfl)) (fun _ _ => rfl)) (a_c (e_V 3 rfl (Or.inl rfl) nm_who) (a_c (sim_if ((sim_eq hu (e_P 3 rfl (Or.inl rfl) nm_who) (T.e_OTHER rfl rfl (by rfl)))).t (e_V 2 rfl (Or.inr (Or.inl rfl)) nm_signer) (sim_cst (by kernel_rfl))) a_n))))) (by rfl))) (fun _ => rfl)))))
theorem ok_harms_of (T : Txt K mg a) : FnOk P w K mg base (L2.CX P w) 6 a.a_harms_of a.fd_harms_of p_harms_of (FSp ⟨P, w, K, a.cl⟩ f_harms_of) := by
  refine fn_ok (k := 5) a.cl T.t_harms_of sc_harms_of rfl rfl (by decide) fun cdv A outer s H E hr => ?_
  have hu := hu_room hr
  exact (sim_seq (sim_ifS ((sim_nin hu rfl (sim_ix hu (e_P 2 rfl (Or.inl rfl) nm_event) (sim_cst (by kernel_rfl)) (fun _ _ => rfl)) (sim_cst (by kernel_rfl)))).t (sim_one (sim_ret (sim_lst (sim_cstL (by kernel_rfl))))) sim_pnil)
  (sim_seq (sim_set sc_harms_of.nd rfl (Or.inl rfl) (e_call (ok_truly_may T) (hr.mono (by decide)) T.g_truly_may T.k_truly_may T.d_truly_may nm_truly_may (a_c (e_P 0 rfl (Or.inl rfl) nm_rule) (a_c (e_P 1 rfl (Or.inl rfl) nm_stand) (a_c (sim_if ((sim_eq hu (sim_ix hu (e_P 2 rfl (Or.inl rfl) nm_event) (sim_cst (by kernel_rfl)) (fun _ _ => rfl)) (sim_cst (by kernel_rfl)))).t (sim_ix hu (e_P 2 rfl (Or.inl rfl) nm_event) (sim_cst (by kernel_rfl)) (fun _ _ => rfl)) (sim_cst (by kernel_rfl))) a_n))) (by rfl)) rfl (Or.inl rfl))
  (sim_seq (sim_set sc_harms_of.nd rfl (Or.inl rfl) (sim_ix hu (e_P 4 rfl (Or.inl rfl) nm_rights) (sim_if ((sim_eq hu (sim_ix hu (e_P 2 rfl (Or.inl rfl) nm_event) (sim_cst (by kernel_rfl)) (fun _ _ => rfl)) (sim_cst (by kernel_rfl)))).t (sim_ix hu (e_P 2 rfl (Or.inl rfl) nm_event) (sim_cst (by kernel_rfl)) (fun _ _ => rfl)) (T.e_OTHER rfl rfl (by rfl))) (fun _ _ => rfl)) rfl (Or.inl rfl))
  (sim_seq (sim_ifS ((sim_eq hu (e_P 3 rfl (Or.inl rfl) nm_word) (sim_cst (by kernel_rfl)))).t (sim_one (sim_ret (sim_if (sim_tV (e_P 5 rfl (Or.inl rfl) nm_mine) (fun _ => rfl)) (sim_lst (sim_cstL (by kernel_rfl))) (sim_lst (sim_cstL (by kernel_rfl)))))) sim_pnil)
  (sim_seq (sim_ifS ((sim_eq hu (e_P 3 rfl (Or.inl rfl) nm_word) (sim_cst (by kernel_rfl)))).t (sim_one (sim_ret (sim_if (sim_tV (e_P 5 rfl (Or.inl rfl) nm_mine) (fun _ => rfl)) (sim_lst (sim_cstL (by kernel_rfl))) (sim_lst (sim_cstL (by kernel_rfl)))))) sim_pnil)
  (sim_one (sim_ret (sim_if (sim_tV (e_P 5 rfl (Or.inl rfl) nm_mine) (fun _ => rfl)) (sim_lst (sim_cstL (by kernel_rfl))) (sim_mul (sim_lst (sim_cstL (by kernel_rfl))) (e_int ⟨by rfl, T.b_int⟩ ((sim_nin hu rfl (sim_cst (by kernel_rfl)) (e_P 4 rfl (Or.inl rfl) nm_rights))).e))))))))))
theorem ok_events_of (T : Txt K mg a) : FnOk P w K mg base (L2.CX P w) 1 a.a_events_of a.fd_events_of p_events_of (FSp ⟨P, w, K, a.cl⟩ f_events_of) := by
  refine fn_ok (k := 0) a.cl T.t_events_of sc_events_of rfl rfl (by decide) fun cdv A outer s H E hr => ?_
  have hu := hu_room hr
  exact (sim_seq (sim_setLc (own := [("event", 2)]) rfl sc_events_of.nd rfl rfl (sw_true rfl rfl rfl (by decide +kernel)) (sim_items (T.e_EVENTS rfl rfl (by rfl))) (blkOk_by (by kernel_rfl)) rfl (tg_one (fun _ _ _ _ _ => pg_name sc_events_of.nd rfl (Or.inl rfl) (Or.inr rfl))) (fun _ _ _ _ _ => (simTs_one ((sim_in hu rfl (sim_ix hu (e_P 2 rfl (Or.inl rfl) nm_event) (sim_cst (by kernel_rfl)) (fun _ _ => rfl)) (sim_cst (by kernel_rfl)))).t)) (fun _ _ _ _ _ => (e_V 2 rfl (Or.inl rfl) nm_event)) (fun _ => rfl))
  (sim_one (sim_ret (sim_add (e_P 1 rfl (Or.inl rfl) nm_found) (sim_comp (own := [("event", 2)]) rfl sc_events_of.nd (sim_items (T.e_EVENTS rfl rfl (by rfl))) (blkOk_by (by kernel_rfl)) rfl (tg_one (fun _ _ _ _ _ => pg_name sc_events_of.nd rfl (Or.inl rfl) (Or.inr rfl))) (fun _ _ _ _ _ => (simTs_one (sim_tW (sim_tAndC ((sim_in hu rfl (sim_ix hu (e_P 2 rfl (Or.inl rfl) nm_event) (sim_cst (by kernel_rfl)) (fun _ _ => rfl)) (sim_cst (by kernel_rfl)))).t (sim_tAnd1 ((sim_eq hu (sim_ix hu (e_P 2 rfl (Or.inl rfl) nm_event) (sim_cst (by kernel_rfl)) (fun _ _ => rfl)) (e_P 0 rfl (Or.inr (Or.inl rfl)) nm_parent))).t))))) (fun _ _ _ _ _ => (e_V 2 rfl (Or.inl rfl) nm_event)) (fun _ => rfl))))))
theorem ok_way_to (T : Txt K mg a) : FnOk P w K mg base (L2.CX P w) 1 a.a_way_to a.fd_way_to p_way_to (FSp ⟨P, w, K, a.cl⟩ f_way_to) := by
  refine fn_ok (k := 0) a.cl T.t_way_to sc_way_to rfl rfl (by decide) fun cdv A outer s H E hr => ?_
  have hu := hu_room hr
  exact (sim_seq (sim_set sc_way_to.nd rfl (Or.inl rfl) (sim_cst (by kernel_rfl)) rfl (Or.inl rfl))
  (sim_seq (sim_while (passes_of rfl) ((sim_notN (sim_ix hu (e_P 0 rfl (Or.inl rfl) nm_known) (e_P 1 rfl (Or.inl rfl) nm_stand) (fun _ _ => rfl)))).t (sim_seq (sim_unp rfl rfl (pgs_one sc_way_to.nd rfl (Or.inl rfl) (Or.inl rfl) (pgs_one sc_way_to.nd rfl (Or.inl rfl) (Or.inl rfl) pgs_nil rfl) rfl) rfl rfl (sim_ix hu (e_P 0 rfl (Or.inl rfl) nm_known) (e_P 1 rfl (Or.inl rfl) nm_stand) (fun _ _ => rfl)) rfl rfl rfl)
  (sim_one (sim_set sc_way_to.nd rfl (Or.inl rfl) (sim_add (sim_tup (a_c (e_V 3 rfl (Or.inl rfl) nm_event) a_n)) (e_P 2 rfl (Or.inl rfl) nm_events)) rfl (Or.inl rfl)))))
  (sim_one (sim_ret (e_M 2 rfl (Or.inl rfl) nm_events)))))
theorem ok_search (T : Txt K mg a) : FnOk P w K mg base (L2.CX P w) 7 a.a_search a.fd_search p_search (FSp ⟨P, w, K, a.cl⟩ f_search) := by
  refine fn_ok (k := 6) a.cl T.t_search sc_search rfl rfl (by decide) fun cdv A outer s H E hr => ?_
  have hu := hu_room hr
  exact (sim_seq (sim_set sc_search.nd rfl (Or.inl rfl) (e_call0 (ok_begin T) (hr.mono (by decide)) T.g_begin T.k_begin T.d_begin nm_begin  (by rfl)) rfl (Or.inl rfl))
  (sim_seq (sim_par rfl sc_search.nd rfl rfl (by decide) rfl rfl (a_c (sim_dic1 hu (e_V 3 rfl (Or.inl rfl) nm_first) (sim_cst (by kernel_rfl))) (a_c (sim_lst (a_c (e_V 3 rfl (Or.inl rfl) nm_first) a_n)) a_n)) rfl rfl)
  (sim_seq (sim_while (passes_of rfl) ((sim_ne hu (e_P 5 rfl (Or.inl rfl) nm_line) (sim_lst (sim_cstL (by kernel_rfl))))).t (sim_seq (sim_set sc_search.nd rfl (Or.inl rfl) (sim_lst (sim_cstL (by kernel_rfl))) rfl (Or.inl rfl))
  (sim_seq (sim_for (passes_of rfl) rfl (sim_items (e_V 5 rfl (Or.inl rfl) nm_line)) (simG_one sc_search.nd rfl (Or.inl rfl) (Or.inl rfl)) (sim_one (sim_for (passes_of rfl) rfl (sim_items (e_V 1 rfl (Or.inl rfl) nm_events)) (simG_one sc_search.nd rfl (Or.inl rfl) (Or.inl rfl)) (sim_seq (sim_unp rfl rfl (pgs_one sc_search.nd rfl (Or.inl rfl) (Or.inl rfl) (pgs_one sc_search.nd rfl (Or.inl rfl) (Or.inl rfl) pgs_nil rfl) rfl) rfl rfl (e_call (ok_step T) (hr.mono (by decide)) T.g_step T.k_step T.d_step nm_step (a_c (e_P 0 rfl (Or.inl rfl) nm_rule) (a_c (e_V 7 rfl (Or.inl rfl) nm_stand) (a_c (e_V 8 rfl (Or.inl rfl) nm_event) a_n))) (by rfl)) rfl rfl rfl)
  (sim_seq (sim_ifS ((sim_in hu rfl (e_P 2 rfl (Or.inl rfl) nm_harm) (e_call (ok_harms_of T) (hr.mono (by decide)) T.g_harms_of T.k_harms_of T.d_harms_of nm_harms_of (a_c (e_P 0 rfl (Or.inl rfl) nm_rule) (a_c (e_V 7 rfl (Or.inl rfl) nm_stand) (a_c (e_V 8 rfl (Or.inl rfl) nm_event) (a_c (e_V 10 rfl (Or.inl rfl) nm_word) a_n)))) (by rfl)))).t (sim_one (sim_ret (sim_tup (a_c (e_V 4 rfl (Or.inl rfl) nm_known) (a_c (sim_add (e_call (ok_way_to T) (hr.mono (by decide)) T.g_way_to T.k_way_to T.d_way_to nm_way_to (a_c (e_V 4 rfl (Or.inl rfl) nm_known) (a_c (e_V 7 rfl (Or.inl rfl) nm_stand) a_n)) (by rfl)) (sim_tup (a_c (e_V 8 rfl (Or.inl rfl) nm_event) a_n))) a_n))))) sim_pnil)
  (sim_one (sim_ifS ((sim_nin hu rfl (e_P 9 rfl (Or.inl rfl) nm_there) (e_P 4 rfl (Or.inl rfl) nm_known))).t (sim_seq (sim_ixset hu rfl (Or.inl rfl) nm_known.d nm_known.c (sim_tup (a_c (e_V 7 rfl (Or.inl rfl) nm_stand) (a_c (e_V 8 rfl (Or.inl rfl) nm_event) a_n))) (e_V 9 rfl (Or.inl rfl) nm_there) rfl rfl rfl (fun _ => rfl))
  (sim_one (sim_drop (sim_app rfl (Or.inl rfl) nm_later.d nm_later.c (e_V 9 rfl (Or.inl rfl) nm_there) rfl rfl rfl rfl rfl) rfl))) sim_pnil)))) (fun _ => rfl))) (fun _ => rfl))
  (sim_one (sim_set sc_search.nd rfl (Or.inl rfl) (e_V 6 rfl (Or.inl rfl) nm_later) rfl (Or.inl rfl))))))
  (sim_one (sim_ret (sim_tp (a_c (e_M 4 rfl (Or.inl rfl) nm_known) (a_c (sim_cst (by kernel_rfl)) a_n))))))))
theorem ok_alone (T : Txt K mg a) : FnOk P w K mg base (L2.CX P w) 8 a.a_alone a.fd_alone p_alone (FSp ⟨P, w, K, a.cl⟩ f_alone) := by
  refine fn_ok (k := 7) a.cl T.t_alone sc_alone rfl rfl (by decide) fun cdv A outer s H E hr => ?_
  have hu := hu_room hr
  exact (sim_seq (sim_drop (e_call (ok_need_rule T) (hr.mono (by decide)) T.g_need_rule T.k_need_rule T.d_need_rule nm_need_rule (a_c (e_P 0 rfl (Or.inr (Or.inl rfl)) nm_rule) a_n) (by rfl)) rfl)
  (sim_seq (sim_drop (e_call (ok_need_harm T) (hr.mono (by decide)) T.g_need_harm T.k_need_harm T.d_need_harm nm_need_harm (a_c (e_P 1 rfl (Or.inr (Or.inl rfl)) nm_harm) a_n) (by rfl)) rfl)
  (sim_one (sim_ret (sim_comp (own := [("parent", 2)]) rfl sc_alone.nd (sim_items (sim_cst (by kernel_rfl))) (blkOk_by (by kernel_rfl)) rfl (tg_one (fun _ _ _ _ _ => pg_name sc_alone.nd rfl (Or.inl rfl) (Or.inr rfl))) (fun _ _ _ _ _ => (simTs_one ((sim_notN (sim_ix hu (e_call (ok_search T) (hr.mono (by decide)) T.g_search T.k_search T.d_search nm_search (a_c (e_P 0 rfl (Or.inr (Or.inl rfl)) nm_rule) (a_c (e_call (ok_events_of T) (hr.mono (by decide)) T.g_events_of T.k_events_of T.d_events_of nm_events_of (a_c (e_V 2 rfl (Or.inl rfl) nm_parent) a_n) (by rfl)) (a_c (e_P 1 rfl (Or.inr (Or.inl rfl)) nm_harm) a_n))) (by rfl)) (sim_cst (by kernel_rfl)) (fun _ _ => rfl)))).t)) (fun _ _ _ _ _ => (e_V 2 rfl (Or.inl rfl) nm_parent)) (fun _ => rfl))))))
theorem ok__law_pot (T : Txt K mg a) : FnOk P w K mg base (L2.CX P w) 1 a.a__law_pot a.fd__law_pot p__law_pot (FSp ⟨P, w, K, a.cl⟩ f__law_pot) := by
  refine fn_ok (k := 0) a.cl T.t__law_pot sc__law_pot rfl rfl (by decide) fun cdv A outer s H E hr => ?_
  have hu := hu_room hr
  exact (sim_seq (sim_set sc__law_pot.nd rfl (Or.inl rfl) (sim_if ((sim_ge (e_P 0 rfl (Or.inl rfl) nm_cell) (sim_pow (sim_cst (by kernel_rfl)) (sim_cst (by kernel_rfl))))).t (sim_add (sim_fdiv (e_P 0 rfl (Or.inl rfl) nm_cell) (sim_cst (by kernel_rfl))) (e_P 1 rfl (Or.inl rfl) nm_salt)) (sim_cst (by kernel_rfl))) rfl (Or.inl rfl))
  (sim_one (sim_ret (sim_lst (a_c (e_V 2 rfl (Or.inl rfl) nm_great) (a_c (sim_add (sim_mod (e_int ⟨by rfl, T.b_int⟩ (sim_add (sim_mul (e_P 0 rfl (Or.inl rfl) nm_cell) (sim_cst (by kernel_rfl))) (sim_mul (sim_cst (by kernel_rfl)) (e_P 1 rfl (Or.inl rfl) nm_salt)))) (sim_cst (by kernel_rfl))) (sim_cst (by kernel_rfl))) a_n))))))
theorem ok__law_lot (T : Txt K mg a) : FnOk P w K mg base (L2.CX P w) 1 a.a__law_lot a.fd__law_lot p__law_lot (FSp ⟨P, w, K, a.cl⟩ f__law_lot) := by
  refine fn_ok (k := 0) a.cl T.t__law_lot sc__law_lot rfl rfl (by decide) fun cdv A outer s H E hr => ?_
  have hu := hu_room hr
  exact (sim_seq (sim_ifS ((sim_gt (sim_ix hu (e_P 0 rfl (Or.inl rfl) nm_pot) (sim_cst (by kernel_rfl)) (fun _ _ => rfl)) (sim_cst (by kernel_rfl)))).t (sim_seq (sim_set sc__law_lot.nd rfl (Or.inl rfl) (sim_mod (e_int ⟨by rfl, T.b_int⟩ (sim_ix hu (e_P 0 rfl (Or.inl rfl) nm_pot) (sim_cst (by kernel_rfl)) (fun _ _ => rfl))) (e_P 1 rfl (Or.inl rfl) nm_many)) rfl (Or.inl rfl))
  (sim_seq (sim_ixset hu rfl (Or.inl rfl) nm_pot.d nm_pot.c (sim_fdiv (sim_ix hu (e_P 0 rfl (Or.inl rfl) nm_pot) (sim_cst (by kernel_rfl)) (fun _ _ => rfl)) (e_P 1 rfl (Or.inl rfl) nm_many)) (sim_cst (by kernel_rfl)) rfl rfl rfl (fun _ => rfl))
  (sim_one (sim_ret (e_M 2 rfl (Or.inl rfl) nm_found))))) sim_pnil)
  (sim_seq (sim_ixset hu rfl (Or.inl rfl) nm_pot.d nm_pot.c (sim_mod (e_int ⟨by rfl, T.b_int⟩ (sim_add (sim_mul (sim_ix hu (e_P 0 rfl (Or.inl rfl) nm_pot) (sim_cst (by kernel_rfl)) (fun _ _ => rfl)) (sim_cst (by kernel_rfl))) (sim_cst (by kernel_rfl)))) (sim_cst (by kernel_rfl))) (sim_cst (by kernel_rfl)) rfl rfl rfl (fun _ => rfl))
  (sim_seq (sim_set sc__law_lot.nd rfl (Or.inl rfl) (sim_mod (e_int ⟨by rfl, T.b_int⟩ (sim_mul (sim_ix hu (e_P 0 rfl (Or.inl rfl) nm_pot) (sim_cst (by kernel_rfl)) (fun _ _ => rfl)) (sim_add (sim_ix hu (e_P 0 rfl (Or.inl rfl) nm_pot) (sim_cst (by kernel_rfl)) (fun _ _ => rfl)) (sim_cst (by kernel_rfl))))) (sim_cst (by kernel_rfl))) rfl (Or.inl rfl))
  (sim_one (sim_ret (sim_mod (e_int ⟨by rfl, T.b_int⟩ (sim_fdiv (e_P 3 rfl (Or.inl rfl) nm_deep) (sim_cst (by kernel_rfl)))) (e_P 1 rfl (Or.inl rfl) nm_many)))))))
theorem ok__law_pick (T : Txt K mg a) : FnOk P w K mg base (L2.CX P w) 2 a.a__law_pick a.fd__law_pick p__law_pick (FSp ⟨P, w, K, a.cl⟩ f__law_pick) := by
  refine fn_ok (k := 1) a.cl T.t__law_pick sc__law_pick rfl rfl (by decide) fun cdv A outer s H E hr => ?_
  have hu := hu_room hr
  exact (sim_one (sim_ret (sim_ix hu (e_P 1 rfl (Or.inl rfl) nm_things) (e_call (ok__law_lot T) (hr.mono (by decide)) T.g__law_lot T.k__law_lot T.d__law_lot nm__law_lot (a_c (e_P 0 rfl (Or.inl rfl) nm_pot) (a_c (e_len ⟨by rfl, T.b_len⟩ (e_P 1 rfl (Or.inl rfl) nm_things)) a_n)) (by rfl)) (fun _ _ => rfl))))
theorem ok__law_values (T : Txt K mg a) : FnOk P w K mg base (L2.CX P w) 1 a.a__law_values a.fd__law_values p__law_values (FSp ⟨P, w, K, a.cl⟩ f__law_values) := by
  refine fn_ok (k := 0) a.cl T.t__law_values sc__law_values rfl rfl (by decide) fun cdv A outer s H E hr => ?_
  have hu := hu_room hr
  exact (sim_seq (sim_set sc__law_values.nd rfl (Or.inl rfl) (sim_lst (a_c (sim_lst (sim_cstL (by kernel_rfl))) (a_c (sim_lst (sim_cstL (by kernel_rfl))) (a_c (sim_lst (sim_cstL (by kernel_rfl))) (a_c (sim_lst (sim_cstL (by kernel_rfl))) (a_c (sim_lst (sim_cstL (by kernel_rfl))) a_n)))))) rfl (Or.inl rfl))
  (sim_one (sim_ret (sim_add (e_P 0 rfl (Or.inl rfl) nm_found) (sim_lst (a_c (sim_lst (sim_cstL (by kernel_rfl))) (a_c (sim_lst (sim_cstL (by kernel_rfl))) a_n)))))))
theorem ok__law_rule (T : Txt K mg a) : FnOk P w K mg base (L2.CX P w) 3 a.a__law_rule a.fd__law_rule p__law_rule (FSp ⟨P, w, K, a.cl⟩ f__law_rule) := by
  refine fn_ok (k := 2) a.cl T.t__law_rule sc__law_rule rfl rfl (by decide) fun cdv A outer s H E hr => ?_
  have hu := hu_room hr
  exact (sim_one (sim_ret (e_tuple ⟨by rfl, T.b_tuple⟩ (sim_comp (own := [("some", 1)]) rfl sc__law_rule.nd (sim_items (e_call0 (ok__law_values T) (hr.mono (by decide)) T.g__law_values T.k__law_values T.d__law_values nm__law_values  (by rfl))) (blkOk_by (by kernel_rfl)) rfl (tg_one (fun _ _ _ _ _ => pg_name sc__law_rule.nd rfl (Or.inl rfl) (Or.inr rfl))) (fun _ _ _ _ _ => simTs_nil) (fun _ _ _ _ _ => (e_call (ok__law_pick T) (hr.mono (by decide)) T.g__law_pick T.k__law_pick T.d__law_pick nm__law_pick (a_c (e_P 0 rfl (Or.inr (Or.inl rfl)) nm_pot) (a_c (e_V 1 rfl (Or.inl rfl) nm_some) a_n)) (by rfl))) (fun _ => rfl)))))
theorem ok__law_words (T : Txt K mg a) : FnOk P w K mg base (L2.CX P w) 1 a.a__law_words a.fd__law_words p__law_words (FSp ⟨P, w, K, a.cl⟩ f__law_words) := by
  refine fn_ok (k := 0) a.cl T.t__law_words sc__law_words rfl rfl (by decide) fun cdv A outer s H E hr => ?_
  have hu := hu_room hr
  exact (sim_one (sim_ret (sim_lst (sim_cstL (by kernel_rfl)))))
theorem ok__law_events (T : Txt K mg a) : FnOk P w K mg base (L2.CX P w) 2 a.a__law_events a.fd__law_events p__law_events (FSp ⟨P, w, K, a.cl⟩ f__law_events) := by
  refine fn_ok (k := 1) a.cl T.t__law_events sc__law_events rfl rfl (by decide) fun cdv A outer s H E hr => ?_
  have hu := hu_room hr
  exact (sim_seq (sim_set sc__law_events.nd rfl (Or.inl rfl) (sim_add (sim_lst (sim_cstL (by kernel_rfl))) (sim_comp (own := [("who", 1)]) rfl sc__law_events.nd (sim_items (sim_cst (by kernel_rfl))) (blkOk_by (by kernel_rfl)) rfl (tg_one (fun _ _ _ _ _ => pg_name sc__law_events.nd rfl (Or.inl rfl) (Or.inr rfl))) (fun _ _ _ _ _ => simTs_nil) (fun _ _ _ _ _ => (sim_tup (a_c (sim_cst (by kernel_rfl)) (a_c (e_V 1 rfl (Or.inl rfl) nm_who) a_n)))) (fun _ => rfl))) rfl (Or.inl rfl))
  (sim_seq (sim_for (passes_of rfl) rfl (sim_items (sim_cst (by kernel_rfl))) (simG_one sc__law_events.nd rfl (Or.inr rfl) (Or.inl rfl)) (sim_seq (sim_set sc__law_events.nd rfl (Or.inl rfl) (sim_add (e_P 0 rfl (Or.inl rfl) nm_found) (sim_comp (own := [("word", 3)]) rfl sc__law_events.nd (sim_items (sim_cst (by kernel_rfl))) (blkOk_by (by kernel_rfl)) rfl (tg_one (fun _ _ _ _ _ => pg_name sc__law_events.nd rfl (Or.inl rfl) (Or.inr rfl))) (fun _ _ _ _ _ => simTs_nil) (fun _ _ _ _ _ => (sim_tup (a_c (e_V 3 rfl (Or.inl rfl) nm_word) (a_c (e_V 2 rfl (Or.inr (Or.inl rfl)) nm_parent) a_n)))) (fun _ => rfl))) rfl (Or.inl rfl))
  (sim_one (sim_set sc__law_events.nd rfl (Or.inl rfl) (sim_add (e_P 0 rfl (Or.inl rfl) nm_found) (sim_comp (own := [("word", 3)]) rfl sc__law_events.nd (sim_items (e_call0 (ok__law_words T) (hr.mono (by decide)) T.g__law_words T.k__law_words T.d__law_words nm__law_words  (by rfl))) (blkOk_by (by kernel_rfl)) rfl (tg_one (fun _ _ _ _ _ => pg_name sc__law_events.nd rfl (Or.inl rfl) (Or.inr rfl))) (fun _ _ _ _ _ => simTs_nil) (fun _ _ _ _ _ => (sim_tup (a_c (sim_cst (by kernel_rfl)) (a_c (e_V 2 rfl (Or.inr (Or.inl rfl)) nm_parent) (a_c (e_V 3 rfl (Or.inl rfl) nm_word) a_n))))) (fun _ => rfl))) rfl (Or.inl rfl)))) (fun _ => rfl))
  (sim_one (sim_ret (e_sorted rfl ⟨by rfl, T.b_sorted⟩ hu (e_P 0 rfl (Or.inl rfl) nm_found))))))
theorem ok__law_new (T : Txt K mg a) : FnOk P w K mg base (L2.CX P w) 1 a.a__law_new a.fd__law_new p__law_new (FSp ⟨P, w, K, a.cl⟩ f__law_new) := by
  refine fn_ok (k := 0) a.cl T.t__law_new sc__law_new rfl rfl (by decide) fun cdv A outer s H E hr => ?_
  have hu := hu_room hr
  exact (sim_one (sim_ret (sim_cst (by kernel_rfl))))
theorem ok__law_said (T : Txt K mg a) : FnOk P w K mg base (L2.CX P w) 1 a.a__law_said a.fd__law_said p__law_said (FSp ⟨P, w, K, a.cl⟩ f__law_said) := by
  refine fn_ok (k := 0) a.cl T.t__law_said sc__law_said rfl rfl (by decide) fun cdv A outer s H E hr => ?_
  have hu := hu_room hr
  exact (sim_seq (sim_set sc__law_said.nd rfl (Or.inl rfl) (sim_if ((sim_eq hu (sim_ix hu (e_P 0 rfl (Or.inl rfl) nm_rule) (sim_cst (by kernel_rfl)) (fun _ _ => rfl)) (sim_cst (by kernel_rfl)))).t (sim_lst (sim_cstL (by kernel_rfl))) (e_list rfl ⟨by rfl, T.b_list⟩ (e_P 1 rfl (Or.inl rfl) nm_words))) rfl (Or.inl rfl))
  (sim_seq (sim_ixset hu rfl (Or.inl rfl) nm_found.d nm_found.c (e_V 3 rfl (Or.inl rfl) nm_word) (e_V 2 rfl (Or.inl rfl) nm_parent) rfl rfl rfl (fun _ => rfl))
  (sim_one (sim_ret (e_tuple ⟨by rfl, T.b_tuple⟩ (e_P 4 rfl (Or.inl rfl) nm_found))))))
theorem ok__law_may (T : Txt K mg a) : FnOk P w K mg base (L2.CX P w) 2 a.a__law_may a.fd__law_may p__law_may (FSp ⟨P, w, K, a.cl⟩ f__law_may) := by
  refine fn_ok (k := 1) a.cl T.t__law_may sc__law_may rfl rfl (by decide) fun cdv A outer s H E hr => ?_
  have hu := hu_room hr
  exact (sim_seq (sim_ifS ((sim_lt (e_P 3 rfl (Or.inl rfl) nm_who) (sim_cst (by kernel_rfl)))).t (sim_one (sim_ret (sim_not (sim_ix hu (e_P 2 rfl (Or.inr (Or.inl rfl)) nm_barred) (e_P 3 rfl (Or.inl rfl) nm_who) (fun _ _ => rfl))))) sim_pnil)
  (sim_seq (sim_ifS (sim_tW (sim_tAndC ((sim_notN (e_P 4 rfl (Or.inl rfl) nm_signer))).t (sim_tAnd1 (sim_tV (sim_ix hu (e_P 0 rfl (Or.inr (Or.inl rfl)) nm_rule) (sim_cst (by kernel_rfl)) (fun _ _ => rfl)) (fun _ => rfl))))) (sim_one (sim_set sc__law_may.nd rfl (Or.inr rfl) (e_call (ok__law_said T) (hr.mono (by decide)) T.g__law_said T.k__law_said T.d__law_said nm__law_said (a_c (e_P 0 rfl (Or.inr (Or.inl rfl)) nm_rule) (a_c (e_P 1 rfl (Or.inr (Or.inl rfl)) nm_words) (a_c (e_P 4 rfl (Or.inl rfl) nm_signer) (a_c (sim_cst (by kernel_rfl)) a_n)))) (by rfl)) rfl (Or.inl rfl))) sim_pnil)
  (sim_seq (sim_setLc (own := [("parent", 6)]) rfl sc__law_may.nd rfl rfl (sw_true rfl rfl rfl (by decide +kernel)) (sim_items (sim_cst (by kernel_rfl))) (blkOk_by (by kernel_rfl)) rfl (tg_one (fun _ _ _ _ _ => pg_name sc__law_may.nd rfl (Or.inl rfl) (Or.inr rfl))) (fun _ _ _ _ _ => (simTs_one (sim_tNot (sim_tW (sim_tAndC (sim_tV (sim_ix hu (e_P 0 rfl (Or.inr (Or.inl rfl)) nm_rule) (sim_cst (by kernel_rfl)) (fun _ _ => rfl)) (fun _ => rfl)) (sim_tAnd1 (sim_tV (sim_ix hu (e_P 2 rfl (Or.inr (Or.inl rfl)) nm_barred) (e_P 6 rfl (Or.inl rfl) nm_parent) (fun _ _ => rfl)) (fun _ => rfl)))))))) (fun _ _ _ _ _ => (sim_ix hu (e_P 1 rfl (Or.inr (Or.inl rfl)) nm_words) (e_P 6 rfl (Or.inl rfl) nm_parent) (fun _ _ => rfl))) (fun _ => rfl))
  (sim_seq (sim_ifS (sim_tW (sim_tAndC ((sim_in hu rfl (sim_cst (by kernel_rfl)) (e_P 5 rfl (Or.inl rfl) nm_counted))).t (sim_tAnd1 ((sim_eq hu (sim_ix hu (e_P 0 rfl (Or.inr (Or.inl rfl)) nm_rule) (sim_cst (by kernel_rfl)) (fun _ _ => rfl)) (sim_cst (by kernel_rfl)))).t))) (sim_one (sim_ret (sim_cst (by kernel_rfl)))) sim_pnil)
  (sim_seq (sim_set sc__law_may.nd rfl (Or.inl rfl) (e_len ⟨by rfl, T.b_len⟩ (sim_comp (own := [("word", 8)]) rfl sc__law_may.nd (sim_items (e_V 5 rfl (Or.inl rfl) nm_counted)) (blkOk_by (by kernel_rfl)) rfl (tg_one (fun _ _ _ _ _ => pg_name sc__law_may.nd rfl (Or.inl rfl) (Or.inr rfl))) (fun _ _ _ _ _ => (simTs_one (sim_tW (sim_tOrC ((sim_eq hu (e_P 8 rfl (Or.inl rfl) nm_word) (sim_cst (by kernel_rfl)))).t (sim_tOr1 ((sim_eq hu (e_P 8 rfl (Or.inl rfl) nm_word) (sim_cst (by kernel_rfl)))).t))))) (fun _ _ _ _ _ => (e_V 8 rfl (Or.inl rfl) nm_word)) (fun _ => rfl))) rfl (Or.inl rfl))
  (sim_one (sim_ret (sim_if ((sim_eq hu (sim_ix hu (e_P 0 rfl (Or.inr (Or.inl rfl)) nm_rule) (sim_cst (by kernel_rfl)) (fun _ _ => rfl)) (sim_cst (by kernel_rfl)))).t ((sim_eq hu (e_P 7 rfl (Or.inl rfl) nm_good) (sim_cst (by kernel_rfl)))).e ((sim_gt (e_P 7 rfl (Or.inl rfl) nm_good) (sim_cst (by kernel_rfl)))).e))))))))
theorem ok__law_comes (T : Txt K mg a) : FnOk P w K mg base (L2.CX P w) 3 a.a__law_comes a.fd__law_comes p__law_comes (FSp ⟨P, w, K, a.cl⟩ f__law_comes) := by
  refine fn_ok (k := 2) a.cl T.t__law_comes sc__law_comes rfl rfl (by decide) fun cdv A outer s H E hr => ?_
  have hu := hu_room hr
  exact (sim_seq (sim_unp rfl rfl (pgs_one sc__law_comes.nd rfl (Or.inl rfl) (Or.inl rfl) (pgs_one sc__law_comes.nd rfl (Or.inl rfl) (Or.inl rfl) (pgs_one sc__law_comes.nd rfl (Or.inl rfl) (Or.inl rfl) (pgs_one sc__law_comes.nd rfl (Or.inl rfl) (Or.inl rfl) (pgs_one sc__law_comes.nd rfl (Or.inl rfl) (Or.inl rfl) pgs_nil rfl) rfl) rfl) rfl) rfl) rfl rfl (e_V 1 rfl (Or.inl rfl) nm_stand) rfl rfl rfl)
  (sim_seq (sim_ifS (sim_tNot (sim_tV (e_P 8 rfl (Or.inl rfl) nm_there) (fun _ => rfl))) (sim_one (sim_ret (sim_tup (a_c (e_V 1 rfl (Or.inl rfl) nm_stand) (a_c (sim_cst (by kernel_rfl)) a_n))))) sim_pnil)
  (sim_seq (sim_ifS (sim_tNot (sim_tV (e_call (ok__law_may T) (hr.mono (by decide)) T.g__law_may T.k__law_may T.d__law_may nm__law_may (a_c (e_P 0 rfl (Or.inl rfl) nm_rule) (a_c (e_V 6 rfl (Or.inl rfl) nm_listed) (a_c (e_V 7 rfl (Or.inl rfl) nm_known) (a_c (e_P 2 rfl (Or.inl rfl) nm_who) (a_c (e_P 3 rfl (Or.inl rfl) nm_signer) a_n))))) (by rfl)) (fun _ => rfl))) (sim_one (sim_ret (sim_tup (a_c (e_V 1 rfl (Or.inl rfl) nm_stand) (a_c (sim_cst (by kernel_rfl)) a_n))))) sim_pnil)
  (sim_seq (sim_ifS (sim_tW (sim_tAndC ((sim_eq hu (e_P 2 rfl (Or.inl rfl) nm_who) (sim_cst (by kernel_rfl)))).t (sim_tAnd1 ((sim_eq hu (sim_ix hu (e_P 0 rfl (Or.inl rfl) nm_rule) (sim_cst (by kernel_rfl)) (fun _ _ => rfl)) (sim_cst (by kernel_rfl)))).t))) (sim_seq (sim_set sc__law_comes.nd rfl (Or.inl rfl) (e_tuple ⟨by rfl, T.b_tuple⟩ (sim_comp (own := [("word", 9)]) rfl sc__law_comes.nd (sim_items (e_V 4 rfl (Or.inl rfl) nm_said)) (blkOk_by (by kernel_rfl)) rfl (tg_one (fun _ _ _ _ _ => pg_name sc__law_comes.nd rfl (Or.inl rfl) (Or.inr rfl))) (fun _ _ _ _ _ => simTs_nil) (fun _ _ _ _ _ => (sim_if ((sim_eq hu (e_P 9 rfl (Or.inl rfl) nm_word) (sim_cst (by kernel_rfl)))).t (sim_cst (by kernel_rfl)) (e_V 9 rfl (Or.inl rfl) nm_word))) (fun _ => rfl))) rfl (Or.inl rfl))
  (sim_one (sim_set sc__law_comes.nd rfl (Or.inl rfl) (e_tuple ⟨by rfl, T.b_tuple⟩ (sim_comp (own := [("word", 9)]) rfl sc__law_comes.nd (sim_items (e_V 6 rfl (Or.inl rfl) nm_listed)) (blkOk_by (by kernel_rfl)) rfl (tg_one (fun _ _ _ _ _ => pg_name sc__law_comes.nd rfl (Or.inl rfl) (Or.inr rfl))) (fun _ _ _ _ _ => simTs_nil) (fun _ _ _ _ _ => (sim_if ((sim_eq hu (e_P 9 rfl (Or.inl rfl) nm_word) (sim_cst (by kernel_rfl)))).t (sim_cst (by kernel_rfl)) (e_V 9 rfl (Or.inl rfl) nm_word))) (fun _ => rfl))) rfl (Or.inl rfl)))) sim_pnil)
  (sim_one (sim_ret (sim_tup (a_c (sim_tup (a_c (e_V 4 rfl (Or.inl rfl) nm_said) (a_c (e_V 5 rfl (Or.inl rfl) nm_barred) (a_c (e_V 6 rfl (Or.inl rfl) nm_listed) (a_c (e_V 7 rfl (Or.inl rfl) nm_known) (a_c (sim_cst (by kernel_rfl)) a_n)))))) (a_c (sim_cst (by kernel_rfl)) a_n)))))))))
theorem ok__law_on (T : Txt K mg a) : FnOk P w K mg base (L2.CX P w) 4 a.a__law_on a.fd__law_on p__law_on (FSp ⟨P, w, K, a.cl⟩ f__law_on) := by
  refine fn_ok (k := 3) a.cl T.t__law_on sc__law_on rfl rfl (by decide) fun cdv A outer s H E hr => ?_
  have hu := hu_room hr
  exact (sim_seq (sim_unp rfl rfl (pgs_one sc__law_on.nd rfl (Or.inr rfl) (Or.inl rfl) (pgs_one sc__law_on.nd rfl (Or.inl rfl) (Or.inl rfl) (pgs_one sc__law_on.nd rfl (Or.inr rfl) (Or.inl rfl) (pgs_one sc__law_on.nd rfl (Or.inl rfl) (Or.inl rfl) (pgs_one sc__law_on.nd rfl (Or.inl rfl) (Or.inl rfl) pgs_nil rfl) rfl) rfl) rfl) rfl) rfl rfl (e_V 1 rfl (Or.inl rfl) nm_stand) rfl rfl rfl)
  (sim_seq (sim_ifS ((sim_in hu rfl (sim_ix hu (e_P 2 rfl (Or.inl rfl) nm_event) (sim_cst (by kernel_rfl)) (fun _ _ => rfl)) (sim_cst (by kernel_rfl)))).t (sim_seq (sim_set sc__law_on.nd rfl (Or.inl rfl) (sim_if ((sim_eq hu (sim_ix hu (e_P 2 rfl (Or.inl rfl) nm_event) (sim_cst (by kernel_rfl)) (fun _ _ => rfl)) (sim_cst (by kernel_rfl)))).t (sim_ix hu (e_P 2 rfl (Or.inl rfl) nm_event) (sim_cst (by kernel_rfl)) (fun _ _ => rfl)) (sim_cst (by kernel_rfl))) rfl (Or.inl rfl))
  (sim_one (sim_ret (e_call (ok__law_comes T) (hr.mono (by decide)) T.g__law_comes T.k__law_comes T.d__law_comes nm__law_comes (a_c (e_P 0 rfl (Or.inl rfl) nm_rule) (a_c (e_P 1 rfl (Or.inl rfl) nm_stand) (a_c (sim_if ((sim_eq hu (sim_ix hu (e_P 2 rfl (Or.inl rfl) nm_event) (sim_cst (by kernel_rfl)) (fun _ _ => rfl)) (sim_cst (by kernel_rfl)))).t (sim_cst (by kernel_rfl)) (sim_ix hu (e_P 2 rfl (Or.inl rfl) nm_event) (sim_cst (by kernel_rfl)) (fun _ _ => rfl))) (a_c (e_V 8 rfl (Or.inl rfl) nm_signer) a_n)))) (by rfl))))) sim_pnil)
  (sim_seq (sim_ifS ((sim_eq hu (sim_ix hu (e_P 2 rfl (Or.inl rfl) nm_event) (sim_cst (by kernel_rfl)) (fun _ _ => rfl)) (sim_cst (by kernel_rfl)))).t (sim_seq (sim_ifS ((sim_eq hu (sim_ix hu (e_P 0 rfl (Or.inl rfl) nm_rule) (sim_cst (by kernel_rfl)) (fun _ _ => rfl)) (sim_cst (by kernel_rfl)))).t (sim_seq (sim_set sc__law_on.nd rfl (Or.inr rfl) (sim_comp (own := [("parent", 10)]) rfl sc__law_on.nd (sim_items (sim_cst (by kernel_rfl))) (blkOk_by (by kernel_rfl)) rfl (tg_one (fun _ _ _ _ _ => pg_name sc__law_on.nd rfl (Or.inl rfl) (Or.inr rfl))) (fun _ _ _ _ _ => simTs_nil) (fun _ _ _ _ _ => (sim_and ((sim_eq hu (sim_ix hu (e_P 3 rfl (Or.inr (Or.inl rfl)) nm_said) (e_P 10 rfl (Or.inl rfl) nm_parent) (fun _ _ => rfl)) (sim_cst (by kernel_rfl)))).e (sim_and1 ((sim_eq hu (sim_ix hu (e_P 5 rfl (Or.inr (Or.inl rfl)) nm_listed) (e_P 10 rfl (Or.inl rfl) nm_parent) (fun _ _ => rfl)) (sim_cst (by kernel_rfl)))).e))) (fun _ => rfl)) rfl (Or.inl rfl))
  (sim_one (sim_set sc__law_on.nd rfl (Or.inr rfl) (e_tuple ⟨by rfl, T.b_tuple⟩ (sim_comp (own := [("parent", 10)]) rfl sc__law_on.nd (sim_items (sim_cst (by kernel_rfl))) (blkOk_by (by kernel_rfl)) rfl (tg_one (fun _ _ _ _ _ => pg_name sc__law_on.nd rfl (Or.inl rfl) (Or.inr rfl))) (fun _ _ _ _ _ => simTs_nil) (fun _ _ _ _ _ => (sim_if (sim_tV (sim_ix hu (e_P 9 rfl (Or.inr (Or.inl rfl)) nm_ended) (e_P 10 rfl (Or.inl rfl) nm_parent) (fun _ _ => rfl)) (fun _ => rfl)) (sim_cst (by kernel_rfl)) (sim_ix hu (e_P 3 rfl (Or.inr (Or.inl rfl)) nm_said) (e_P 10 rfl (Or.inl rfl) nm_parent) (fun _ _ => rfl)))) (fun _ => rfl))) rfl (Or.inl rfl)))) sim_pnil)
  (sim_one (sim_ret (sim_tup (a_c (sim_tup (a_c (e_V 3 rfl (Or.inr (Or.inl rfl)) nm_said) (a_c (e_V 4 rfl (Or.inl rfl) nm_barred) (a_c (e_V 3 rfl (Or.inr (Or.inl rfl)) nm_said) (a_c (e_V 4 rfl (Or.inl rfl) nm_barred) (a_c (sim_cst (by kernel_rfl)) a_n)))))) (a_c (sim_cst (by kernel_rfl)) a_n)))))) sim_pnil)
  (sim_seq (sim_ifS ((sim_eq hu (sim_ix hu (e_P 2 rfl (Or.inl rfl) nm_event) (sim_cst (by kernel_rfl)) (fun _ _ => rfl)) (sim_cst (by kernel_rfl)))).t (sim_seq (sim_set sc__law_on.nd rfl (Or.inr rfl) (e_call (ok__law_said T) (hr.mono (by decide)) T.g__law_said T.k__law_said T.d__law_said nm__law_said (a_c (e_P 0 rfl (Or.inl rfl) nm_rule) (a_c (e_V 3 rfl (Or.inr (Or.inl rfl)) nm_said) (a_c (sim_ix hu (e_P 2 rfl (Or.inl rfl) nm_event) (sim_cst (by kernel_rfl)) (fun _ _ => rfl)) (a_c (sim_ix hu (e_P 2 rfl (Or.inl rfl) nm_event) (sim_cst (by kernel_rfl)) (fun _ _ => rfl)) a_n)))) (by rfl)) rfl (Or.inl rfl))
  (sim_one (sim_ret (sim_tup (a_c (sim_tup (a_c (e_V 3 rfl (Or.inr (Or.inl rfl)) nm_said) (a_c (e_V 4 rfl (Or.inl rfl) nm_barred) (a_c (sim_if ((sim_eq hu (sim_ix hu (e_P 0 rfl (Or.inl rfl) nm_rule) (sim_cst (by kernel_rfl)) (fun _ _ => rfl)) (sim_cst (by kernel_rfl)))).t (e_V 3 rfl (Or.inr (Or.inl rfl)) nm_said) (e_V 5 rfl (Or.inr (Or.inl rfl)) nm_listed)) (a_c (e_V 6 rfl (Or.inl rfl) nm_known) (a_c (e_V 7 rfl (Or.inl rfl) nm_there) a_n)))))) (a_c (sim_cst (by kernel_rfl)) a_n)))))) sim_pnil)
  (sim_seq (sim_set sc__law_on.nd rfl (Or.inl rfl) (e_list rfl ⟨by rfl, T.b_list⟩ (e_P 4 rfl (Or.inl rfl) nm_barred)) rfl (Or.inl rfl))
  (sim_seq (sim_ixset hu rfl (Or.inl rfl) nm_now.d nm_now.c ((sim_eq hu (sim_ix hu (e_P 2 rfl (Or.inl rfl) nm_event) (sim_cst (by kernel_rfl)) (fun _ _ => rfl)) (sim_cst (by kernel_rfl)))).e (sim_ix hu (e_P 2 rfl (Or.inl rfl) nm_event) (sim_cst (by kernel_rfl)) (fun _ _ => rfl)) rfl rfl rfl (fun _ => rfl))
  (sim_seq (sim_set sc__law_on.nd rfl (Or.inl rfl) (e_tuple ⟨by rfl, T.b_tuple⟩ (e_P 11 rfl (Or.inl rfl) nm_now)) rfl (Or.inl rfl))
  (sim_one (sim_ret (sim_tup (a_c (sim_tup (a_c (e_V 3 rfl (Or.inr (Or.inl rfl)) nm_said) (a_c (e_V 11 rfl (Or.inl rfl) nm_now) (a_c (e_V 5 rfl (Or.inr (Or.inl rfl)) nm_listed) (a_c (sim_if ((sim_eq hu (sim_ix hu (e_P 0 rfl (Or.inl rfl) nm_rule) (sim_cst (by kernel_rfl)) (fun _ _ => rfl)) (sim_cst (by kernel_rfl)))).t (e_V 11 rfl (Or.inl rfl) nm_now) (e_V 6 rfl (Or.inl rfl) nm_known)) (a_c (e_V 7 rfl (Or.inl rfl) nm_there) a_n)))))) (a_c (sim_cst (by kernel_rfl)) a_n))))))))))))
theorem ok__law_rights (T : Txt K mg a) : FnOk P w K mg base (L2.CX P w) 3 a.a__law_rights a.fd__law_rights p__law_rights (FSp ⟨P, w, K, a.cl⟩ f__law_rights) := by
  refine fn_ok (k := 2) a.cl T.t__law_rights sc__law_rights rfl rfl (by decide) fun cdv A outer s H E hr => ?_
  have hu := hu_room hr
  exact (sim_one (sim_ret (sim_comp (own := [("who", 3)]) rfl sc__law_rights.nd (sim_items (sim_cst (by kernel_rfl))) (blkOk_by (by kernel_rfl)) rfl (tg_one (fun _ _ _ _ _ => pg_name sc__law_rights.nd rfl (Or.inl rfl) (Or.inr rfl))) (fun _ _ _ _ _ => simTs_nil) (fun _ _ _ _ _ => (e_call (ok__law_may T) (hr.mono (by decide)) T.g__law_may T.k__law_may T.d__law_may nm__law_may (a_c (e_P 0 rfl (Or.inr (Or.inl rfl)) nm_rule) (a_c (sim_ix hu (e_P 1 rfl (Or.inr (Or.inl rfl)) nm_stand) (sim_cst (by kernel_rfl)) (fun _ _ => rfl)) (a_c (sim_ix hu (e_P 1 rfl (Or.inr (Or.inl rfl)) nm_stand) (sim_cst (by kernel_rfl)) (fun _ _ => rfl)) (a_c (e_V 3 rfl (Or.inl rfl) nm_who) (a_c (e_P 2 rfl (Or.inr (Or.inl rfl)) nm_signer) a_n))))) (by rfl))) (fun _ => rfl))))
theorem ok__law_harms (T : Txt K mg a) : FnOk P w K mg base (L2.CX P w) 4 a.a__law_harms a.fd__law_harms p__law_harms (FSp ⟨P, w, K, a.cl⟩ f__law_harms) := by
  refine fn_ok (k := 3) a.cl T.t__law_harms sc__law_harms rfl rfl (by decide) fun cdv A outer s H E hr => ?_
  have hu := hu_room hr
  exact (sim_seq (sim_ifS ((sim_nin hu rfl (sim_ix hu (e_P 2 rfl (Or.inl rfl) nm_event) (sim_cst (by kernel_rfl)) (fun _ _ => rfl)) (sim_cst (by kernel_rfl)))).t (sim_one (sim_ret (sim_lst (sim_cstL (by kernel_rfl))))) sim_pnil)
  (sim_seq (sim_set sc__law_harms.nd rfl (Or.inl rfl) (sim_if ((sim_eq hu (sim_ix hu (e_P 2 rfl (Or.inl rfl) nm_event) (sim_cst (by kernel_rfl)) (fun _ _ => rfl)) (sim_cst (by kernel_rfl)))).t (sim_ix hu (e_P 2 rfl (Or.inl rfl) nm_event) (sim_cst (by kernel_rfl)) (fun _ _ => rfl)) (sim_cst (by kernel_rfl))) rfl (Or.inl rfl))
  (sim_seq (sim_set sc__law_harms.nd rfl (Or.inl rfl) (e_call (ok__law_rights T) (hr.mono (by decide)) T.g__law_rights T.k__law_rights T.d__law_rights nm__law_rights (a_c (e_P 0 rfl (Or.inl rfl) nm_rule) (a_c (e_P 1 rfl (Or.inl rfl) nm_stand) (a_c (e_V 4 rfl (Or.inl rfl) nm_signer) a_n))) (by rfl)) rfl (Or.inl rfl))
  (sim_seq (sim_set sc__law_harms.nd rfl (Or.inl rfl) (sim_if ((sim_eq hu (sim_ix hu (e_P 2 rfl (Or.inl rfl) nm_event) (sim_cst (by kernel_rfl)) (fun _ _ => rfl)) (sim_cst (by kernel_rfl)))).t (sim_ix hu (e_P 5 rfl (Or.inl rfl) nm_rights) (sim_cst (by kernel_rfl)) (fun _ _ => rfl)) (sim_ix hu (e_P 5 rfl (Or.inl rfl) nm_rights) (sim_ix hu (e_P 2 rfl (Or.inl rfl) nm_event) (sim_cst (by kernel_rfl)) (fun _ _ => rfl)) (fun _ _ => rfl))) rfl (Or.inl rfl))
  (sim_seq (sim_set sc__law_harms.nd rfl (Or.inl rfl) (sim_add (sim_mul (sim_lst (sim_cstL (by kernel_rfl))) (e_int ⟨by rfl, T.b_int⟩ (sim_and (e_P 6 rfl (Or.inl rfl) nm_mine) (sim_and1 ((sim_eq hu (e_P 3 rfl (Or.inl rfl) nm_word) (sim_cst (by kernel_rfl)))).e)))) (sim_mul (sim_lst (sim_cstL (by kernel_rfl))) (e_int ⟨by rfl, T.b_int⟩ (sim_and (e_P 6 rfl (Or.inl rfl) nm_mine) (sim_and1 ((sim_eq hu (e_P 3 rfl (Or.inl rfl) nm_word) (sim_cst (by kernel_rfl)))).e))))) rfl (Or.inl rfl))
  (sim_seq (sim_set sc__law_harms.nd rfl (Or.inl rfl) (sim_add (e_P 7 rfl (Or.inl rfl) nm_found) (sim_mul (sim_lst (sim_cstL (by kernel_rfl))) (e_int ⟨by rfl, T.b_int⟩ (sim_and ((sim_nin hu rfl (sim_cst (by kernel_rfl)) (e_P 5 rfl (Or.inl rfl) nm_rights))).e (sim_and1 ((sim_eq hu (e_P 3 rfl (Or.inl rfl) nm_word) (sim_cst (by kernel_rfl)))).e))))) rfl (Or.inl rfl))
  (sim_one (sim_ret (sim_add (e_P 7 rfl (Or.inl rfl) nm_found) (sim_mul (sim_lst (sim_cstL (by kernel_rfl))) (e_int ⟨by rfl, T.b_int⟩ (sim_and (sim_not (e_P 6 rfl (Or.inl rfl) nm_mine)) (sim_and1 ((sim_eq hu (e_P 3 rfl (Or.inl rfl) nm_word) (sim_cst (by kernel_rfl)))).e)))))))))))))
theorem ok__law_graph (T : Txt K mg a) : FnOk P w K mg base (L2.CX P w) 5 a.a__law_graph a.fd__law_graph p__law_graph (FSp ⟨P, w, K, a.cl⟩ f__law_graph) := by
  refine fn_ok (k := 4) a.cl T.t__law_graph sc__law_graph rfl rfl (by decide) fun cdv A outer s H E hr => ?_
  have hu := hu_room hr
  exact (sim_seq (sim_set sc__law_graph.nd rfl (Or.inl rfl) (e_call0 (ok__law_new T) (hr.mono (by decide)) T.g__law_new T.k__law_new T.d__law_new nm__law_new  (by rfl)) rfl (Or.inl rfl))
  (sim_seq (sim_parT rfl rfl (by decide) (pgs_one sc__law_graph.nd rfl (Or.inl rfl) (Or.inl rfl) (pgs_one sc__law_graph.nd rfl (Or.inl rfl) (Or.inl rfl) (pgs_one sc__law_graph.nd rfl (Or.inl rfl) (Or.inl rfl) (pgs_one sc__law_graph.nd rfl (Or.inl rfl) (Or.inl rfl) pgs_nil rfl) rfl) rfl) rfl) rfl rfl (a_c (sim_dic1 hu (e_V 2 rfl (Or.inl rfl) nm_first) (sim_cst (by kernel_rfl))) (a_c (sim_lst (a_c (e_V 2 rfl (Or.inl rfl) nm_first) a_n)) (a_c (sim_cst (by kernel_rfl)) (a_c sim_dic0 a_n)))) rfl rfl rfl)
  (sim_seq (sim_while (passes_of rfl) ((sim_lt (e_P 5 rfl (Or.inl rfl) nm_at) (e_len ⟨by rfl, T.b_len⟩ (e_P 4 rfl (Or.inl rfl) nm_line)))).t (sim_seq (sim_par rfl sc__law_graph.nd rfl rfl (by decide) rfl rfl (a_c (sim_ix hu (e_P 4 rfl (Or.inl rfl) nm_line) (e_P 5 rfl (Or.inl rfl) nm_at) (fun _ _ => rfl)) (a_c (sim_add (sim_ix hu (e_P 3 rfl (Or.inl rfl) nm_found) (sim_ix hu (e_P 4 rfl (Or.inl rfl) nm_line) (e_P 5 rfl (Or.inl rfl) nm_at) (fun _ _ => rfl)) (fun _ _ => rfl)) (sim_cst (by kernel_rfl))) a_n)) rfl rfl)
  (sim_seq (sim_for (passes_of rfl) rfl (sim_items (e_V 1 rfl (Or.inl rfl) nm_events)) (simG_one sc__law_graph.nd rfl (Or.inl rfl) (Or.inl rfl)) (sim_seq (sim_unp rfl rfl (pgs_one sc__law_graph.nd rfl (Or.inl rfl) (Or.inl rfl) (pgs_one sc__law_graph.nd rfl (Or.inl rfl) (Or.inl rfl) pgs_nil rfl) rfl) rfl rfl (e_call (ok__law_on T) (hr.mono (by decide)) T.g__law_on T.k__law_on T.d__law_on nm__law_on (a_c (e_P 0 rfl (Or.inl rfl) nm_rule) (a_c (e_V 8 rfl (Or.inl rfl) nm_stand) (a_c (e_V 7 rfl (Or.inl rfl) nm_event) a_n))) (by rfl)) rfl rfl rfl)
  (sim_seq (sim_for (passes_of rfl) rfl (sim_items (e_call (ok__law_harms T) (hr.mono (by decide)) T.g__law_harms T.k__law_harms T.d__law_harms nm__law_harms (a_c (e_P 0 rfl (Or.inl rfl) nm_rule) (a_c (e_V 8 rfl (Or.inl rfl) nm_stand) (a_c (e_V 7 rfl (Or.inl rfl) nm_event) (a_c (e_V 12 rfl (Or.inl rfl) nm_word) a_n)))) (by rfl))) (simG_one sc__law_graph.nd rfl (Or.inl rfl) (Or.inl rfl)) (sim_one (sim_ixset hu rfl (Or.inl rfl) nm_sizes.d nm_sizes.c (e_min2 rfl ⟨by rfl, T.b_min⟩ (e_V 9 rfl (Or.inl rfl) nm_many) (e_get2 (i := 6) rfl (Or.inl rfl) nm_sizes hu (e_V 10 rfl (Or.inl rfl) nm_harm) (e_V 9 rfl (Or.inl rfl) nm_many) ⟨rfl, rfl, rfl, rfl⟩)) (e_V 10 rfl (Or.inl rfl) nm_harm) rfl rfl rfl (fun _ => rfl))) (fun _ => rfl))
  (sim_one (sim_ifS ((sim_nin hu rfl (e_P 11 rfl (Or.inl rfl) nm_there) (e_P 3 rfl (Or.inl rfl) nm_found))).t (sim_seq (sim_ixset hu rfl (Or.inl rfl) nm_found.d nm_found.c (e_V 9 rfl (Or.inl rfl) nm_many) (e_V 11 rfl (Or.inl rfl) nm_there) rfl rfl rfl (fun _ => rfl))
  (sim_one (sim_drop (sim_app rfl (Or.inl rfl) nm_line.d nm_line.c (e_V 11 rfl (Or.inl rfl) nm_there) rfl rfl rfl rfl rfl) rfl))) sim_pnil)))) (fun _ => rfl))
  (sim_one (sim_set sc__law_graph.nd rfl (Or.inl rfl) (sim_add (e_P 5 rfl (Or.inl rfl) nm_at) (sim_cst (by kernel_rfl))) rfl (Or.inl rfl))))))
  (sim_one (sim_ret (sim_tp (a_c (e_M 3 rfl (Or.inl rfl) nm_found) (a_c (e_M 6 rfl (Or.inl rfl) nm_sizes) a_n))))))))
theorem ok__law_own (T : Txt K mg a) : FnOk P w K mg base (L2.CX P w) 3 a.a__law_own a.fd__law_own p__law_own (FSp ⟨P, w, K, a.cl⟩ f__law_own) := by
  refine fn_ok (k := 2) a.cl T.t__law_own sc__law_own rfl rfl (by decide) fun cdv A outer s H E hr => ?_
  have hu := hu_room hr
  exact (sim_seq (sim_set sc__law_own.nd rfl (Or.inl rfl) (sim_lst (sim_cstL (by kernel_rfl))) rfl (Or.inl rfl))
  (sim_seq (sim_for (passes_of rfl) rfl (sim_items (e_call0 (ok__law_events T) (hr.mono (by decide)) T.g__law_events T.k__law_events T.d__law_events nm__law_events  (by rfl))) (simG_one sc__law_own.nd rfl (Or.inl rfl) (Or.inl rfl)) (sim_one (sim_ifS (sim_tW (sim_tOrC ((sim_in hu rfl (sim_ix hu (e_P 2 rfl (Or.inl rfl) nm_event) (sim_cst (by kernel_rfl)) (fun _ _ => rfl)) (sim_cst (by kernel_rfl)))).t (sim_tOr1 (sim_tW (sim_tAndC ((sim_in hu rfl (sim_ix hu (e_P 2 rfl (Or.inl rfl) nm_event) (sim_cst (by kernel_rfl)) (fun _ _ => rfl)) (sim_cst (by kernel_rfl)))).t (sim_tAnd1 ((sim_eq hu (sim_ix hu (e_P 2 rfl (Or.inl rfl) nm_event) (sim_cst (by kernel_rfl)) (fun _ _ => rfl)) (e_P 0 rfl (Or.inl rfl) nm_parent))).t)))))) (sim_one (sim_drop (sim_app rfl (Or.inl rfl) nm_found.d nm_found.c (e_V 2 rfl (Or.inl rfl) nm_event) rfl rfl rfl rfl rfl) rfl)) sim_pnil)) (fun _ => rfl))
  (sim_one (sim_ret (e_M 1 rfl (Or.inl rfl) nm_found)))))
theorem ok_law (T : Txt K mg a) : FnOk P w K mg base (L2.CX P w) 9 a.a_law a.fd_law p_law (FSp ⟨P, w, K, a.cl⟩ f_law) := by
  refine fn_ok (k := 8) a.cl T.t_law sc_law rfl rfl (by decide) fun cdv A outer s H E hr => ?_
  have hu := hu_room hr
  exact (sim_seq (sim_for (passes_of rfl) rfl (sim_items (sim_sl (sim_add (sim_lst (sim_cstL (by kernel_rfl))) (e_P 0 rfl (Or.inl rfl) nm_script)) .none (.some (sim_cst (by kernel_rfl))))) (simG_one sc_law.nd rfl (Or.inl rfl) (Or.inl rfl)) (sim_seq (sim_set sc_law.nd rfl (Or.inl rfl) (e_call (ok__law_pot T) (hr.mono (by decide)) T.g__law_pot T.k__law_pot T.d__law_pot nm__law_pot (a_c (e_V 1 rfl (Or.inl rfl) nm_cell) (a_c (sim_cst (by kernel_rfl)) a_n)) (by rfl)) rfl (Or.inl rfl))
  (sim_seq (sim_set sc_law.nd rfl (Or.inr rfl) (e_call (ok__law_rule T) (hr.mono (by decide)) T.g__law_rule T.k__law_rule T.d__law_rule nm__law_rule (a_c (e_P 2 rfl (Or.inl rfl) nm_pot) a_n) (by rfl)) rfl (Or.inl rfl))
  (sim_seq (sim_set sc_law.nd rfl (Or.inr rfl) (sim_comp (own := [("parent", 7)]) rfl sc_law.nd (sim_items (sim_cst (by kernel_rfl))) (blkOk_by (by kernel_rfl)) rfl (tg_one (fun _ _ _ _ _ => pg_name sc_law.nd rfl (Or.inl rfl) (Or.inr rfl))) (fun _ _ _ _ _ => simTs_nil) (fun _ _ _ _ _ => (sim_ix hu (e_call (ok__law_graph T) (hr.mono (by decide)) T.g__law_graph T.k__law_graph T.d__law_graph nm__law_graph (a_c (e_V 3 rfl (Or.inr (Or.inl rfl)) nm_rule) (a_c (e_call (ok__law_own T) (hr.mono (by decide)) T.g__law_own T.k__law_own T.d__law_own nm__law_own (a_c (e_V 7 rfl (Or.inl rfl) nm_parent) a_n) (by rfl)) a_n)) (by rfl)) (sim_cst (by kernel_rfl)) (fun _ _ => rfl))) (fun _ => rfl)) rfl (Or.inl rfl))
  (sim_one (sim_for (passes_of rfl) rfl (sim_items (sim_cst (by kernel_rfl))) (simG_one sc_law.nd rfl (Or.inr rfl) (Or.inl rfl)) (sim_seq (sim_set sc_law.nd rfl (Or.inl rfl) (e_call (ok_alone T) (hr.mono (by decide)) T.g_alone T.k_alone T.d_alone nm_alone (a_c (e_V 3 rfl (Or.inr (Or.inl rfl)) nm_rule) (a_c (e_V 5 rfl (Or.inr (Or.inl rfl)) nm_harm) a_n)) (by rfl)) rfl (Or.inl rfl))
  (sim_one (sim_ifS (sim_tW (sim_tOrC ((sim_ne hu (e_P 6 rfl (Or.inl rfl) nm_found) (sim_comp (own := [("parent", 7)]) rfl sc_law.nd (sim_items (sim_cst (by kernel_rfl))) (blkOk_by (by kernel_rfl)) rfl (tg_one (fun _ _ _ _ _ => pg_name sc_law.nd rfl (Or.inl rfl) (Or.inr rfl))) (fun _ _ _ _ _ => (simTs_one ((sim_in hu rfl (e_P 5 rfl (Or.inr (Or.inl rfl)) nm_harm) (sim_ix hu (e_P 4 rfl (Or.inr (Or.inl rfl)) nm_sizes) (e_P 7 rfl (Or.inl rfl) nm_parent) (fun _ _ => rfl)))).t)) (fun _ _ _ _ _ => (e_V 7 rfl (Or.inl rfl) nm_parent)) (fun _ => rfl)))).t (sim_tOr1 (sim_tNot (sim_tV (e_isLst ⟨by rfl, T.b_isinstance⟩ ⟨by rfl, T.b_list⟩ (e_P 6 rfl (Or.inl rfl) nm_found)) (fun _ => rfl)))))) (sim_one (sim_ret (sim_cst (by kernel_rfl)))) sim_pnil))) (fun _ => rfl)))))) (fun _ => rfl))
  (sim_seq (sim_set sc_law.nd rfl (Or.inr rfl) (sim_cst (by kernel_rfl)) rfl (Or.inl rfl))
  (sim_seq (sim_ifS (sim_tW (sim_tOrC ((sim_ne hu (e_call (ok_alone T) (hr.mono (by decide)) T.g_alone T.k_alone T.d_alone nm_alone (a_c (e_V 3 rfl (Or.inr (Or.inl rfl)) nm_rule) (a_c (sim_cst (by kernel_rfl)) a_n)) (by rfl)) (sim_lst (sim_cstL (by kernel_rfl))))).t (sim_tOrC ((sim_ne hu (e_call (ok_alone T) (hr.mono (by decide)) T.g_alone T.k_alone T.d_alone nm_alone (a_c (e_V 3 rfl (Or.inr (Or.inl rfl)) nm_rule) (a_c (sim_cst (by kernel_rfl)) a_n)) (by rfl)) (sim_lst (sim_cstL (by kernel_rfl))))).t (sim_tOr1 ((sim_ne hu (e_call (ok_alone T) (hr.mono (by decide)) T.g_alone T.k_alone T.d_alone nm_alone (a_c (e_V 3 rfl (Or.inr (Or.inl rfl)) nm_rule) (a_c (sim_cst (by kernel_rfl)) a_n)) (by rfl)) (sim_lst (sim_cstL (by kernel_rfl))))).t)))) (sim_one (sim_ret (sim_cst (by kernel_rfl)))) sim_pnil)
  (sim_one (sim_ret ((sim_eq hu (e_call (ok_alone T) (hr.mono (by decide)) T.g_alone T.k_alone T.d_alone nm_alone (a_c (sim_add (sim_cst (by kernel_rfl)) (sim_sl (e_P 3 rfl (Or.inr (Or.inl rfl)) nm_rule) (.some (sim_cst (by kernel_rfl))) .none)) (a_c (sim_cst (by kernel_rfl)) a_n)) (by rfl)) (sim_lst (sim_cstL (by kernel_rfl))))).e)))))
theorem nm_EVENTS : Nm "EVENTS" := nm_of (by decide +kernel)
theorem nm_HARMS : Nm "HARMS" := nm_of (by decide +kernel)
theorem nm_OTHER : Nm "OTHER" := nm_of (by decide +kernel)
theorem nm_PART_NAMES : Nm "PART_NAMES" := nm_of (by decide +kernel)
theorem nm_VALUES : Nm "VALUES" := nm_of (by decide +kernel)
theorem all_mk {l : PySem.W.OpenLaw} {w : World} {K : PySem.W.Frag} {h : Heap} {mg : Str → Option Value} {fa x_is_same x_is_rule x_need_rule x_need_harm x_begin x_put_at x_worded x_spoken x_may x_used_up x_come x_morning x_step x_truly_may x_harms_of x_events_of x_search x_way_to x_alone x__law_pot x__law_lot x__law_pick x__law_values x__law_rule x__law_words x__law_events x__law_new x__law_said x__law_may x__law_comes x__law_on x__law_rights x__law_harms x__law_graph x__law_own x_law x_FetchError x_InvalidRule x_InvalidHarm y_EVENTS y_EVENTS_0 y_EVENTS_1 y_EVENTS_2 y_EVENTS_3 y_EVENTS_4 y_EVENTS_5 y_EVENTS_6 y_EVENTS_7 y_EVENTS_8 y_EVENTS_9 y_EVENTS_10 y_EVENTS_11 y_EVENTS_12 y_EVENTS_13 y_EVENTS_14 y_EVENTS_15 y_EVENTS_16 y_EVENTS_17 y_HARMS y_PART_NAMES y_VALUES y_VALUES_0 y_VALUES_1 y_VALUES_2 y_VALUES_3 y_VALUES_4 y_VALUES_5 y_VALUES_6 : Addr} (hk : Keeps f_law) (X : K.In h) (G : h.Ns mainGlobals mg) (hfa : mg "law" = some (.ref fa))
    {od_is_same an_is_same : Option Addr} {sl_is_same : Array (Option Value)} {oc_is_same kV_is_same dc_is_same pm_is_same cd_is_same ct_is_same : Value}
    {od_is_rule an_is_rule : Option Addr} {sl_is_rule : Array (Option Value)} {oc_is_rule kV_is_rule dc_is_rule pm_is_rule cd_is_rule ct_is_rule : Value}
    {od_need_rule an_need_rule : Option Addr} {sl_need_rule : Array (Option Value)} {oc_need_rule kV_need_rule dc_need_rule pm_need_rule cd_need_rule ct_need_rule : Value}
    {od_need_harm an_need_harm : Option Addr} {sl_need_harm : Array (Option Value)} {oc_need_harm kV_need_harm dc_need_harm pm_need_harm cd_need_harm ct_need_harm : Value}
    {od_begin an_begin : Option Addr} {sl_begin : Array (Option Value)} {oc_begin kV_begin dc_begin pm_begin cd_begin ct_begin : Value}
    {od_put_at an_put_at : Option Addr} {sl_put_at : Array (Option Value)} {oc_put_at kV_put_at dc_put_at pm_put_at cd_put_at ct_put_at : Value}
    {od_worded an_worded : Option Addr} {sl_worded : Array (Option Value)} {oc_worded kV_worded dc_worded pm_worded cd_worded ct_worded : Value}
    {od_spoken an_spoken : Option Addr} {sl_spoken : Array (Option Value)} {oc_spoken kV_spoken dc_spoken pm_spoken cd_spoken ct_spoken : Value}
    {od_may an_may : Option Addr} {sl_may : Array (Option Value)} {oc_may kV_may dc_may pm_may cd_may ct_may : Value}
    {od_used_up an_used_up : Option Addr} {sl_used_up : Array (Option Value)} {oc_used_up kV_used_up dc_used_up pm_used_up cd_used_up ct_used_up : Value}
    {od_come an_come : Option Addr} {sl_come : Array (Option Value)} {oc_come kV_come dc_come pm_come cd_come ct_come : Value}
    {od_morning an_morning : Option Addr} {sl_morning : Array (Option Value)} {oc_morning kV_morning dc_morning pm_morning cd_morning ct_morning : Value}
    {od_step an_step : Option Addr} {sl_step : Array (Option Value)} {oc_step kV_step dc_step pm_step cd_step ct_step : Value}
    {od_truly_may an_truly_may : Option Addr} {sl_truly_may : Array (Option Value)} {oc_truly_may kV_truly_may dc_truly_may pm_truly_may cd_truly_may ct_truly_may : Value}
    {od_harms_of an_harms_of : Option Addr} {sl_harms_of : Array (Option Value)} {oc_harms_of kV_harms_of dc_harms_of pm_harms_of cd_harms_of ct_harms_of : Value}
    {od_events_of an_events_of : Option Addr} {sl_events_of : Array (Option Value)} {oc_events_of kV_events_of dc_events_of pm_events_of cd_events_of ct_events_of : Value}
    {od_search an_search : Option Addr} {sl_search : Array (Option Value)} {oc_search kV_search dc_search pm_search cd_search ct_search : Value}
    {od_way_to an_way_to : Option Addr} {sl_way_to : Array (Option Value)} {oc_way_to kV_way_to dc_way_to pm_way_to cd_way_to ct_way_to : Value}
    {od_alone an_alone : Option Addr} {sl_alone : Array (Option Value)} {oc_alone kV_alone dc_alone pm_alone cd_alone ct_alone : Value}
    {od__law_pot an__law_pot : Option Addr} {sl__law_pot : Array (Option Value)} {oc__law_pot kV__law_pot dc__law_pot pm__law_pot cd__law_pot ct__law_pot : Value}
    {od__law_lot an__law_lot : Option Addr} {sl__law_lot : Array (Option Value)} {oc__law_lot kV__law_lot dc__law_lot pm__law_lot cd__law_lot ct__law_lot : Value}
    {od__law_pick an__law_pick : Option Addr} {sl__law_pick : Array (Option Value)} {oc__law_pick kV__law_pick dc__law_pick pm__law_pick cd__law_pick ct__law_pick : Value}
    {od__law_values an__law_values : Option Addr} {sl__law_values : Array (Option Value)} {oc__law_values kV__law_values dc__law_values pm__law_values cd__law_values ct__law_values : Value}
    {od__law_rule an__law_rule : Option Addr} {sl__law_rule : Array (Option Value)} {oc__law_rule kV__law_rule dc__law_rule pm__law_rule cd__law_rule ct__law_rule : Value}
    {od__law_words an__law_words : Option Addr} {sl__law_words : Array (Option Value)} {oc__law_words kV__law_words dc__law_words pm__law_words cd__law_words ct__law_words : Value}
    {od__law_events an__law_events : Option Addr} {sl__law_events : Array (Option Value)} {oc__law_events kV__law_events dc__law_events pm__law_events cd__law_events ct__law_events : Value}
    {od__law_new an__law_new : Option Addr} {sl__law_new : Array (Option Value)} {oc__law_new kV__law_new dc__law_new pm__law_new cd__law_new ct__law_new : Value}
    {od__law_said an__law_said : Option Addr} {sl__law_said : Array (Option Value)} {oc__law_said kV__law_said dc__law_said pm__law_said cd__law_said ct__law_said : Value}
    {od__law_may an__law_may : Option Addr} {sl__law_may : Array (Option Value)} {oc__law_may kV__law_may dc__law_may pm__law_may cd__law_may ct__law_may : Value}
    {od__law_comes an__law_comes : Option Addr} {sl__law_comes : Array (Option Value)} {oc__law_comes kV__law_comes dc__law_comes pm__law_comes cd__law_comes ct__law_comes : Value}
    {od__law_on an__law_on : Option Addr} {sl__law_on : Array (Option Value)} {oc__law_on kV__law_on dc__law_on pm__law_on cd__law_on ct__law_on : Value}
    {od__law_rights an__law_rights : Option Addr} {sl__law_rights : Array (Option Value)} {oc__law_rights kV__law_rights dc__law_rights pm__law_rights cd__law_rights ct__law_rights : Value}
    {od__law_harms an__law_harms : Option Addr} {sl__law_harms : Array (Option Value)} {oc__law_harms kV__law_harms dc__law_harms pm__law_harms cd__law_harms ct__law_harms : Value}
    {od__law_graph an__law_graph : Option Addr} {sl__law_graph : Array (Option Value)} {oc__law_graph kV__law_graph dc__law_graph pm__law_graph cd__law_graph ct__law_graph : Value}
    {od__law_own an__law_own : Option Addr} {sl__law_own : Array (Option Value)} {oc__law_own kV__law_own dc__law_own pm__law_own cd__law_own ct__law_own : Value}
    {od_law an_law : Option Addr} {sl_law : Array (Option Value)} {oc_law kV_law dc_law pm_law cd_law ct_law : Value}
    {od_EVENTS : Option Addr} {n_EVENTS_ : Nat} {sl_EVENTS : Array (Option Value)}
    {od_EVENTS_0 : Option Addr} {n_EVENTS_0_ : Nat} {sl_EVENTS_0 : Array (Option Value)}
    {tk_EVENTS_0_0 : Tok}
    {tk_EVENTS_0_1 : Tok}
    {od_EVENTS_1 : Option Addr} {n_EVENTS_1_ : Nat} {sl_EVENTS_1 : Array (Option Value)}
    {tk_EVENTS_1_0 : Tok}
    {tk_EVENTS_1_1 : Tok}
    {od_EVENTS_2 : Option Addr} {n_EVENTS_2_ : Nat} {sl_EVENTS_2 : Array (Option Value)}
    {tk_EVENTS_2_0 : Tok}
    {tk_EVENTS_2_1 : Tok}
    {od_EVENTS_3 : Option Addr} {n_EVENTS_3_ : Nat} {sl_EVENTS_3 : Array (Option Value)}
    {tk_EVENTS_3_0 : Tok}
    {tk_EVENTS_3_1 : Tok}
    {od_EVENTS_4 : Option Addr} {n_EVENTS_4_ : Nat} {sl_EVENTS_4 : Array (Option Value)}
    {tk_EVENTS_4_0 : Tok}
    {tk_EVENTS_4_1 : Tok}
    {od_EVENTS_5 : Option Addr} {n_EVENTS_5_ : Nat} {sl_EVENTS_5 : Array (Option Value)}
    {tk_EVENTS_5_0 : Tok}
    {tk_EVENTS_5_1 : Tok}
    {od_EVENTS_6 : Option Addr} {n_EVENTS_6_ : Nat} {sl_EVENTS_6 : Array (Option Value)}
    {tk_EVENTS_6_0 : Tok}
    {tk_EVENTS_6_1 : Tok}
    {od_EVENTS_7 : Option Addr} {n_EVENTS_7_ : Nat} {sl_EVENTS_7 : Array (Option Value)}
    {tk_EVENTS_7_0 : Tok}
    {od_EVENTS_8 : Option Addr} {n_EVENTS_8_ : Nat} {sl_EVENTS_8 : Array (Option Value)}
    {tk_EVENTS_8_0 : Tok}
    {tk_EVENTS_8_1 : Tok}
    {od_EVENTS_9 : Option Addr} {n_EVENTS_9_ : Nat} {sl_EVENTS_9 : Array (Option Value)}
    {tk_EVENTS_9_0 : Tok}
    {tk_EVENTS_9_1 : Tok}
    {od_EVENTS_10 : Option Addr} {n_EVENTS_10_ : Nat} {sl_EVENTS_10 : Array (Option Value)}
    {tk_EVENTS_10_0 : Tok}
    {tk_EVENTS_10_1 : Tok}
    {tk_EVENTS_10_2 : Tok}
    {od_EVENTS_11 : Option Addr} {n_EVENTS_11_ : Nat} {sl_EVENTS_11 : Array (Option Value)}
    {tk_EVENTS_11_0 : Tok}
    {tk_EVENTS_11_1 : Tok}
    {tk_EVENTS_11_2 : Tok}
    {od_EVENTS_12 : Option Addr} {n_EVENTS_12_ : Nat} {sl_EVENTS_12 : Array (Option Value)}
    {tk_EVENTS_12_0 : Tok}
    {tk_EVENTS_12_1 : Tok}
    {tk_EVENTS_12_2 : Tok}
    {od_EVENTS_13 : Option Addr} {n_EVENTS_13_ : Nat} {sl_EVENTS_13 : Array (Option Value)}
    {tk_EVENTS_13_0 : Tok}
    {tk_EVENTS_13_1 : Tok}
    {tk_EVENTS_13_2 : Tok}
    {od_EVENTS_14 : Option Addr} {n_EVENTS_14_ : Nat} {sl_EVENTS_14 : Array (Option Value)}
    {tk_EVENTS_14_0 : Tok}
    {tk_EVENTS_14_1 : Tok}
    {tk_EVENTS_14_2 : Tok}
    {od_EVENTS_15 : Option Addr} {n_EVENTS_15_ : Nat} {sl_EVENTS_15 : Array (Option Value)}
    {tk_EVENTS_15_0 : Tok}
    {tk_EVENTS_15_1 : Tok}
    {tk_EVENTS_15_2 : Tok}
    {od_EVENTS_16 : Option Addr} {n_EVENTS_16_ : Nat} {sl_EVENTS_16 : Array (Option Value)}
    {tk_EVENTS_16_0 : Tok}
    {tk_EVENTS_16_1 : Tok}
    {tk_EVENTS_16_2 : Tok}
    {od_EVENTS_17 : Option Addr} {n_EVENTS_17_ : Nat} {sl_EVENTS_17 : Array (Option Value)}
    {tk_EVENTS_17_0 : Tok}
    {tk_EVENTS_17_1 : Tok}
    {tk_EVENTS_17_2 : Tok}
    {od_HARMS : Option Addr} {n_HARMS_ : Nat} {sl_HARMS : Array (Option Value)}
    {tk_HARMS_0 : Tok}
    {tk_HARMS_1 : Tok}
    {tk_HARMS_2 : Tok}
    {tk_HARMS_3 : Tok}
    {tk_OTHER : Tok}
    {od_PART_NAMES : Option Addr} {n_PART_NAMES_ : Nat} {sl_PART_NAMES : Array (Option Value)}
    {tk_PART_NAMES_0 : Tok}
    {tk_PART_NAMES_1 : Tok}
    {tk_PART_NAMES_2 : Tok}
    {tk_PART_NAMES_3 : Tok}
    {tk_PART_NAMES_4 : Tok}
    {tk_PART_NAMES_5 : Tok}
    {tk_PART_NAMES_6 : Tok}
    {od_VALUES : Option Addr} {n_VALUES_ : Nat} {sl_VALUES : Array (Option Value)}
    {od_VALUES_0 : Option Addr} {n_VALUES_0_ : Nat} {sl_VALUES_0 : Array (Option Value)}
    {tk_VALUES_0_0 : Tok}
    {tk_VALUES_0_1 : Tok}
    {tk_VALUES_0_2 : Tok}
    {od_VALUES_1 : Option Addr} {n_VALUES_1_ : Nat} {sl_VALUES_1 : Array (Option Value)}
    {tk_VALUES_1_0 : Tok}
    {tk_VALUES_1_1 : Tok}
    {od_VALUES_2 : Option Addr} {n_VALUES_2_ : Nat} {sl_VALUES_2 : Array (Option Value)}
    {tk_VALUES_2_0 : Tok}
    {tk_VALUES_2_1 : Tok}
    {od_VALUES_3 : Option Addr} {n_VALUES_3_ : Nat} {sl_VALUES_3 : Array (Option Value)}
    {tk_VALUES_3_0 : Tok}
    {tk_VALUES_3_1 : Tok}
    {od_VALUES_4 : Option Addr} {n_VALUES_4_ : Nat} {sl_VALUES_4 : Array (Option Value)}
    {tk_VALUES_4_0 : Tok}
    {tk_VALUES_4_1 : Tok}
    {od_VALUES_5 : Option Addr} {n_VALUES_5_ : Nat} {sl_VALUES_5 : Array (Option Value)}
    {od_VALUES_6 : Option Addr} {n_VALUES_6_ : Nat} {sl_VALUES_6 : Array (Option Value)}
    (a_is_same : PySem.W.nsIn K mainGlobals "is_same" = some (some (.ref x_is_same)))
    (l_is_same : K.lookup x_is_same = some ⟨oc_is_same, od_is_same, .func (PySem.W.fnOf "is_same" "is_same" (defArgs s_is_same) (defBody s_is_same) (defScope s_is_same) .none kV_is_same dc_is_same pm_is_same an_is_same cd_is_same ct_is_same), sl_is_same⟩)
    (c_is_same : PySem.W.codeIn K cd_is_same "is_same" = true)
    (k_is_same : PySem.W.keepIn K (.ref x_is_same) = true)
    (a_is_rule : PySem.W.nsIn K mainGlobals "is_rule" = some (some (.ref x_is_rule)))
    (l_is_rule : K.lookup x_is_rule = some ⟨oc_is_rule, od_is_rule, .func (PySem.W.fnOf "is_rule" "is_rule" (defArgs s_is_rule) (defBody s_is_rule) (defScope s_is_rule) .none kV_is_rule dc_is_rule pm_is_rule an_is_rule cd_is_rule ct_is_rule), sl_is_rule⟩)
    (c_is_rule : PySem.W.codeIn K cd_is_rule "is_rule" = true)
    (k_is_rule : PySem.W.keepIn K (.ref x_is_rule) = true)
    (a_need_rule : PySem.W.nsIn K mainGlobals "need_rule" = some (some (.ref x_need_rule)))
    (l_need_rule : K.lookup x_need_rule = some ⟨oc_need_rule, od_need_rule, .func (PySem.W.fnOf "need_rule" "need_rule" (defArgs s_need_rule) (defBody s_need_rule) (defScope s_need_rule) .none kV_need_rule dc_need_rule pm_need_rule an_need_rule cd_need_rule ct_need_rule), sl_need_rule⟩)
    (c_need_rule : PySem.W.codeIn K cd_need_rule "need_rule" = true)
    (k_need_rule : PySem.W.keepIn K (.ref x_need_rule) = true)
    (a_need_harm : PySem.W.nsIn K mainGlobals "need_harm" = some (some (.ref x_need_harm)))
    (l_need_harm : K.lookup x_need_harm = some ⟨oc_need_harm, od_need_harm, .func (PySem.W.fnOf "need_harm" "need_harm" (defArgs s_need_harm) (defBody s_need_harm) (defScope s_need_harm) .none kV_need_harm dc_need_harm pm_need_harm an_need_harm cd_need_harm ct_need_harm), sl_need_harm⟩)
    (c_need_harm : PySem.W.codeIn K cd_need_harm "need_harm" = true)
    (k_need_harm : PySem.W.keepIn K (.ref x_need_harm) = true)
    (a_begin : PySem.W.nsIn K mainGlobals "begin" = some (some (.ref x_begin)))
    (l_begin : K.lookup x_begin = some ⟨oc_begin, od_begin, .func (PySem.W.fnOf "begin" "begin" (defArgs s_begin) (defBody s_begin) (defScope s_begin) .none kV_begin dc_begin pm_begin an_begin cd_begin ct_begin), sl_begin⟩)
    (c_begin : PySem.W.codeIn K cd_begin "begin" = true)
    (k_begin : PySem.W.keepIn K (.ref x_begin) = true)
    (a_put_at : PySem.W.nsIn K mainGlobals "put_at" = some (some (.ref x_put_at)))
    (l_put_at : K.lookup x_put_at = some ⟨oc_put_at, od_put_at, .func (PySem.W.fnOf "put_at" "put_at" (defArgs s_put_at) (defBody s_put_at) (defScope s_put_at) .none kV_put_at dc_put_at pm_put_at an_put_at cd_put_at ct_put_at), sl_put_at⟩)
    (c_put_at : PySem.W.codeIn K cd_put_at "put_at" = true)
    (k_put_at : PySem.W.keepIn K (.ref x_put_at) = true)
    (a_worded : PySem.W.nsIn K mainGlobals "worded" = some (some (.ref x_worded)))
    (l_worded : K.lookup x_worded = some ⟨oc_worded, od_worded, .func (PySem.W.fnOf "worded" "worded" (defArgs s_worded) (defBody s_worded) (defScope s_worded) .none kV_worded dc_worded pm_worded an_worded cd_worded ct_worded), sl_worded⟩)
    (c_worded : PySem.W.codeIn K cd_worded "worded" = true)
    (k_worded : PySem.W.keepIn K (.ref x_worded) = true)
    (a_spoken : PySem.W.nsIn K mainGlobals "spoken" = some (some (.ref x_spoken)))
    (l_spoken : K.lookup x_spoken = some ⟨oc_spoken, od_spoken, .func (PySem.W.fnOf "spoken" "spoken" (defArgs s_spoken) (defBody s_spoken) (defScope s_spoken) .none kV_spoken dc_spoken pm_spoken an_spoken cd_spoken ct_spoken), sl_spoken⟩)
    (c_spoken : PySem.W.codeIn K cd_spoken "spoken" = true)
    (k_spoken : PySem.W.keepIn K (.ref x_spoken) = true)
    (a_may : PySem.W.nsIn K mainGlobals "may" = some (some (.ref x_may)))
    (l_may : K.lookup x_may = some ⟨oc_may, od_may, .func (PySem.W.fnOf "may" "may" (defArgs s_may) (defBody s_may) (defScope s_may) .none kV_may dc_may pm_may an_may cd_may ct_may), sl_may⟩)
    (c_may : PySem.W.codeIn K cd_may "may" = true)
    (k_may : PySem.W.keepIn K (.ref x_may) = true)
    (a_used_up : PySem.W.nsIn K mainGlobals "used_up" = some (some (.ref x_used_up)))
    (l_used_up : K.lookup x_used_up = some ⟨oc_used_up, od_used_up, .func (PySem.W.fnOf "used_up" "used_up" (defArgs s_used_up) (defBody s_used_up) (defScope s_used_up) .none kV_used_up dc_used_up pm_used_up an_used_up cd_used_up ct_used_up), sl_used_up⟩)
    (c_used_up : PySem.W.codeIn K cd_used_up "used_up" = true)
    (k_used_up : PySem.W.keepIn K (.ref x_used_up) = true)
    (a_come : PySem.W.nsIn K mainGlobals "come" = some (some (.ref x_come)))
    (l_come : K.lookup x_come = some ⟨oc_come, od_come, .func (PySem.W.fnOf "come" "come" (defArgs s_come) (defBody s_come) (defScope s_come) .none kV_come dc_come pm_come an_come cd_come ct_come), sl_come⟩)
    (c_come : PySem.W.codeIn K cd_come "come" = true)
    (k_come : PySem.W.keepIn K (.ref x_come) = true)
    (a_morning : PySem.W.nsIn K mainGlobals "morning" = some (some (.ref x_morning)))
    (l_morning : K.lookup x_morning = some ⟨oc_morning, od_morning, .func (PySem.W.fnOf "morning" "morning" (defArgs s_morning) (defBody s_morning) (defScope s_morning) .none kV_morning dc_morning pm_morning an_morning cd_morning ct_morning), sl_morning⟩)
    (c_morning : PySem.W.codeIn K cd_morning "morning" = true)
    (k_morning : PySem.W.keepIn K (.ref x_morning) = true)
    (a_step : PySem.W.nsIn K mainGlobals "step" = some (some (.ref x_step)))
    (l_step : K.lookup x_step = some ⟨oc_step, od_step, .func (PySem.W.fnOf "step" "step" (defArgs s_step) (defBody s_step) (defScope s_step) .none kV_step dc_step pm_step an_step cd_step ct_step), sl_step⟩)
    (c_step : PySem.W.codeIn K cd_step "step" = true)
    (k_step : PySem.W.keepIn K (.ref x_step) = true)
    (a_truly_may : PySem.W.nsIn K mainGlobals "truly_may" = some (some (.ref x_truly_may)))
    (l_truly_may : K.lookup x_truly_may = some ⟨oc_truly_may, od_truly_may, .func (PySem.W.fnOf "truly_may" "truly_may" (defArgs s_truly_may) (defBody s_truly_may) (defScope s_truly_may) .none kV_truly_may dc_truly_may pm_truly_may an_truly_may cd_truly_may ct_truly_may), sl_truly_may⟩)
    (c_truly_may : PySem.W.codeIn K cd_truly_may "truly_may" = true)
    (k_truly_may : PySem.W.keepIn K (.ref x_truly_may) = true)
    (a_harms_of : PySem.W.nsIn K mainGlobals "harms_of" = some (some (.ref x_harms_of)))
    (l_harms_of : K.lookup x_harms_of = some ⟨oc_harms_of, od_harms_of, .func (PySem.W.fnOf "harms_of" "harms_of" (defArgs s_harms_of) (defBody s_harms_of) (defScope s_harms_of) .none kV_harms_of dc_harms_of pm_harms_of an_harms_of cd_harms_of ct_harms_of), sl_harms_of⟩)
    (c_harms_of : PySem.W.codeIn K cd_harms_of "harms_of" = true)
    (k_harms_of : PySem.W.keepIn K (.ref x_harms_of) = true)
    (a_events_of : PySem.W.nsIn K mainGlobals "events_of" = some (some (.ref x_events_of)))
    (l_events_of : K.lookup x_events_of = some ⟨oc_events_of, od_events_of, .func (PySem.W.fnOf "events_of" "events_of" (defArgs s_events_of) (defBody s_events_of) (defScope s_events_of) .none kV_events_of dc_events_of pm_events_of an_events_of cd_events_of ct_events_of), sl_events_of⟩)
    (c_events_of : PySem.W.codeIn K cd_events_of "events_of" = true)
    (k_events_of : PySem.W.keepIn K (.ref x_events_of) = true)
    (a_search : PySem.W.nsIn K mainGlobals "search" = some (some (.ref x_search)))
    (l_search : K.lookup x_search = some ⟨oc_search, od_search, .func (PySem.W.fnOf "search" "search" (defArgs s_search) (defBody s_search) (defScope s_search) .none kV_search dc_search pm_search an_search cd_search ct_search), sl_search⟩)
    (c_search : PySem.W.codeIn K cd_search "search" = true)
    (k_search : PySem.W.keepIn K (.ref x_search) = true)
    (a_way_to : PySem.W.nsIn K mainGlobals "way_to" = some (some (.ref x_way_to)))
    (l_way_to : K.lookup x_way_to = some ⟨oc_way_to, od_way_to, .func (PySem.W.fnOf "way_to" "way_to" (defArgs s_way_to) (defBody s_way_to) (defScope s_way_to) .none kV_way_to dc_way_to pm_way_to an_way_to cd_way_to ct_way_to), sl_way_to⟩)
    (c_way_to : PySem.W.codeIn K cd_way_to "way_to" = true)
    (k_way_to : PySem.W.keepIn K (.ref x_way_to) = true)
    (a_alone : PySem.W.nsIn K mainGlobals "alone" = some (some (.ref x_alone)))
    (l_alone : K.lookup x_alone = some ⟨oc_alone, od_alone, .func (PySem.W.fnOf "alone" "alone" (defArgs s_alone) (defBody s_alone) (defScope s_alone) .none kV_alone dc_alone pm_alone an_alone cd_alone ct_alone), sl_alone⟩)
    (c_alone : PySem.W.codeIn K cd_alone "alone" = true)
    (k_alone : PySem.W.keepIn K (.ref x_alone) = true)
    (a__law_pot : PySem.W.nsIn K mainGlobals "_law_pot" = some (some (.ref x__law_pot)))
    (l__law_pot : K.lookup x__law_pot = some ⟨oc__law_pot, od__law_pot, .func (PySem.W.fnOf "_law_pot" "_law_pot" (defArgs s__law_pot) (defBody s__law_pot) (defScope s__law_pot) .none kV__law_pot dc__law_pot pm__law_pot an__law_pot cd__law_pot ct__law_pot), sl__law_pot⟩)
    (c__law_pot : PySem.W.codeIn K cd__law_pot "_law_pot" = true)
    (k__law_pot : PySem.W.keepIn K (.ref x__law_pot) = true)
    (a__law_lot : PySem.W.nsIn K mainGlobals "_law_lot" = some (some (.ref x__law_lot)))
    (l__law_lot : K.lookup x__law_lot = some ⟨oc__law_lot, od__law_lot, .func (PySem.W.fnOf "_law_lot" "_law_lot" (defArgs s__law_lot) (defBody s__law_lot) (defScope s__law_lot) .none kV__law_lot dc__law_lot pm__law_lot an__law_lot cd__law_lot ct__law_lot), sl__law_lot⟩)
    (c__law_lot : PySem.W.codeIn K cd__law_lot "_law_lot" = true)
    (k__law_lot : PySem.W.keepIn K (.ref x__law_lot) = true)
    (a__law_pick : PySem.W.nsIn K mainGlobals "_law_pick" = some (some (.ref x__law_pick)))
    (l__law_pick : K.lookup x__law_pick = some ⟨oc__law_pick, od__law_pick, .func (PySem.W.fnOf "_law_pick" "_law_pick" (defArgs s__law_pick) (defBody s__law_pick) (defScope s__law_pick) .none kV__law_pick dc__law_pick pm__law_pick an__law_pick cd__law_pick ct__law_pick), sl__law_pick⟩)
    (c__law_pick : PySem.W.codeIn K cd__law_pick "_law_pick" = true)
    (k__law_pick : PySem.W.keepIn K (.ref x__law_pick) = true)
    (a__law_values : PySem.W.nsIn K mainGlobals "_law_values" = some (some (.ref x__law_values)))
    (l__law_values : K.lookup x__law_values = some ⟨oc__law_values, od__law_values, .func (PySem.W.fnOf "_law_values" "_law_values" (defArgs s__law_values) (defBody s__law_values) (defScope s__law_values) .none kV__law_values dc__law_values pm__law_values an__law_values cd__law_values ct__law_values), sl__law_values⟩)
    (c__law_values : PySem.W.codeIn K cd__law_values "_law_values" = true)
    (k__law_values : PySem.W.keepIn K (.ref x__law_values) = true)
    (a__law_rule : PySem.W.nsIn K mainGlobals "_law_rule" = some (some (.ref x__law_rule)))
    (l__law_rule : K.lookup x__law_rule = some ⟨oc__law_rule, od__law_rule, .func (PySem.W.fnOf "_law_rule" "_law_rule" (defArgs s__law_rule) (defBody s__law_rule) (defScope s__law_rule) .none kV__law_rule dc__law_rule pm__law_rule an__law_rule cd__law_rule ct__law_rule), sl__law_rule⟩)
    (c__law_rule : PySem.W.codeIn K cd__law_rule "_law_rule" = true)
    (k__law_rule : PySem.W.keepIn K (.ref x__law_rule) = true)
    (a__law_words : PySem.W.nsIn K mainGlobals "_law_words" = some (some (.ref x__law_words)))
    (l__law_words : K.lookup x__law_words = some ⟨oc__law_words, od__law_words, .func (PySem.W.fnOf "_law_words" "_law_words" (defArgs s__law_words) (defBody s__law_words) (defScope s__law_words) .none kV__law_words dc__law_words pm__law_words an__law_words cd__law_words ct__law_words), sl__law_words⟩)
    (c__law_words : PySem.W.codeIn K cd__law_words "_law_words" = true)
    (k__law_words : PySem.W.keepIn K (.ref x__law_words) = true)
    (a__law_events : PySem.W.nsIn K mainGlobals "_law_events" = some (some (.ref x__law_events)))
    (l__law_events : K.lookup x__law_events = some ⟨oc__law_events, od__law_events, .func (PySem.W.fnOf "_law_events" "_law_events" (defArgs s__law_events) (defBody s__law_events) (defScope s__law_events) .none kV__law_events dc__law_events pm__law_events an__law_events cd__law_events ct__law_events), sl__law_events⟩)
    (c__law_events : PySem.W.codeIn K cd__law_events "_law_events" = true)
    (k__law_events : PySem.W.keepIn K (.ref x__law_events) = true)
    (a__law_new : PySem.W.nsIn K mainGlobals "_law_new" = some (some (.ref x__law_new)))
    (l__law_new : K.lookup x__law_new = some ⟨oc__law_new, od__law_new, .func (PySem.W.fnOf "_law_new" "_law_new" (defArgs s__law_new) (defBody s__law_new) (defScope s__law_new) .none kV__law_new dc__law_new pm__law_new an__law_new cd__law_new ct__law_new), sl__law_new⟩)
    (c__law_new : PySem.W.codeIn K cd__law_new "_law_new" = true)
    (k__law_new : PySem.W.keepIn K (.ref x__law_new) = true)
    (a__law_said : PySem.W.nsIn K mainGlobals "_law_said" = some (some (.ref x__law_said)))
    (l__law_said : K.lookup x__law_said = some ⟨oc__law_said, od__law_said, .func (PySem.W.fnOf "_law_said" "_law_said" (defArgs s__law_said) (defBody s__law_said) (defScope s__law_said) .none kV__law_said dc__law_said pm__law_said an__law_said cd__law_said ct__law_said), sl__law_said⟩)
    (c__law_said : PySem.W.codeIn K cd__law_said "_law_said" = true)
    (k__law_said : PySem.W.keepIn K (.ref x__law_said) = true)
    (a__law_may : PySem.W.nsIn K mainGlobals "_law_may" = some (some (.ref x__law_may)))
    (l__law_may : K.lookup x__law_may = some ⟨oc__law_may, od__law_may, .func (PySem.W.fnOf "_law_may" "_law_may" (defArgs s__law_may) (defBody s__law_may) (defScope s__law_may) .none kV__law_may dc__law_may pm__law_may an__law_may cd__law_may ct__law_may), sl__law_may⟩)
    (c__law_may : PySem.W.codeIn K cd__law_may "_law_may" = true)
    (k__law_may : PySem.W.keepIn K (.ref x__law_may) = true)
    (a__law_comes : PySem.W.nsIn K mainGlobals "_law_comes" = some (some (.ref x__law_comes)))
    (l__law_comes : K.lookup x__law_comes = some ⟨oc__law_comes, od__law_comes, .func (PySem.W.fnOf "_law_comes" "_law_comes" (defArgs s__law_comes) (defBody s__law_comes) (defScope s__law_comes) .none kV__law_comes dc__law_comes pm__law_comes an__law_comes cd__law_comes ct__law_comes), sl__law_comes⟩)
    (c__law_comes : PySem.W.codeIn K cd__law_comes "_law_comes" = true)
    (k__law_comes : PySem.W.keepIn K (.ref x__law_comes) = true)
    (a__law_on : PySem.W.nsIn K mainGlobals "_law_on" = some (some (.ref x__law_on)))
    (l__law_on : K.lookup x__law_on = some ⟨oc__law_on, od__law_on, .func (PySem.W.fnOf "_law_on" "_law_on" (defArgs s__law_on) (defBody s__law_on) (defScope s__law_on) .none kV__law_on dc__law_on pm__law_on an__law_on cd__law_on ct__law_on), sl__law_on⟩)
    (c__law_on : PySem.W.codeIn K cd__law_on "_law_on" = true)
    (k__law_on : PySem.W.keepIn K (.ref x__law_on) = true)
    (a__law_rights : PySem.W.nsIn K mainGlobals "_law_rights" = some (some (.ref x__law_rights)))
    (l__law_rights : K.lookup x__law_rights = some ⟨oc__law_rights, od__law_rights, .func (PySem.W.fnOf "_law_rights" "_law_rights" (defArgs s__law_rights) (defBody s__law_rights) (defScope s__law_rights) .none kV__law_rights dc__law_rights pm__law_rights an__law_rights cd__law_rights ct__law_rights), sl__law_rights⟩)
    (c__law_rights : PySem.W.codeIn K cd__law_rights "_law_rights" = true)
    (k__law_rights : PySem.W.keepIn K (.ref x__law_rights) = true)
    (a__law_harms : PySem.W.nsIn K mainGlobals "_law_harms" = some (some (.ref x__law_harms)))
    (l__law_harms : K.lookup x__law_harms = some ⟨oc__law_harms, od__law_harms, .func (PySem.W.fnOf "_law_harms" "_law_harms" (defArgs s__law_harms) (defBody s__law_harms) (defScope s__law_harms) .none kV__law_harms dc__law_harms pm__law_harms an__law_harms cd__law_harms ct__law_harms), sl__law_harms⟩)
    (c__law_harms : PySem.W.codeIn K cd__law_harms "_law_harms" = true)
    (k__law_harms : PySem.W.keepIn K (.ref x__law_harms) = true)
    (a__law_graph : PySem.W.nsIn K mainGlobals "_law_graph" = some (some (.ref x__law_graph)))
    (l__law_graph : K.lookup x__law_graph = some ⟨oc__law_graph, od__law_graph, .func (PySem.W.fnOf "_law_graph" "_law_graph" (defArgs s__law_graph) (defBody s__law_graph) (defScope s__law_graph) .none kV__law_graph dc__law_graph pm__law_graph an__law_graph cd__law_graph ct__law_graph), sl__law_graph⟩)
    (c__law_graph : PySem.W.codeIn K cd__law_graph "_law_graph" = true)
    (k__law_graph : PySem.W.keepIn K (.ref x__law_graph) = true)
    (a__law_own : PySem.W.nsIn K mainGlobals "_law_own" = some (some (.ref x__law_own)))
    (l__law_own : K.lookup x__law_own = some ⟨oc__law_own, od__law_own, .func (PySem.W.fnOf "_law_own" "_law_own" (defArgs s__law_own) (defBody s__law_own) (defScope s__law_own) .none kV__law_own dc__law_own pm__law_own an__law_own cd__law_own ct__law_own), sl__law_own⟩)
    (c__law_own : PySem.W.codeIn K cd__law_own "_law_own" = true)
    (k__law_own : PySem.W.keepIn K (.ref x__law_own) = true)
    (a_law : PySem.W.nsIn K mainGlobals "law" = some (some (.ref x_law)))
    (l_law : K.lookup x_law = some ⟨oc_law, od_law, .func (PySem.W.fnOf "law" "law" (defArgs s_law) (defBody s_law) (defScope s_law) .none kV_law dc_law pm_law an_law cd_law ct_law), sl_law⟩)
    (c_law : PySem.W.codeIn K cd_law "law" = true)
    (k_law : PySem.W.keepIn K (.ref x_law) = true)
    (a_FetchError : PySem.W.nsIn K mainGlobals "FetchError" = some (some (.ref x_FetchError)))
    (k_FetchError : PySem.W.keepIn K (.ref x_FetchError) = true)
    (u_FetchError : PySem.W.subIn K (.ref x_FetchError) (.type "BaseException") = some true)
    (y_FetchError : PySem.W.typeIn K (.ref x_FetchError) = some (.type "type"))
    (q_FetchError : PySem.W.excIn K x_FetchError [.type "ValueError", .type "Exception", .type "BaseException", .type "object"] "ValueError.__new__" = true)
    (a_InvalidRule : PySem.W.nsIn K mainGlobals "InvalidRule" = some (some (.ref x_InvalidRule)))
    (k_InvalidRule : PySem.W.keepIn K (.ref x_InvalidRule) = true)
    (u_InvalidRule : PySem.W.subIn K (.ref x_InvalidRule) (.type "BaseException") = some true)
    (y_InvalidRule : PySem.W.typeIn K (.ref x_InvalidRule) = some (.type "type"))
    (q_InvalidRule : PySem.W.excIn K x_InvalidRule [.type "ValueError", .type "Exception", .type "BaseException", .type "object"] "ValueError.__new__" = true)
    (a_InvalidHarm : PySem.W.nsIn K mainGlobals "InvalidHarm" = some (some (.ref x_InvalidHarm)))
    (k_InvalidHarm : PySem.W.keepIn K (.ref x_InvalidHarm) = true)
    (u_InvalidHarm : PySem.W.subIn K (.ref x_InvalidHarm) (.type "BaseException") = some true)
    (y_InvalidHarm : PySem.W.typeIn K (.ref x_InvalidHarm) = some (.type "type"))
    (q_InvalidHarm : PySem.W.excIn K x_InvalidHarm [.type "ValueError", .type "Exception", .type "BaseException", .type "object"] "ValueError.__new__" = true)
    (a_EVENTS : PySem.W.nsIn K mainGlobals "EVENTS" = some (some (.ref y_EVENTS)))
    (l_EVENTS : K.lookup y_EVENTS = some ⟨.type "tuple", od_EVENTS, .seq #[.ref y_EVENTS_0, .ref y_EVENTS_1, .ref y_EVENTS_2, .ref y_EVENTS_3, .ref y_EVENTS_4, .ref y_EVENTS_5, .ref y_EVENTS_6, .ref y_EVENTS_7, .ref y_EVENTS_8, .ref y_EVENTS_9, .ref y_EVENTS_10, .ref y_EVENTS_11, .ref y_EVENTS_12, .ref y_EVENTS_13, .ref y_EVENTS_14, .ref y_EVENTS_15, .ref y_EVENTS_16, .ref y_EVENTS_17] n_EVENTS_, sl_EVENTS⟩)
    (l_EVENTS_0 : K.lookup y_EVENTS_0 = some ⟨.type "tuple", od_EVENTS_0, .seq #[.str "clear" tk_EVENTS_0_0, .int 0 tk_EVENTS_0_1] n_EVENTS_0_, sl_EVENTS_0⟩)
    (l_EVENTS_1 : K.lookup y_EVENTS_1 = some ⟨.type "tuple", od_EVENTS_1, .seq #[.str "clear" tk_EVENTS_1_0, .int 1 tk_EVENTS_1_1] n_EVENTS_1_, sl_EVENTS_1⟩)
    (l_EVENTS_2 : K.lookup y_EVENTS_2 = some ⟨.type "tuple", od_EVENTS_2, .seq #[.str "come" tk_EVENTS_2_0, .int 0 tk_EVENTS_2_1] n_EVENTS_2_, sl_EVENTS_2⟩)
    (l_EVENTS_3 : K.lookup y_EVENTS_3 = some ⟨.type "tuple", od_EVENTS_3, .seq #[.str "come" tk_EVENTS_3_0, .int 1 tk_EVENTS_3_1] n_EVENTS_3_, sl_EVENTS_3⟩)
    (l_EVENTS_4 : K.lookup y_EVENTS_4 = some ⟨.type "tuple", od_EVENTS_4, .seq #[.str "come" tk_EVENTS_4_0, .int 2 tk_EVENTS_4_1] n_EVENTS_4_, sl_EVENTS_4⟩)
    (l_EVENTS_5 : K.lookup y_EVENTS_5 = some ⟨.type "tuple", od_EVENTS_5, .seq #[.str "court" tk_EVENTS_5_0, .int 0 tk_EVENTS_5_1] n_EVENTS_5_, sl_EVENTS_5⟩)
    (l_EVENTS_6 : K.lookup y_EVENTS_6 = some ⟨.type "tuple", od_EVENTS_6, .seq #[.str "court" tk_EVENTS_6_0, .int 1 tk_EVENTS_6_1] n_EVENTS_6_, sl_EVENTS_6⟩)
    (l_EVENTS_7 : K.lookup y_EVENTS_7 = some ⟨.type "tuple", od_EVENTS_7, .seq #[.str "morning" tk_EVENTS_7_0] n_EVENTS_7_, sl_EVENTS_7⟩)
    (l_EVENTS_8 : K.lookup y_EVENTS_8 = some ⟨.type "tuple", od_EVENTS_8, .seq #[.str "paper" tk_EVENTS_8_0, .int 0 tk_EVENTS_8_1] n_EVENTS_8_, sl_EVENTS_8⟩)
    (l_EVENTS_9 : K.lookup y_EVENTS_9 = some ⟨.type "tuple", od_EVENTS_9, .seq #[.str "paper" tk_EVENTS_9_0, .int 1 tk_EVENTS_9_1] n_EVENTS_9_, sl_EVENTS_9⟩)
    (l_EVENTS_10 : K.lookup y_EVENTS_10 = some ⟨.type "tuple", od_EVENTS_10, .seq #[.str "say" tk_EVENTS_10_0, .int 0 tk_EVENTS_10_1, .str "always" tk_EVENTS_10_2] n_EVENTS_10_, sl_EVENTS_10⟩)
    (l_EVENTS_11 : K.lookup y_EVENTS_11 = some ⟨.type "tuple", od_EVENTS_11, .seq #[.str "say" tk_EVENTS_11_0, .int 0 tk_EVENTS_11_1, .str "bar" tk_EVENTS_11_2] n_EVENTS_11_, sl_EVENTS_11⟩)
    (l_EVENTS_12 : K.lookup y_EVENTS_12 = some ⟨.type "tuple", od_EVENTS_12, .seq #[.str "say" tk_EVENTS_12_0, .int 0 tk_EVENTS_12_1, .str "no" tk_EVENTS_12_2] n_EVENTS_12_, sl_EVENTS_12⟩)
    (l_EVENTS_13 : K.lookup y_EVENTS_13 = some ⟨.type "tuple", od_EVENTS_13, .seq #[.str "say" tk_EVENTS_13_0, .int 0 tk_EVENTS_13_1, .str "once" tk_EVENTS_13_2] n_EVENTS_13_, sl_EVENTS_13⟩)
    (l_EVENTS_14 : K.lookup y_EVENTS_14 = some ⟨.type "tuple", od_EVENTS_14, .seq #[.str "say" tk_EVENTS_14_0, .int 1 tk_EVENTS_14_1, .str "always" tk_EVENTS_14_2] n_EVENTS_14_, sl_EVENTS_14⟩)
    (l_EVENTS_15 : K.lookup y_EVENTS_15 = some ⟨.type "tuple", od_EVENTS_15, .seq #[.str "say" tk_EVENTS_15_0, .int 1 tk_EVENTS_15_1, .str "bar" tk_EVENTS_15_2] n_EVENTS_15_, sl_EVENTS_15⟩)
    (l_EVENTS_16 : K.lookup y_EVENTS_16 = some ⟨.type "tuple", od_EVENTS_16, .seq #[.str "say" tk_EVENTS_16_0, .int 1 tk_EVENTS_16_1, .str "no" tk_EVENTS_16_2] n_EVENTS_16_, sl_EVENTS_16⟩)
    (l_EVENTS_17 : K.lookup y_EVENTS_17 = some ⟨.type "tuple", od_EVENTS_17, .seq #[.str "say" tk_EVENTS_17_0, .int 1 tk_EVENTS_17_1, .str "once" tk_EVENTS_17_2] n_EVENTS_17_, sl_EVENTS_17⟩)
    (a_HARMS : PySem.W.nsIn K mainGlobals "HARMS" = some (some (.ref y_HARMS)))
    (l_HARMS : K.lookup y_HARMS = some ⟨.type "tuple", od_HARMS, .seq #[.str "kept" tk_HARMS_0, .str "nobody" tk_HARMS_1, .str "two" tk_HARMS_2, .str "wrong" tk_HARMS_3] n_HARMS_, sl_HARMS⟩)
    (a_OTHER : PySem.W.nsIn K mainGlobals "OTHER" = some (some (.int 2 tk_OTHER)))
    (a_PART_NAMES : PySem.W.nsIn K mainGlobals "PART_NAMES" = some (some (.ref y_PART_NAMES)))
    (l_PART_NAMES : K.lookup y_PART_NAMES = some ⟨.type "tuple", od_PART_NAMES, .seq #[.str "words" tk_PART_NAMES_0, .str "bars" tk_PART_NAMES_1, .str "lag" tk_PART_NAMES_2, .str "court" tk_PART_NAMES_3, .str "once" tk_PART_NAMES_4, .str "void" tk_PART_NAMES_5, .str "paper" tk_PART_NAMES_6] n_PART_NAMES_, sl_PART_NAMES⟩)
    (a_VALUES : PySem.W.nsIn K mainGlobals "VALUES" = some (some (.ref y_VALUES)))
    (l_VALUES : K.lookup y_VALUES = some ⟨.type "tuple", od_VALUES, .seq #[.ref y_VALUES_0, .ref y_VALUES_1, .ref y_VALUES_2, .ref y_VALUES_3, .ref y_VALUES_4, .ref y_VALUES_5, .ref y_VALUES_6] n_VALUES_, sl_VALUES⟩)
    (l_VALUES_0 : K.lookup y_VALUES_0 = some ⟨.type "tuple", od_VALUES_0, .seq #[.str "both" tk_VALUES_0_0, .str "either" tk_VALUES_0_1, .str "last" tk_VALUES_0_2] n_VALUES_0_, sl_VALUES_0⟩)
    (l_VALUES_1 : K.lookup y_VALUES_1 = some ⟨.type "tuple", od_VALUES_1, .seq #[.str "own" tk_VALUES_1_0, .str "win" tk_VALUES_1_1] n_VALUES_1_, sl_VALUES_1⟩)
    (l_VALUES_2 : K.lookup y_VALUES_2 = some ⟨.type "tuple", od_VALUES_2, .seq #[.str "morning" tk_VALUES_2_0, .str "now" tk_VALUES_2_1] n_VALUES_2_, sl_VALUES_2⟩)
    (l_VALUES_3 : K.lookup y_VALUES_3 = some ⟨.type "tuple", od_VALUES_3, .seq #[.str "morning" tk_VALUES_3_0, .str "now" tk_VALUES_3_1] n_VALUES_3_, sl_VALUES_3⟩)
    (l_VALUES_4 : K.lookup y_VALUES_4 = some ⟨.type "tuple", od_VALUES_4, .seq #[.str "day" tk_VALUES_4_0, .str "use" tk_VALUES_4_1] n_VALUES_4_, sl_VALUES_4⟩)
    (l_VALUES_5 : K.lookup y_VALUES_5 = some ⟨.type "tuple", od_VALUES_5, .seq #[.bool false, .bool true] n_VALUES_5_, sl_VALUES_5⟩)
    (l_VALUES_6 : K.lookup y_VALUES_6 = some ⟨.type "tuple", od_VALUES_6, .seq #[.bool false, .bool true] n_VALUES_6_, sl_VALUES_6⟩)
    (b_all : PySem.W.nsIn K mainGlobals "all" = some none)
    (b_any : PySem.W.nsIn K mainGlobals "any" = some none)
    (b_bool : PySem.W.nsIn K mainGlobals "bool" = some none)
    (b_int : PySem.W.nsIn K mainGlobals "int" = some none)
    (b_isinstance : PySem.W.nsIn K mainGlobals "isinstance" = some none)
    (b_len : PySem.W.nsIn K mainGlobals "len" = some none)
    (b_list : PySem.W.nsIn K mainGlobals "list" = some none)
    (b_min : PySem.W.nsIn K mainGlobals "min" = some none)
    (b_range : PySem.W.nsIn K mainGlobals "range" = some none)
    (b_sorted : PySem.W.nsIn K mainGlobals "sorted" = some none)
    (b_str : PySem.W.nsIn K mainGlobals "str" = some none)
    (b_tuple : PySem.W.nsIn K mainGlobals "tuple" = some none)
    (b_zip : PySem.W.nsIn K mainGlobals "zip" = some none) :
    ∃ fd : FuncData, (∀ (s : Shared) (v : Value), BindsTo s fd ⟨[v], []⟩ [("script", v)]) ∧ ∀ base : Heap, K.In base → base.Ns mainGlobals mg → FnOk l.prog w K mg base (L2.CX l.prog w) 9 fa fd ["script"] (spLaw K) := by
  have e : x_law = fa := by have e := hfa.symm.trans (PySem.W.mg_of X G a_law); cases e; rfl
  subst e
  have T : Txt K mg ⟨x_is_same, PySem.W.fnOf "is_same" "is_same" (defArgs s_is_same) (defBody s_is_same) (defScope s_is_same) .none kV_is_same dc_is_same pm_is_same an_is_same cd_is_same ct_is_same, x_is_rule, PySem.W.fnOf "is_rule" "is_rule" (defArgs s_is_rule) (defBody s_is_rule) (defScope s_is_rule) .none kV_is_rule dc_is_rule pm_is_rule an_is_rule cd_is_rule ct_is_rule, x_need_rule, PySem.W.fnOf "need_rule" "need_rule" (defArgs s_need_rule) (defBody s_need_rule) (defScope s_need_rule) .none kV_need_rule dc_need_rule pm_need_rule an_need_rule cd_need_rule ct_need_rule, x_need_harm, PySem.W.fnOf "need_harm" "need_harm" (defArgs s_need_harm) (defBody s_need_harm) (defScope s_need_harm) .none kV_need_harm dc_need_harm pm_need_harm an_need_harm cd_need_harm ct_need_harm, x_begin, PySem.W.fnOf "begin" "begin" (defArgs s_begin) (defBody s_begin) (defScope s_begin) .none kV_begin dc_begin pm_begin an_begin cd_begin ct_begin, x_put_at, PySem.W.fnOf "put_at" "put_at" (defArgs s_put_at) (defBody s_put_at) (defScope s_put_at) .none kV_put_at dc_put_at pm_put_at an_put_at cd_put_at ct_put_at, x_worded, PySem.W.fnOf "worded" "worded" (defArgs s_worded) (defBody s_worded) (defScope s_worded) .none kV_worded dc_worded pm_worded an_worded cd_worded ct_worded, x_spoken, PySem.W.fnOf "spoken" "spoken" (defArgs s_spoken) (defBody s_spoken) (defScope s_spoken) .none kV_spoken dc_spoken pm_spoken an_spoken cd_spoken ct_spoken, x_may, PySem.W.fnOf "may" "may" (defArgs s_may) (defBody s_may) (defScope s_may) .none kV_may dc_may pm_may an_may cd_may ct_may, x_used_up, PySem.W.fnOf "used_up" "used_up" (defArgs s_used_up) (defBody s_used_up) (defScope s_used_up) .none kV_used_up dc_used_up pm_used_up an_used_up cd_used_up ct_used_up, x_come, PySem.W.fnOf "come" "come" (defArgs s_come) (defBody s_come) (defScope s_come) .none kV_come dc_come pm_come an_come cd_come ct_come, x_morning, PySem.W.fnOf "morning" "morning" (defArgs s_morning) (defBody s_morning) (defScope s_morning) .none kV_morning dc_morning pm_morning an_morning cd_morning ct_morning, x_step, PySem.W.fnOf "step" "step" (defArgs s_step) (defBody s_step) (defScope s_step) .none kV_step dc_step pm_step an_step cd_step ct_step, x_truly_may, PySem.W.fnOf "truly_may" "truly_may" (defArgs s_truly_may) (defBody s_truly_may) (defScope s_truly_may) .none kV_truly_may dc_truly_may pm_truly_may an_truly_may cd_truly_may ct_truly_may, x_harms_of, PySem.W.fnOf "harms_of" "harms_of" (defArgs s_harms_of) (defBody s_harms_of) (defScope s_harms_of) .none kV_harms_of dc_harms_of pm_harms_of an_harms_of cd_harms_of ct_harms_of, x_events_of, PySem.W.fnOf "events_of" "events_of" (defArgs s_events_of) (defBody s_events_of) (defScope s_events_of) .none kV_events_of dc_events_of pm_events_of an_events_of cd_events_of ct_events_of, x_search, PySem.W.fnOf "search" "search" (defArgs s_search) (defBody s_search) (defScope s_search) .none kV_search dc_search pm_search an_search cd_search ct_search, x_way_to, PySem.W.fnOf "way_to" "way_to" (defArgs s_way_to) (defBody s_way_to) (defScope s_way_to) .none kV_way_to dc_way_to pm_way_to an_way_to cd_way_to ct_way_to, x_alone, PySem.W.fnOf "alone" "alone" (defArgs s_alone) (defBody s_alone) (defScope s_alone) .none kV_alone dc_alone pm_alone an_alone cd_alone ct_alone, x__law_pot, PySem.W.fnOf "_law_pot" "_law_pot" (defArgs s__law_pot) (defBody s__law_pot) (defScope s__law_pot) .none kV__law_pot dc__law_pot pm__law_pot an__law_pot cd__law_pot ct__law_pot, x__law_lot, PySem.W.fnOf "_law_lot" "_law_lot" (defArgs s__law_lot) (defBody s__law_lot) (defScope s__law_lot) .none kV__law_lot dc__law_lot pm__law_lot an__law_lot cd__law_lot ct__law_lot, x__law_pick, PySem.W.fnOf "_law_pick" "_law_pick" (defArgs s__law_pick) (defBody s__law_pick) (defScope s__law_pick) .none kV__law_pick dc__law_pick pm__law_pick an__law_pick cd__law_pick ct__law_pick, x__law_values, PySem.W.fnOf "_law_values" "_law_values" (defArgs s__law_values) (defBody s__law_values) (defScope s__law_values) .none kV__law_values dc__law_values pm__law_values an__law_values cd__law_values ct__law_values, x__law_rule, PySem.W.fnOf "_law_rule" "_law_rule" (defArgs s__law_rule) (defBody s__law_rule) (defScope s__law_rule) .none kV__law_rule dc__law_rule pm__law_rule an__law_rule cd__law_rule ct__law_rule, x__law_words, PySem.W.fnOf "_law_words" "_law_words" (defArgs s__law_words) (defBody s__law_words) (defScope s__law_words) .none kV__law_words dc__law_words pm__law_words an__law_words cd__law_words ct__law_words, x__law_events, PySem.W.fnOf "_law_events" "_law_events" (defArgs s__law_events) (defBody s__law_events) (defScope s__law_events) .none kV__law_events dc__law_events pm__law_events an__law_events cd__law_events ct__law_events, x__law_new, PySem.W.fnOf "_law_new" "_law_new" (defArgs s__law_new) (defBody s__law_new) (defScope s__law_new) .none kV__law_new dc__law_new pm__law_new an__law_new cd__law_new ct__law_new, x__law_said, PySem.W.fnOf "_law_said" "_law_said" (defArgs s__law_said) (defBody s__law_said) (defScope s__law_said) .none kV__law_said dc__law_said pm__law_said an__law_said cd__law_said ct__law_said, x__law_may, PySem.W.fnOf "_law_may" "_law_may" (defArgs s__law_may) (defBody s__law_may) (defScope s__law_may) .none kV__law_may dc__law_may pm__law_may an__law_may cd__law_may ct__law_may, x__law_comes, PySem.W.fnOf "_law_comes" "_law_comes" (defArgs s__law_comes) (defBody s__law_comes) (defScope s__law_comes) .none kV__law_comes dc__law_comes pm__law_comes an__law_comes cd__law_comes ct__law_comes, x__law_on, PySem.W.fnOf "_law_on" "_law_on" (defArgs s__law_on) (defBody s__law_on) (defScope s__law_on) .none kV__law_on dc__law_on pm__law_on an__law_on cd__law_on ct__law_on, x__law_rights, PySem.W.fnOf "_law_rights" "_law_rights" (defArgs s__law_rights) (defBody s__law_rights) (defScope s__law_rights) .none kV__law_rights dc__law_rights pm__law_rights an__law_rights cd__law_rights ct__law_rights, x__law_harms, PySem.W.fnOf "_law_harms" "_law_harms" (defArgs s__law_harms) (defBody s__law_harms) (defScope s__law_harms) .none kV__law_harms dc__law_harms pm__law_harms an__law_harms cd__law_harms ct__law_harms, x__law_graph, PySem.W.fnOf "_law_graph" "_law_graph" (defArgs s__law_graph) (defBody s__law_graph) (defScope s__law_graph) .none kV__law_graph dc__law_graph pm__law_graph an__law_graph cd__law_graph ct__law_graph, x__law_own, PySem.W.fnOf "_law_own" "_law_own" (defArgs s__law_own) (defBody s__law_own) (defScope s__law_own) .none kV__law_own dc__law_own pm__law_own an__law_own cd__law_own ct__law_own, x_law, PySem.W.fnOf "law" "law" (defArgs s_law) (defBody s_law) (defScope s_law) .none kV_law dc_law pm_law an_law cd_law ct_law, x_FetchError, x_InvalidRule, x_InvalidHarm⟩ := by
    constructor
    case g_is_same => exact PySem.W.mg_of X G a_is_same
    case k_is_same => exact k_is_same
    case t_is_same => exact fun_mk (st := s_is_same) l_is_same c_is_same k_is_same
    case d_is_same => exact (fun_mk (st := s_is_same) l_is_same c_is_same k_is_same).binds (ps := p_is_same) (fun _ _ _ _ _ _ us hl => match us, hl with | [_, _], _ => rfl)
    case g_is_rule => exact PySem.W.mg_of X G a_is_rule
    case k_is_rule => exact k_is_rule
    case t_is_rule => exact fun_mk (st := s_is_rule) l_is_rule c_is_rule k_is_rule
    case d_is_rule => exact (fun_mk (st := s_is_rule) l_is_rule c_is_rule k_is_rule).binds (ps := p_is_rule) (fun _ _ _ _ _ _ us hl => match us, hl with | [_], _ => rfl)
    case g_need_rule => exact PySem.W.mg_of X G a_need_rule
    case k_need_rule => exact k_need_rule
    case t_need_rule => exact fun_mk (st := s_need_rule) l_need_rule c_need_rule k_need_rule
    case d_need_rule => exact (fun_mk (st := s_need_rule) l_need_rule c_need_rule k_need_rule).binds (ps := p_need_rule) (fun _ _ _ _ _ _ us hl => match us, hl with | [_], _ => rfl)
    case g_need_harm => exact PySem.W.mg_of X G a_need_harm
    case k_need_harm => exact k_need_harm
    case t_need_harm => exact fun_mk (st := s_need_harm) l_need_harm c_need_harm k_need_harm
    case d_need_harm => exact (fun_mk (st := s_need_harm) l_need_harm c_need_harm k_need_harm).binds (ps := p_need_harm) (fun _ _ _ _ _ _ us hl => match us, hl with | [_], _ => rfl)
    case g_begin => exact PySem.W.mg_of X G a_begin
    case k_begin => exact k_begin
    case t_begin => exact fun_mk (st := s_begin) l_begin c_begin k_begin
    case d_begin => exact (fun_mk (st := s_begin) l_begin c_begin k_begin).binds (ps := p_begin) (fun _ _ _ _ _ _ us hl => match us, hl with | [], _ => rfl)
    case g_put_at => exact PySem.W.mg_of X G a_put_at
    case k_put_at => exact k_put_at
    case t_put_at => exact fun_mk (st := s_put_at) l_put_at c_put_at k_put_at
    case d_put_at => exact (fun_mk (st := s_put_at) l_put_at c_put_at k_put_at).binds (ps := p_put_at) (fun _ _ _ _ _ _ us hl => match us, hl with | [_, _, _], _ => rfl)
    case g_worded => exact PySem.W.mg_of X G a_worded
    case k_worded => exact k_worded
    case t_worded => exact fun_mk (st := s_worded) l_worded c_worded k_worded
    case d_worded => exact (fun_mk (st := s_worded) l_worded c_worded k_worded).binds (ps := p_worded) (fun _ _ _ _ _ _ us hl => match us, hl with | [_, _, _, _], _ => rfl)
    case g_spoken => exact PySem.W.mg_of X G a_spoken
    case k_spoken => exact k_spoken
    case t_spoken => exact fun_mk (st := s_spoken) l_spoken c_spoken k_spoken
    case d_spoken => exact (fun_mk (st := s_spoken) l_spoken c_spoken k_spoken).binds (ps := p_spoken) (fun _ _ _ _ _ _ us hl => match us, hl with | [_, _, _, _], _ => rfl)
    case g_may => exact PySem.W.mg_of X G a_may
    case k_may => exact k_may
    case t_may => exact fun_mk (st := s_may) l_may c_may k_may
    case d_may => exact (fun_mk (st := s_may) l_may c_may k_may).binds (ps := p_may) (fun _ _ _ _ _ _ us hl => match us, hl with | [_, _, _, _, _], _ => rfl)
    case g_used_up => exact PySem.W.mg_of X G a_used_up
    case k_used_up => exact k_used_up
    case t_used_up => exact fun_mk (st := s_used_up) l_used_up c_used_up k_used_up
    case d_used_up => exact (fun_mk (st := s_used_up) l_used_up c_used_up k_used_up).binds (ps := p_used_up) (fun _ _ _ _ _ _ us hl => match us, hl with | [_], _ => rfl)
    case g_come => exact PySem.W.mg_of X G a_come
    case k_come => exact k_come
    case t_come => exact fun_mk (st := s_come) l_come c_come k_come
    case d_come => exact (fun_mk (st := s_come) l_come c_come k_come).binds (ps := p_come) (fun _ _ _ _ _ _ us hl => match us, hl with | [_, _, _, _], _ => rfl)
    case g_morning => exact PySem.W.mg_of X G a_morning
    case k_morning => exact k_morning
    case t_morning => exact fun_mk (st := s_morning) l_morning c_morning k_morning
    case d_morning => exact (fun_mk (st := s_morning) l_morning c_morning k_morning).binds (ps := p_morning) (fun _ _ _ _ _ _ us hl => match us, hl with | [_, _], _ => rfl)
    case g_step => exact PySem.W.mg_of X G a_step
    case k_step => exact k_step
    case t_step => exact fun_mk (st := s_step) l_step c_step k_step
    case d_step => exact (fun_mk (st := s_step) l_step c_step k_step).binds (ps := p_step) (fun _ _ _ _ _ _ us hl => match us, hl with | [_, _, _], _ => rfl)
    case g_truly_may => exact PySem.W.mg_of X G a_truly_may
    case k_truly_may => exact k_truly_may
    case t_truly_may => exact fun_mk (st := s_truly_may) l_truly_may c_truly_may k_truly_may
    case d_truly_may => exact (fun_mk (st := s_truly_may) l_truly_may c_truly_may k_truly_may).binds (ps := p_truly_may) (fun _ _ _ _ _ _ us hl => match us, hl with | [_, _, _], _ => rfl)
    case g_harms_of => exact PySem.W.mg_of X G a_harms_of
    case k_harms_of => exact k_harms_of
    case t_harms_of => exact fun_mk (st := s_harms_of) l_harms_of c_harms_of k_harms_of
    case d_harms_of => exact (fun_mk (st := s_harms_of) l_harms_of c_harms_of k_harms_of).binds (ps := p_harms_of) (fun _ _ _ _ _ _ us hl => match us, hl with | [_, _, _, _], _ => rfl)
    case g_events_of => exact PySem.W.mg_of X G a_events_of
    case k_events_of => exact k_events_of
    case t_events_of => exact fun_mk (st := s_events_of) l_events_of c_events_of k_events_of
    case d_events_of => exact (fun_mk (st := s_events_of) l_events_of c_events_of k_events_of).binds (ps := p_events_of) (fun _ _ _ _ _ _ us hl => match us, hl with | [_], _ => rfl)
    case g_search => exact PySem.W.mg_of X G a_search
    case k_search => exact k_search
    case t_search => exact fun_mk (st := s_search) l_search c_search k_search
    case d_search => exact (fun_mk (st := s_search) l_search c_search k_search).binds (ps := p_search) (fun _ _ _ _ _ _ us hl => match us, hl with | [_, _, _], _ => rfl)
    case g_way_to => exact PySem.W.mg_of X G a_way_to
    case k_way_to => exact k_way_to
    case t_way_to => exact fun_mk (st := s_way_to) l_way_to c_way_to k_way_to
    case d_way_to => exact (fun_mk (st := s_way_to) l_way_to c_way_to k_way_to).binds (ps := p_way_to) (fun _ _ _ _ _ _ us hl => match us, hl with | [_, _], _ => rfl)
    case g_alone => exact PySem.W.mg_of X G a_alone
    case k_alone => exact k_alone
    case t_alone => exact fun_mk (st := s_alone) l_alone c_alone k_alone
    case d_alone => exact (fun_mk (st := s_alone) l_alone c_alone k_alone).binds (ps := p_alone) (fun _ _ _ _ _ _ us hl => match us, hl with | [_, _], _ => rfl)
    case g__law_pot => exact PySem.W.mg_of X G a__law_pot
    case k__law_pot => exact k__law_pot
    case t__law_pot => exact fun_mk (st := s__law_pot) l__law_pot c__law_pot k__law_pot
    case d__law_pot => exact (fun_mk (st := s__law_pot) l__law_pot c__law_pot k__law_pot).binds (ps := p__law_pot) (fun _ _ _ _ _ _ us hl => match us, hl with | [_, _], _ => rfl)
    case g__law_lot => exact PySem.W.mg_of X G a__law_lot
    case k__law_lot => exact k__law_lot
    case t__law_lot => exact fun_mk (st := s__law_lot) l__law_lot c__law_lot k__law_lot
    case d__law_lot => exact (fun_mk (st := s__law_lot) l__law_lot c__law_lot k__law_lot).binds (ps := p__law_lot) (fun _ _ _ _ _ _ us hl => match us, hl with | [_, _], _ => rfl)
    case g__law_pick => exact PySem.W.mg_of X G a__law_pick
    case k__law_pick => exact k__law_pick
    case t__law_pick => exact fun_mk (st := s__law_pick) l__law_pick c__law_pick k__law_pick
    case d__law_pick => exact (fun_mk (st := s__law_pick) l__law_pick c__law_pick k__law_pick).binds (ps := p__law_pick) (fun _ _ _ _ _ _ us hl => match us, hl with | [_, _], _ => rfl)
    case g__law_values => exact PySem.W.mg_of X G a__law_values
    case k__law_values => exact k__law_values
    case t__law_values => exact fun_mk (st := s__law_values) l__law_values c__law_values k__law_values
    case d__law_values => exact (fun_mk (st := s__law_values) l__law_values c__law_values k__law_values).binds (ps := p__law_values) (fun _ _ _ _ _ _ us hl => match us, hl with | [], _ => rfl)
    case g__law_rule => exact PySem.W.mg_of X G a__law_rule
    case k__law_rule => exact k__law_rule
    case t__law_rule => exact fun_mk (st := s__law_rule) l__law_rule c__law_rule k__law_rule
    case d__law_rule => exact (fun_mk (st := s__law_rule) l__law_rule c__law_rule k__law_rule).binds (ps := p__law_rule) (fun _ _ _ _ _ _ us hl => match us, hl with | [_], _ => rfl)
    case g__law_words => exact PySem.W.mg_of X G a__law_words
    case k__law_words => exact k__law_words
    case t__law_words => exact fun_mk (st := s__law_words) l__law_words c__law_words k__law_words
    case d__law_words => exact (fun_mk (st := s__law_words) l__law_words c__law_words k__law_words).binds (ps := p__law_words) (fun _ _ _ _ _ _ us hl => match us, hl with | [], _ => rfl)
    case g__law_events => exact PySem.W.mg_of X G a__law_events
    case k__law_events => exact k__law_events
    case t__law_events => exact fun_mk (st := s__law_events) l__law_events c__law_events k__law_events
    case d__law_events => exact (fun_mk (st := s__law_events) l__law_events c__law_events k__law_events).binds (ps := p__law_events) (fun _ _ _ _ _ _ us hl => match us, hl with | [], _ => rfl)
    case g__law_new => exact PySem.W.mg_of X G a__law_new
    case k__law_new => exact k__law_new
    case t__law_new => exact fun_mk (st := s__law_new) l__law_new c__law_new k__law_new
    case d__law_new => exact (fun_mk (st := s__law_new) l__law_new c__law_new k__law_new).binds (ps := p__law_new) (fun _ _ _ _ _ _ us hl => match us, hl with | [], _ => rfl)
    case g__law_said => exact PySem.W.mg_of X G a__law_said
    case k__law_said => exact k__law_said
    case t__law_said => exact fun_mk (st := s__law_said) l__law_said c__law_said k__law_said
    case d__law_said => exact (fun_mk (st := s__law_said) l__law_said c__law_said k__law_said).binds (ps := p__law_said) (fun _ _ _ _ _ _ us hl => match us, hl with | [_, _, _, _], _ => rfl)
    case g__law_may => exact PySem.W.mg_of X G a__law_may
    case k__law_may => exact k__law_may
    case t__law_may => exact fun_mk (st := s__law_may) l__law_may c__law_may k__law_may
    case d__law_may => exact (fun_mk (st := s__law_may) l__law_may c__law_may k__law_may).binds (ps := p__law_may) (fun _ _ _ _ _ _ us hl => match us, hl with | [_, _, _, _, _], _ => rfl)
    case g__law_comes => exact PySem.W.mg_of X G a__law_comes
    case k__law_comes => exact k__law_comes
    case t__law_comes => exact fun_mk (st := s__law_comes) l__law_comes c__law_comes k__law_comes
    case d__law_comes => exact (fun_mk (st := s__law_comes) l__law_comes c__law_comes k__law_comes).binds (ps := p__law_comes) (fun _ _ _ _ _ _ us hl => match us, hl with | [_, _, _, _], _ => rfl)
    case g__law_on => exact PySem.W.mg_of X G a__law_on
    case k__law_on => exact k__law_on
    case t__law_on => exact fun_mk (st := s__law_on) l__law_on c__law_on k__law_on
    case d__law_on => exact (fun_mk (st := s__law_on) l__law_on c__law_on k__law_on).binds (ps := p__law_on) (fun _ _ _ _ _ _ us hl => match us, hl with | [_, _, _], _ => rfl)
    case g__law_rights => exact PySem.W.mg_of X G a__law_rights
    case k__law_rights => exact k__law_rights
    case t__law_rights => exact fun_mk (st := s__law_rights) l__law_rights c__law_rights k__law_rights
    case d__law_rights => exact (fun_mk (st := s__law_rights) l__law_rights c__law_rights k__law_rights).binds (ps := p__law_rights) (fun _ _ _ _ _ _ us hl => match us, hl with | [_, _, _], _ => rfl)
    case g__law_harms => exact PySem.W.mg_of X G a__law_harms
    case k__law_harms => exact k__law_harms
    case t__law_harms => exact fun_mk (st := s__law_harms) l__law_harms c__law_harms k__law_harms
    case d__law_harms => exact (fun_mk (st := s__law_harms) l__law_harms c__law_harms k__law_harms).binds (ps := p__law_harms) (fun _ _ _ _ _ _ us hl => match us, hl with | [_, _, _, _], _ => rfl)
    case g__law_graph => exact PySem.W.mg_of X G a__law_graph
    case k__law_graph => exact k__law_graph
    case t__law_graph => exact fun_mk (st := s__law_graph) l__law_graph c__law_graph k__law_graph
    case d__law_graph => exact (fun_mk (st := s__law_graph) l__law_graph c__law_graph k__law_graph).binds (ps := p__law_graph) (fun _ _ _ _ _ _ us hl => match us, hl with | [_, _], _ => rfl)
    case g__law_own => exact PySem.W.mg_of X G a__law_own
    case k__law_own => exact k__law_own
    case t__law_own => exact fun_mk (st := s__law_own) l__law_own c__law_own k__law_own
    case d__law_own => exact (fun_mk (st := s__law_own) l__law_own c__law_own k__law_own).binds (ps := p__law_own) (fun _ _ _ _ _ _ us hl => match us, hl with | [_], _ => rfl)
    case g_law => exact PySem.W.mg_of X G a_law
    case k_law => exact k_law
    case t_law => exact fun_mk (st := s_law) l_law c_law k_law
    case d_law => exact (fun_mk (st := s_law) l_law c_law k_law).binds (ps := p_law) (fun _ _ _ _ _ _ us hl => match us, hl with | [_], _ => rfl)
    case g_FetchError => exact PySem.W.mg_of X G a_FetchError
    case k_FetchError => exact k_FetchError
    case u_FetchError => exact u_FetchError
    case y_FetchError => exact y_FetchError
    case x_FetchError => exact q_FetchError
    case g_InvalidRule => exact PySem.W.mg_of X G a_InvalidRule
    case k_InvalidRule => exact k_InvalidRule
    case u_InvalidRule => exact u_InvalidRule
    case y_InvalidRule => exact y_InvalidRule
    case x_InvalidRule => exact q_InvalidRule
    case g_InvalidHarm => exact PySem.W.mg_of X G a_InvalidHarm
    case k_InvalidHarm => exact k_InvalidHarm
    case u_InvalidHarm => exact u_InvalidHarm
    case y_InvalidHarm => exact y_InvalidHarm
    case x_InvalidHarm => exact q_InvalidHarm
    case e_EVENTS => exact fun hK hM hg => g_const (v := (.ref y_EVENTS)) (PySem.W.mg_of X G a_EVENTS) (rv_ref y_EVENTS) (fun C hC => (rep_tup hC l_EVENTS (Nat.le_of_ble_eq_true (by rfl)) (.cons (rv_ref y_EVENTS_0) (.cons (rv_ref y_EVENTS_1) (.cons (rv_ref y_EVENTS_2) (.cons (rv_ref y_EVENTS_3) (.cons (rv_ref y_EVENTS_4) (.cons (rv_ref y_EVENTS_5) (.cons (rv_ref y_EVENTS_6) (.cons (rv_ref y_EVENTS_7) (.cons (rv_ref y_EVENTS_8) (.cons (rv_ref y_EVENTS_9) (.cons (rv_ref y_EVENTS_10) (.cons (rv_ref y_EVENTS_11) (.cons (rv_ref y_EVENTS_12) (.cons (rv_ref y_EVENTS_13) (.cons (rv_ref y_EVENTS_14) (.cons (rv_ref y_EVENTS_15) (.cons (rv_ref y_EVENTS_16) (.cons (rv_ref y_EVENTS_17) .nil)))))))))))))))))) (.cons (rep_tup hC l_EVENTS_0 (Nat.le_of_ble_eq_true (by rfl)) (.cons (rv_str t_clear (by kernel_rfl)) (.cons (rv_int 0) .nil)) (.cons (rep_str (s := t_clear) (by decide +kernel)) (.cons (.int _) .nil))) (.cons (rep_tup hC l_EVENTS_1 (Nat.le_of_ble_eq_true (by rfl)) (.cons (rv_str t_clear (by kernel_rfl)) (.cons (rv_int 1) .nil)) (.cons (rep_str (s := t_clear) (by decide +kernel)) (.cons (.int _) .nil))) (.cons (rep_tup hC l_EVENTS_2 (Nat.le_of_ble_eq_true (by rfl)) (.cons (rv_str t_come (by kernel_rfl)) (.cons (rv_int 0) .nil)) (.cons (rep_str (s := t_come) (by decide +kernel)) (.cons (.int _) .nil))) (.cons (rep_tup hC l_EVENTS_3 (Nat.le_of_ble_eq_true (by rfl)) (.cons (rv_str t_come (by kernel_rfl)) (.cons (rv_int 1) .nil)) (.cons (rep_str (s := t_come) (by decide +kernel)) (.cons (.int _) .nil))) (.cons (rep_tup hC l_EVENTS_4 (Nat.le_of_ble_eq_true (by rfl)) (.cons (rv_str t_come (by kernel_rfl)) (.cons (rv_int 2) .nil)) (.cons (rep_str (s := t_come) (by decide +kernel)) (.cons (.int _) .nil))) (.cons (rep_tup hC l_EVENTS_5 (Nat.le_of_ble_eq_true (by rfl)) (.cons (rv_str t_court (by kernel_rfl)) (.cons (rv_int 0) .nil)) (.cons (rep_str (s := t_court) (by decide +kernel)) (.cons (.int _) .nil))) (.cons (rep_tup hC l_EVENTS_6 (Nat.le_of_ble_eq_true (by rfl)) (.cons (rv_str t_court (by kernel_rfl)) (.cons (rv_int 1) .nil)) (.cons (rep_str (s := t_court) (by decide +kernel)) (.cons (.int _) .nil))) (.cons (rep_tup hC l_EVENTS_7 (Nat.le_of_ble_eq_true (by rfl)) (.cons (rv_str t_morning (by kernel_rfl)) .nil) (.cons (rep_str (s := t_morning) (by decide +kernel)) .nil)) (.cons (rep_tup hC l_EVENTS_8 (Nat.le_of_ble_eq_true (by rfl)) (.cons (rv_str t_paper (by kernel_rfl)) (.cons (rv_int 0) .nil)) (.cons (rep_str (s := t_paper) (by decide +kernel)) (.cons (.int _) .nil))) (.cons (rep_tup hC l_EVENTS_9 (Nat.le_of_ble_eq_true (by rfl)) (.cons (rv_str t_paper (by kernel_rfl)) (.cons (rv_int 1) .nil)) (.cons (rep_str (s := t_paper) (by decide +kernel)) (.cons (.int _) .nil))) (.cons (rep_tup hC l_EVENTS_10 (Nat.le_of_ble_eq_true (by rfl)) (.cons (rv_str t_say (by kernel_rfl)) (.cons (rv_int 0) (.cons (rv_str t_always (by kernel_rfl)) .nil))) (.cons (rep_str (s := t_say) (by decide +kernel)) (.cons (.int _) (.cons (rep_str (s := t_always) (by decide +kernel)) .nil)))) (.cons (rep_tup hC l_EVENTS_11 (Nat.le_of_ble_eq_true (by rfl)) (.cons (rv_str t_say (by kernel_rfl)) (.cons (rv_int 0) (.cons (rv_str t_bar (by kernel_rfl)) .nil))) (.cons (rep_str (s := t_say) (by decide +kernel)) (.cons (.int _) (.cons (rep_str (s := t_bar) (by decide +kernel)) .nil)))) (.cons (rep_tup hC l_EVENTS_12 (Nat.le_of_ble_eq_true (by rfl)) (.cons (rv_str t_say (by kernel_rfl)) (.cons (rv_int 0) (.cons (rv_str t_no (by kernel_rfl)) .nil))) (.cons (rep_str (s := t_say) (by decide +kernel)) (.cons (.int _) (.cons (rep_str (s := t_no) (by decide +kernel)) .nil)))) (.cons (rep_tup hC l_EVENTS_13 (Nat.le_of_ble_eq_true (by rfl)) (.cons (rv_str t_say (by kernel_rfl)) (.cons (rv_int 0) (.cons (rv_str t_once (by kernel_rfl)) .nil))) (.cons (rep_str (s := t_say) (by decide +kernel)) (.cons (.int _) (.cons (rep_str (s := t_once) (by decide +kernel)) .nil)))) (.cons (rep_tup hC l_EVENTS_14 (Nat.le_of_ble_eq_true (by rfl)) (.cons (rv_str t_say (by kernel_rfl)) (.cons (rv_int 1) (.cons (rv_str t_always (by kernel_rfl)) .nil))) (.cons (rep_str (s := t_say) (by decide +kernel)) (.cons (.int _) (.cons (rep_str (s := t_always) (by decide +kernel)) .nil)))) (.cons (rep_tup hC l_EVENTS_15 (Nat.le_of_ble_eq_true (by rfl)) (.cons (rv_str t_say (by kernel_rfl)) (.cons (rv_int 1) (.cons (rv_str t_bar (by kernel_rfl)) .nil))) (.cons (rep_str (s := t_say) (by decide +kernel)) (.cons (.int _) (.cons (rep_str (s := t_bar) (by decide +kernel)) .nil)))) (.cons (rep_tup hC l_EVENTS_16 (Nat.le_of_ble_eq_true (by rfl)) (.cons (rv_str t_say (by kernel_rfl)) (.cons (rv_int 1) (.cons (rv_str t_no (by kernel_rfl)) .nil))) (.cons (rep_str (s := t_say) (by decide +kernel)) (.cons (.int _) (.cons (rep_str (s := t_no) (by decide +kernel)) .nil)))) (.cons (rep_tup hC l_EVENTS_17 (Nat.le_of_ble_eq_true (by rfl)) (.cons (rv_str t_say (by kernel_rfl)) (.cons (rv_int 1) (.cons (rv_str t_once (by kernel_rfl)) .nil))) (.cons (rep_str (s := t_say) (by decide +kernel)) (.cons (.int _) (.cons (rep_str (s := t_once) (by decide +kernel)) .nil)))) .nil)))))))))))))))))))) nm_EVENTS hK hM hg
    case e_HARMS => exact fun hK hM hg => g_const (v := (.ref y_HARMS)) (PySem.W.mg_of X G a_HARMS) (rv_ref y_HARMS) (fun C hC => (rep_tup hC l_HARMS (Nat.le_of_ble_eq_true (by rfl)) (.cons (rv_str t_kept (by kernel_rfl)) (.cons (rv_str t_nobody (by kernel_rfl)) (.cons (rv_str t_two (by kernel_rfl)) (.cons (rv_str t_wrong (by kernel_rfl)) .nil)))) (.cons (rep_str (s := t_kept) (by decide +kernel)) (.cons (rep_str (s := t_nobody) (by decide +kernel)) (.cons (rep_str (s := t_two) (by decide +kernel)) (.cons (rep_str (s := t_wrong) (by decide +kernel)) .nil)))))) nm_HARMS hK hM hg
    case e_OTHER => exact fun hK hM hg => g_const (v := (.int 2)) (PySem.W.mg_of X G a_OTHER) (rv_int 2) (fun C hC => (.int _)) nm_OTHER hK hM hg
    case e_PART_NAMES => exact fun hK hM hg => g_const (v := (.ref y_PART_NAMES)) (PySem.W.mg_of X G a_PART_NAMES) (rv_ref y_PART_NAMES) (fun C hC => (rep_tup hC l_PART_NAMES (Nat.le_of_ble_eq_true (by rfl)) (.cons (rv_str t_words (by kernel_rfl)) (.cons (rv_str t_bars (by kernel_rfl)) (.cons (rv_str t_lag (by kernel_rfl)) (.cons (rv_str t_court (by kernel_rfl)) (.cons (rv_str t_once (by kernel_rfl)) (.cons (rv_str t_void (by kernel_rfl)) (.cons (rv_str t_paper (by kernel_rfl)) .nil))))))) (.cons (rep_str (s := t_words) (by decide +kernel)) (.cons (rep_str (s := t_bars) (by decide +kernel)) (.cons (rep_str (s := t_lag) (by decide +kernel)) (.cons (rep_str (s := t_court) (by decide +kernel)) (.cons (rep_str (s := t_once) (by decide +kernel)) (.cons (rep_str (s := t_void) (by decide +kernel)) (.cons (rep_str (s := t_paper) (by decide +kernel)) .nil))))))))) nm_PART_NAMES hK hM hg
    case e_VALUES => exact fun hK hM hg => g_const (v := (.ref y_VALUES)) (PySem.W.mg_of X G a_VALUES) (rv_ref y_VALUES) (fun C hC => (rep_tup hC l_VALUES (Nat.le_of_ble_eq_true (by rfl)) (.cons (rv_ref y_VALUES_0) (.cons (rv_ref y_VALUES_1) (.cons (rv_ref y_VALUES_2) (.cons (rv_ref y_VALUES_3) (.cons (rv_ref y_VALUES_4) (.cons (rv_ref y_VALUES_5) (.cons (rv_ref y_VALUES_6) .nil))))))) (.cons (rep_tup hC l_VALUES_0 (Nat.le_of_ble_eq_true (by rfl)) (.cons (rv_str t_both (by kernel_rfl)) (.cons (rv_str t_either (by kernel_rfl)) (.cons (rv_str t_last (by kernel_rfl)) .nil))) (.cons (rep_str (s := t_both) (by decide +kernel)) (.cons (rep_str (s := t_either) (by decide +kernel)) (.cons (rep_str (s := t_last) (by decide +kernel)) .nil)))) (.cons (rep_tup hC l_VALUES_1 (Nat.le_of_ble_eq_true (by rfl)) (.cons (rv_str t_own (by kernel_rfl)) (.cons (rv_str t_win (by kernel_rfl)) .nil)) (.cons (rep_str (s := t_own) (by decide +kernel)) (.cons (rep_str (s := t_win) (by decide +kernel)) .nil))) (.cons (rep_tup hC l_VALUES_2 (Nat.le_of_ble_eq_true (by rfl)) (.cons (rv_str t_morning (by kernel_rfl)) (.cons (rv_str t_now (by kernel_rfl)) .nil)) (.cons (rep_str (s := t_morning) (by decide +kernel)) (.cons (rep_str (s := t_now) (by decide +kernel)) .nil))) (.cons (rep_tup hC l_VALUES_3 (Nat.le_of_ble_eq_true (by rfl)) (.cons (rv_str t_morning (by kernel_rfl)) (.cons (rv_str t_now (by kernel_rfl)) .nil)) (.cons (rep_str (s := t_morning) (by decide +kernel)) (.cons (rep_str (s := t_now) (by decide +kernel)) .nil))) (.cons (rep_tup hC l_VALUES_4 (Nat.le_of_ble_eq_true (by rfl)) (.cons (rv_str t_day (by kernel_rfl)) (.cons (rv_str t_use (by kernel_rfl)) .nil)) (.cons (rep_str (s := t_day) (by decide +kernel)) (.cons (rep_str (s := t_use) (by decide +kernel)) .nil))) (.cons (rep_tup hC l_VALUES_5 (Nat.le_of_ble_eq_true (by rfl)) (.cons (rv_bl false) (.cons (rv_bl true) .nil)) (.cons (.bl _) (.cons (.bl _) .nil))) (.cons (rep_tup hC l_VALUES_6 (Nat.le_of_ble_eq_true (by rfl)) (.cons (rv_bl false) (.cons (rv_bl true) .nil)) (.cons (.bl _) (.cons (.bl _) .nil))) .nil))))))))) nm_VALUES hK hM hg
    case b_all => exact PySem.W.mg_none_of X G b_all
    case b_any => exact PySem.W.mg_none_of X G b_any
    case b_bool => exact PySem.W.mg_none_of X G b_bool
    case b_int => exact PySem.W.mg_none_of X G b_int
    case b_isinstance => exact PySem.W.mg_none_of X G b_isinstance
    case b_len => exact PySem.W.mg_none_of X G b_len
    case b_list => exact PySem.W.mg_none_of X G b_list
    case b_min => exact PySem.W.mg_none_of X G b_min
    case b_range => exact PySem.W.mg_none_of X G b_range
    case b_sorted => exact PySem.W.mg_none_of X G b_sorted
    case b_str => exact PySem.W.mg_none_of X G b_str
    case b_tuple => exact PySem.W.mg_none_of X G b_tuple
    case b_zip => exact PySem.W.mg_none_of X G b_zip
  exact ⟨_, fun s v => .of_eq rfl, fun base _ _ => law_imp hk (ok_law T)⟩
end K05
end WF

set_option Elab.async false
set_option linter.all false
open PySem PySem.W PyProof.Rows
set_option maxRecDepth 100000 in
set_option maxHeartbeats 0 in
theorem PySem.Challenge.cw_whofetches_k05_who_can_alone_holds : PySem.Challenge.rw_whofetches_k05_who_can_alone.Holds := by
  w_on; o_law; k_head; (case hw => w_witness2)
  k_fill
  refine L2.walk_of (l := PySem.Challenge.rw_whofetches_k05_who_can_alone) (n := 63) (k := 9) (x := "script") (CX := fun w => L2.CX PySem.Challenge.rw_whofetches_k05_who_can_alone.prog w) (sp := fun w => WF.spLaw _) rfl (by decide) rfl ⟨rfl, by decide, by decide⟩ (fun w h Y => PySem.W.kIn_of Y) ?F (fun _ _ a ns hl _ hS => ⟨a, ns, rfl, hS, hl, fun _ => rfl⟩) fun _ _ _ _ _ ⟨_, _, _, _, _, _, _, _, _, _, _, _, z⟩ => z
  case F =>
    intro w mg fa h KX G hmg
    refine' WF.K05.all_mk WF.K05.keeps KX G hmg ?a_is_same ?l_is_same ?c_is_same ?k_is_same ?a_is_rule ?l_is_rule ?c_is_rule ?k_is_rule ?a_need_rule ?l_need_rule ?c_need_rule ?k_need_rule ?a_need_harm ?l_need_harm ?c_need_harm ?k_need_harm ?a_begin ?l_begin ?c_begin ?k_begin ?a_put_at ?l_put_at ?c_put_at ?k_put_at ?a_worded ?l_worded ?c_worded ?k_worded ?a_spoken ?l_spoken ?c_spoken ?k_spoken ?a_may ?l_may ?c_may ?k_may ?a_used_up ?l_used_up ?c_used_up ?k_used_up ?a_come ?l_come ?c_come ?k_come ?a_morning ?l_morning ?c_morning ?k_morning ?a_step ?l_step ?c_step ?k_step ?a_truly_may ?l_truly_may ?c_truly_may ?k_truly_may ?a_harms_of ?l_harms_of ?c_harms_of ?k_harms_of ?a_events_of ?l_events_of ?c_events_of ?k_events_of ?a_search ?l_search ?c_search ?k_search ?a_way_to ?l_way_to ?c_way_to ?k_way_to ?a_alone ?l_alone ?c_alone ?k_alone ?a__law_pot ?l__law_pot ?c__law_pot ?k__law_pot ?a__law_lot ?l__law_lot ?c__law_lot ?k__law_lot ?a__law_pick ?l__law_pick ?c__law_pick ?k__law_pick ?a__law_values ?l__law_values ?c__law_values ?k__law_values ?a__law_rule ?l__law_rule ?c__law_rule ?k__law_rule ?a__law_words ?l__law_words ?c__law_words ?k__law_words ?a__law_events ?l__law_events ?c__law_events ?k__law_events ?a__law_new ?l__law_new ?c__law_new ?k__law_new ?a__law_said ?l__law_said ?c__law_said ?k__law_said ?a__law_may ?l__law_may ?c__law_may ?k__law_may ?a__law_comes ?l__law_comes ?c__law_comes ?k__law_comes ?a__law_on ?l__law_on ?c__law_on ?k__law_on ?a__law_rights ?l__law_rights ?c__law_rights ?k__law_rights ?a__law_harms ?l__law_harms ?c__law_harms ?k__law_harms ?a__law_graph ?l__law_graph ?c__law_graph ?k__law_graph ?a__law_own ?l__law_own ?c__law_own ?k__law_own ?a_law ?l_law ?c_law ?k_law ?a_FetchError ?k_FetchError ?u_FetchError ?y_FetchError ?q_FetchError ?a_InvalidRule ?k_InvalidRule ?u_InvalidRule ?y_InvalidRule ?q_InvalidRule ?a_InvalidHarm ?k_InvalidHarm ?u_InvalidHarm ?y_InvalidHarm ?q_InvalidHarm ?a_EVENTS ?l_EVENTS ?l_EVENTS_0 ?l_EVENTS_1 ?l_EVENTS_2 ?l_EVENTS_3 ?l_EVENTS_4 ?l_EVENTS_5 ?l_EVENTS_6 ?l_EVENTS_7 ?l_EVENTS_8 ?l_EVENTS_9 ?l_EVENTS_10 ?l_EVENTS_11 ?l_EVENTS_12 ?l_EVENTS_13 ?l_EVENTS_14 ?l_EVENTS_15 ?l_EVENTS_16 ?l_EVENTS_17 ?a_HARMS ?l_HARMS ?a_OTHER ?a_PART_NAMES ?l_PART_NAMES ?a_VALUES ?l_VALUES ?l_VALUES_0 ?l_VALUES_1 ?l_VALUES_2 ?l_VALUES_3 ?l_VALUES_4 ?l_VALUES_5 ?l_VALUES_6 ?b_all ?b_any ?b_bool ?b_int ?b_isinstance ?b_len ?b_list ?b_min ?b_range ?b_sorted ?b_str ?b_tuple ?b_zip
    (case a_is_same => k_is)
    (case l_is_same => k_is)
    (case c_is_same => k_is)
    (case k_is_same => k_is)
    (case a_is_rule => k_is)
    (case l_is_rule => k_is)
    (case c_is_rule => k_is)
    (case k_is_rule => k_is)
    (case a_need_rule => k_is)
    (case l_need_rule => k_is)
    (case c_need_rule => k_is)
    (case k_need_rule => k_is)
    (case a_need_harm => k_is)
    (case l_need_harm => k_is)
    (case c_need_harm => k_is)
    (case k_need_harm => k_is)
    (case a_begin => k_is)
    (case l_begin => k_is)
    (case c_begin => k_is)
    (case k_begin => k_is)
    (case a_put_at => k_is)
    (case l_put_at => k_is)
    (case c_put_at => k_is)
    (case k_put_at => k_is)
    (case a_worded => k_is)
    (case l_worded => k_is)
    (case c_worded => k_is)
    (case k_worded => k_is)
    (case a_spoken => k_is)
    (case l_spoken => k_is)
    (case c_spoken => k_is)
    (case k_spoken => k_is)
    (case a_may => k_is)
    (case l_may => k_is)
    (case c_may => k_is)
    (case k_may => k_is)
    (case a_used_up => k_is)
    (case l_used_up => k_is)
    (case c_used_up => k_is)
    (case k_used_up => k_is)
    (case a_come => k_is)
    (case l_come => k_is)
    (case c_come => k_is)
    (case k_come => k_is)
    (case a_morning => k_is)
    (case l_morning => k_is)
    (case c_morning => k_is)
    (case k_morning => k_is)
    (case a_step => k_is)
    (case l_step => k_is)
    (case c_step => k_is)
    (case k_step => k_is)
    (case a_truly_may => k_is)
    (case l_truly_may => k_is)
    (case c_truly_may => k_is)
    (case k_truly_may => k_is)
    (case a_harms_of => k_is)
    (case l_harms_of => k_is)
    (case c_harms_of => k_is)
    (case k_harms_of => k_is)
    (case a_events_of => k_is)
    (case l_events_of => k_is)
    (case c_events_of => k_is)
    (case k_events_of => k_is)
    (case a_search => k_is)
    (case l_search => k_is)
    (case c_search => k_is)
    (case k_search => k_is)
    (case a_way_to => k_is)
    (case l_way_to => k_is)
    (case c_way_to => k_is)
    (case k_way_to => k_is)
    (case a_alone => k_is)
    (case l_alone => k_is)
    (case c_alone => k_is)
    (case k_alone => k_is)
    (case a__law_pot => k_is)
    (case l__law_pot => k_is)
    (case c__law_pot => k_is)
    (case k__law_pot => k_is)
    (case a__law_lot => k_is)
    (case l__law_lot => k_is)
    (case c__law_lot => k_is)
    (case k__law_lot => k_is)
    (case a__law_pick => k_is)
    (case l__law_pick => k_is)
    (case c__law_pick => k_is)
    (case k__law_pick => k_is)
    (case a__law_values => k_is)
    (case l__law_values => k_is)
    (case c__law_values => k_is)
    (case k__law_values => k_is)
    (case a__law_rule => k_is)
    (case l__law_rule => k_is)
    (case c__law_rule => k_is)
    (case k__law_rule => k_is)
    (case a__law_words => k_is)
    (case l__law_words => k_is)
    (case c__law_words => k_is)
    (case k__law_words => k_is)
    (case a__law_events => k_is)
    (case l__law_events => k_is)
    (case c__law_events => k_is)
    (case k__law_events => k_is)
    (case a__law_new => k_is)
    (case l__law_new => k_is)
    (case c__law_new => k_is)
    (case k__law_new => k_is)
    (case a__law_said => k_is)
    (case l__law_said => k_is)
    (case c__law_said => k_is)
    (case k__law_said => k_is)
    (case a__law_may => k_is)
    (case l__law_may => k_is)
    (case c__law_may => k_is)
    (case k__law_may => k_is)
    (case a__law_comes => k_is)
    (case l__law_comes => k_is)
    (case c__law_comes => k_is)
    (case k__law_comes => k_is)
    (case a__law_on => k_is)
    (case l__law_on => k_is)
    (case c__law_on => k_is)
    (case k__law_on => k_is)
    (case a__law_rights => k_is)
    (case l__law_rights => k_is)
    (case c__law_rights => k_is)
    (case k__law_rights => k_is)
    (case a__law_harms => k_is)
    (case l__law_harms => k_is)
    (case c__law_harms => k_is)
    (case k__law_harms => k_is)
    (case a__law_graph => k_is)
    (case l__law_graph => k_is)
    (case c__law_graph => k_is)
    (case k__law_graph => k_is)
    (case a__law_own => k_is)
    (case l__law_own => k_is)
    (case c__law_own => k_is)
    (case k__law_own => k_is)
    (case a_law => k_is)
    (case l_law => k_is)
    (case c_law => k_is)
    (case k_law => k_is)
    (case a_FetchError => k_is)
    (case k_FetchError => k_is)
    (case u_FetchError => k_is)
    (case y_FetchError => k_is)
    (case q_FetchError => kernel_rfl)
    (case a_InvalidRule => k_is)
    (case k_InvalidRule => k_is)
    (case u_InvalidRule => k_is)
    (case y_InvalidRule => k_is)
    (case q_InvalidRule => kernel_rfl)
    (case a_InvalidHarm => k_is)
    (case k_InvalidHarm => k_is)
    (case u_InvalidHarm => k_is)
    (case y_InvalidHarm => k_is)
    (case q_InvalidHarm => kernel_rfl)
    (case a_EVENTS => k_is)
    (case l_EVENTS => k_is)
    (case l_EVENTS_0 => k_is)
    (case l_EVENTS_1 => k_is)
    (case l_EVENTS_2 => k_is)
    (case l_EVENTS_3 => k_is)
    (case l_EVENTS_4 => k_is)
    (case l_EVENTS_5 => k_is)
    (case l_EVENTS_6 => k_is)
    (case l_EVENTS_7 => k_is)
    (case l_EVENTS_8 => k_is)
    (case l_EVENTS_9 => k_is)
    (case l_EVENTS_10 => k_is)
    (case l_EVENTS_11 => k_is)
    (case l_EVENTS_12 => k_is)
    (case l_EVENTS_13 => k_is)
    (case l_EVENTS_14 => k_is)
    (case l_EVENTS_15 => k_is)
    (case l_EVENTS_16 => k_is)
    (case l_EVENTS_17 => k_is)
    (case a_HARMS => k_is)
    (case l_HARMS => k_is)
    (case a_OTHER => k_is)
    (case a_PART_NAMES => k_is)
    (case l_PART_NAMES => k_is)
    (case a_VALUES => k_is)
    (case l_VALUES => k_is)
    (case l_VALUES_0 => k_is)
    (case l_VALUES_1 => k_is)
    (case l_VALUES_2 => k_is)
    (case l_VALUES_3 => k_is)
    (case l_VALUES_4 => k_is)
    (case l_VALUES_5 => k_is)
    (case l_VALUES_6 => k_is)
    (case b_all => k_is)
    (case b_any => k_is)
    (case b_bool => k_is)
    (case b_int => k_is)
    (case b_isinstance => k_is)
    (case b_len => k_is)
    (case b_list => k_is)
    (case b_min => k_is)
    (case b_range => k_is)
    (case b_sorted => k_is)
    (case b_str => k_is)
    (case b_tuple => k_is)
    (case b_zip => k_is)
