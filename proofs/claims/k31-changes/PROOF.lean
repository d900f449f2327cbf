import PyProof.Rows.All
import PyProof.EqLayable
import PyProof.ReprRoads
import Wide.All
import OpenK.AllK
import Wide.FinOn
import HandS.ForExc
import HandS.ForMost
import HandS.Wide
import HandS.Style
import HandS.IsInst
import HandS.ExcInit
import HandS.ExcField
import HandS.Defaults
import HandS.Flow
import PyProof.RowDictHeap
import PyProof.FitsInt
import PySem.Challenge.RW_leastspare_k31_changes_or_one_more
set_option Elab.async false
set_option autoImplicit false
set_option linter.all false
/-! Mini: a small deterministic machine over a heap of cells. Plain Lean: no program of Python in sight. -/
namespace Mini
open PySem (Str PyData)
/-- values -/
inductive W where
  | non | bl (b : Bool) | int (i : Int) | str (s : Str) | ref (n : Nat)
  deriving DecidableEq
/-- what stands in a cell -/
inductive Cell where
  | lst (xs : List W)
  | tup (xs : List W)
  /-- a list that is read alone -/
  | fz (xs : List W)
  /-- a list that the text's top has written -/
  | cl (xs : List W)
  /-- a tuple that the text's top has written -/
  | ct (xs : List W)
  /-- a dict of texts and ints -/
  | dic (kvs : List (Sum Int Str × W))
  /-- an instance of the class with this number -/
  | ins (c : Nat) (fs : List (Str × W))
  /-- what an exception bears -/
  | xd (fs : List (Str × W))
abbrev MH := List Cell
/-- how a step ends -/
inductive R (α : Type) where
  | ok (a : α) (h : MH)
  | exc (c : Nat) (d : Option Nat) (h : MH)
  | bad
def R.bind {α β : Type} (r : R α) (f : α → MH → R β) : R β := match r with
  | .ok a h => f a h
  | .exc c d h => .exc c d h
  | .bad => .bad
abbrev Env := List (Option W)
abbrev E := Env → MH → R W
abbrev T := Env → MH → R Bool
abbrev A := Env → MH → R (List W)
abbrev F := List W → MH → R W
/-- how a statement ends -/
inductive Fl where
  | nx | rt (w : W) | bk | ct
inductive RS where
  | ok (f : Fl) (r : Env) (h : MH)
  | exc (c : Nat) (d : Option Nat) (r : Env) (h : MH)
  | bad
abbrev S := Env → MH → RS
/-! ### expressions -/
@[simp] def eVar (i : Nat) : E := fun r h => match r[i]? with
  | some (some w) => .ok w h
  | _ => .bad
@[simp] def eC (w : W) : E := fun _ h => .ok w h
@[simp] def eBin (g : W → W → MH → R W) (a b : E) : E := fun r h => (a r h).bind fun x h1 => (b r h1).bind fun y h2 => g x y h2
@[simp] def eUn (g : W → MH → R W) (a : E) : E := fun r h => (a r h).bind fun x h1 => g x h1
@[simp] def aNil : A := fun _ h => .ok [] h
@[simp] def aCons (e : E) (a : A) : A := fun r h => (e r h).bind fun x h1 => (a r h1).bind fun xs h2 => .ok (x :: xs) h2
def eTup (a : A) : E := fun r h => (a r h).bind fun xs h1 => if xs.length ≤ 1000 then .ok (.ref h1.length) (h1 ++ [.tup xs]) else .bad
def eLst (a : A) : E := fun r h => (a r h).bind fun xs h1 => if xs.length ≤ 1000 then .ok (.ref h1.length) (h1 ++ [.lst xs]) else .bad
def eDic0 : E := fun _ h => .ok (.ref h.length) (h ++ [.dic []])
@[simp] def eCall (f : F) (a : A) : E := fun r h => (a r h).bind f
/-- counted -/
@[simp] def aN (n : Nat) (a : A) : A := fun r h => (a r h).bind fun xs h1 => if xs.length = n then .ok xs h1 else .bad
/-- items by their places -/
def pick {α : Type} (is : List Nat) (l : List α) : List α := is.filterMap fun i => l[i]?
/-- f(a, .., k = b, ..): what stands at the places is are the parameters in order -/
@[simp] def eCallK (f : F) (is : List Nat) (a b : A) : E := fun r h => (a r h).bind fun xs h1 => (b r h1).bind fun ys h2 => f (pick is (xs ++ ys)) h2
/-- a built-in by its values -/
@[simp] def eFn (g : List W → MH → R W) (a : A) : E := fun r h => (a r h).bind g
/-! ### tests -/
/-- a value's truth -/
def tru (w : W) (h : MH) : Option Bool := match w with
  | .non => some false
  | .bl b => some b
  | .int i => some (i != 0)
  | .str s => if s.length ≤ 1000000 then some (s.length != 0) else none
  | .ref n => match h[n]? with
    | some (.lst xs) => some (!xs.isEmpty)
    | some (.fz xs) => some (!xs.isEmpty)
    | some (.cl xs) => some (!xs.isEmpty)
    | some (.tup xs) => some (!xs.isEmpty)
    | some (.ct xs) => some (!xs.isEmpty)
    | some (.dic kvs) => some (!kvs.isEmpty)
    | _ => none
@[simp] def tTru (a : E) : T := fun r h => (a r h).bind fun x h1 => match tru x h1 with
  | some b => .ok b h1
  | none => .bad
/-- a truth value -/
@[simp] def tBl (a : E) : T := fun r h => (a r h).bind fun x h1 => match x with
  | .bl b => .ok b h1
  | _ => .bad
@[simp] def tAnd (a b : T) : T := fun r h => (a r h).bind fun c h1 => if c = true then b r h1 else .ok false h1
@[simp] def tOr (a b : T) : T := fun r h => (a r h).bind fun c h1 => if c = true then .ok true h1 else b r h1
@[simp] def tNot (a : T) : T := fun r h => (a r h).bind fun c h1 => .ok (!c) h1
@[simp] def eIf (t : T) (a b : E) : E := fun r h => (t r h).bind fun c h1 => if c = true then a r h1 else b r h1
/-- and, or, not as values: truth values -/
@[simp] def eAnd (a b : E) : E := fun r h => (a r h).bind fun x h1 => match x with
  | .bl true => b r h1
  | .bl false => .ok (.bl false) h1
  | _ => .bad
@[simp] def eOr (a b : E) : E := fun r h => (a r h).bind fun x h1 => match x with
  | .bl true => .ok (.bl true) h1
  | .bl false => b r h1
  | _ => .bad
@[simp] def eNot (a : E) : E := fun r h => (a r h).bind fun x h1 => match x with
  | .bl b => .ok (.bl (!b)) h1
  | _ => .bad
/-- a OP b OP' c -/
@[simp] def eChain (g g' : W → W → MH → R W) (a b c : E) : E := fun r h => (a r h).bind fun x h1 => (b r h1).bind fun y h2 => (g x y h2).bind fun z h3 => match z with
  | .bl true => (c r h3).bind fun u h4 => g' y u h4
  | .bl false => .ok (.bl false) h3
  | _ => .bad
/-! ### operators -/
def intOp (f : Int → Int → Int) : W → W → MH → R W := fun x y h => match x, y with
  | .int i, .int j => .ok (.int (f i j)) h
  | _, _ => .bad
def intOpC (c : Int → Int → Bool) (f : Int → Int → Int) : W → W → MH → R W := fun x y h => match x, y with
  | .int i, .int j => if c i j = true then .ok (.int (f i j)) h else .bad
  | _, _ => .bad
def intCmp (f : Int → Int → Bool) : W → W → MH → R W := fun x y h => match x, y with
  | .int i, .int j => .ok (.bl (f i j)) h
  | _, _ => .bad
def two64 : Nat := 18446744073709551616
def mulOk (i j : Int) : Bool := decide (i.natAbs < two64) || decide (j.natAbs < two64) || decide (i.natAbs.log2 + j.natAbs.log2 < 1000000)
def divOk (_ j : Int) : Bool := decide (0 < j) && decide (j.natAbs.log2 < 9000)
def modOk (_ j : Int) : Bool := decide (0 < j)
def powOk (i j : Int) : Bool := decide (0 ≤ j) && decide (j ≤ 1000000) && decide (i.natAbs < two64)
def gSub := intOp fun i j => i - j
def gMul := intOpC mulOk fun i j => i * j
def gDiv := intOpC divOk fun i j => i / j
def gMod := intOpC modOk fun i j => i % j
def gPow := intOpC powOk fun i j => i ^ j.toNat
def gLt := intCmp fun i j => decide (i < j)
def gLe := intCmp fun i j => decide (i ≤ j)
def gGt := intCmp fun i j => decide (j < i)
def gGe := intCmp fun i j => decide (j ≤ i)
/-- the items of a sequence -/
def seqAt (h : MH) (n : Nat) : Option (List W) := match h[n]? with
  | some (.lst xs) => some xs
  | some (.fz xs) => some xs
  | some (.cl xs) => some xs
  | some (.tup xs) => some xs
  | some (.ct xs) => some xs
  | _ => none
/-- a + b: ints, texts, two lists of the call's own -/
def gAdd : W → W → MH → R W := fun x y h => match x, y with
  | .int i, .int j => .ok (.int (i + j)) h
  | .str s, .str t => if s.length + t.length ≤ 1000000 then .ok (.str (s ++ t)) h else .bad
  | .ref a, .ref b => match h[a]?, h[b]? with
    | some (.lst xs), some (.lst ys) => if xs.length + ys.length ≤ 10000000 then .ok (.ref h.length) (h ++ [.lst (xs ++ ys)]) else .bad
    | _, _ => .bad
  | _, _ => .bad
def gNeg : W → MH → R W := fun x h => match x with
  | .int i => .ok (.int (-i)) h
  | _ => .bad
/-- data: what a value is, to a depth -/
def dataAll (f : W → Option PyData) : List W → Option (List PyData)
  | [] => some []
  | x :: xs => match f x, dataAll f xs with
    | some u, some us => some (u :: us)
    | _, _ => none
def dataOf (h : MH) : Nat → W → Option PyData
  | 0, _ => none
  | n + 1, w => match w with
    | .non => some .none
    | .bl b => some (.bool b)
    | .int i => some (.int i)
    | .str s => some (.str s)
    | .ref a => match h[a]? with
      | some (.lst xs) => (dataAll (dataOf h n) xs).map .list
      | some (.fz xs) => (dataAll (dataOf h n) xs).map .list
      | some (.cl xs) => (dataAll (dataOf h n) xs).map .list
      | some (.tup xs) => (dataAll (dataOf h n) xs).map .tuple
      | some (.ct xs) => (dataAll (dataOf h n) xs).map .tuple
      | _ => none
def dep : Nat := 12
/-- two values that stand for themselves -/
def scl : W → W → Bool
  | .non, .non => true | .non, .int _ => true | .non, .bl _ => true | .non, .str _ => true
  | .int _, .non => true | .bl _, .non => true | .str _, .non => true
  | .int _, .int _ => true | .bl _, .bl _ => true | .str _, .str _ => true
  | .int _, .str _ => true | .bl _, .str _ => true
  | .str _, .int _ => true | .str _, .bl _ => true
  | _, _ => false
/-- == -/
def eqB (x y : W) (h : MH) : Option Bool :=
  if scl x y = true then some (decide (x = y)) else
    match dataOf h dep x, dataOf h dep y with
    | some d, some e => if PySem.SeqAt.shaped d = true ∧ PySem.SeqAt.shaped e = true then some (PyData.eqv d e) else none
    | _, _ => none
def gEq : W → W → MH → R W := fun x y h => match eqB x y h with
  | some b => .ok (.bl b) h
  | none => .bad
def gNe : W → W → MH → R W := fun x y h => match eqB x y h with
  | some b => .ok (.bl (!b)) h
  | none => .bad
def gIsN : W → W → MH → R W := fun x y h => match y with
  | .non => .ok (.bl (decide (x = .non))) h
  | _ => .bad
def gNotN : W → W → MH → R W := fun x y h => match y with
  | .non => .ok (.bl (!decide (x = .non))) h
  | _ => .bad
/-- the place of an index -/
def ixOf (n : Nat) (i : Int) : Option Nat := if 0 ≤ i then (if i < n then some i.toNat else none) else if -(n : Int) ≤ i then some (i + n).toNat else none
def gIx : W → W → MH → R W := fun x y h => match x, y with
  | .ref a, .int i => match seqAt h a with
    | some xs => match (ixOf xs.length i).bind fun j => xs[j]? with
      | some w => .ok w h
      | none => .bad
    | none => .bad
  | _, _ => .bad
/-- where a bound of a slice falls among n items; d if there is none -/
def sIx (n d : Nat) : (Option Int) → Nat
  | none => d
  | some i => if i < 0 then (i + (n : Int)).toNat else min i.toNat n
def cut (xs : List W) (lo hi : Option Int) : List W := (xs.drop (sIx xs.length 0 lo)).take (sIx xs.length xs.length hi - sIx xs.length 0 lo)
/-! ### built-in functions, by their values -/
def fLen : List W → MH → R W := fun ws h => match ws with
  | [.ref a] => match seqAt h a with
    | some xs => .ok (.int xs.length) h
    | none => .bad
  | [.str s] => if s.length ≤ 1000000 then .ok (.int s.length) h else .bad
  | _ => .bad
def fAbs : List W → MH → R W := fun ws h => match ws with
  | [.int i] => .ok (.int (if i < 0 then -i else i)) h
  | _ => .bad
def fInt : List W → MH → R W := fun ws h => match ws with
  | [.int i] => .ok (.int i) h
  | _ => .bad
def fMax2 : List W → MH → R W := fun ws h => match ws with
  | [.int i, .int j] => .ok (.int (if j > i then j else i)) h
  | _ => .bad
def fMin2 : List W → MH → R W := fun ws h => match ws with
  | [.int i, .int j] => .ok (.int (if j < i then j else i)) h
  | _ => .bad
def intsOf : List W → Option (List Int)
  | [] => some []
  | .int i :: r => (intsOf r).map (i :: ·)
  | _ :: _ => none
def fSum : List W → MH → R W := fun ws h => match ws with
  | [.ref a] => match h[a]? with
    | some (.lst xs) => match intsOf xs with
      | some ns => .ok (.int ns.sum) h
      | none => .bad
    | _ => .bad
  | _ => .bad
def fList : List W → MH → R W := fun ws h => match ws with
  | [.ref a] => match seqAt h a with
    | some xs => .ok (.ref h.length) (h ++ [.lst xs])
    | none => .bad
  | _ => .bad
/-- data, a flat dict too -/
def sclData : W → Option PyData
  | .non => some .none
  | .bl b => some (.bool b)
  | .int i => some (.int i)
  | .str s => some (.str s)
  | .ref _ => none
def keyData : Sum Int Str → PyData
  | .inl i => .int i
  | .inr s => .str s
def kvData : List (Sum Int Str × W) → Option (List (PyData × PyData))
  | [] => some []
  | p :: r => match sclData p.2, kvData r with
    | some d, some ds => some ((keyData p.1, d) :: ds)
    | _, _ => none
def dicAt (h : MH) : W → Option (List (Sum Int Str × W))
  | .ref a => match h[a]? with
    | some (.dic kvs) => some kvs
    | _ => none
  | _ => none
def dataR (h : MH) (w : W) : Option PyData := match dicAt h w with
  | some kvs => (kvData kvs).map .dict
  | none => dataOf h dep w
def fRepr : List W → MH → R W := fun ws h => match ws with
  | [w] => match dataR h w with
    | some d => if d.showable = true ∧ d.depth ≤ 64 ∧ d.shown.length ≤ 10000000 then .ok (.str d.shown) h else .bad
    | none => .bad
  | _ => .bad
/-- isinstance(x, T) for a built-in T -/
inductive Ty where
  | tInt | tBool | tStr | tList | tTuple | tDict
  deriving DecidableEq
def kindOf (w : W) (h : MH) : Option Ty := match w with
  | .non => none
  | .bl _ => some .tBool
  | .int _ => some .tInt
  | .str _ => some .tStr
  | .ref n => match h[n]? with
    | some (.lst _) => some .tList
    | some (.fz _) => some .tList
    | some (.cl _) => some .tList
    | some (.tup _) => some .tTuple
    | some (.ct _) => some .tTuple
    | some (.dic _) => some .tDict
    | _ => none
/-- is the kind known, and does the kind k belong to t -/
def known (w : W) (h : MH) : Bool := match w with
  | .ref n => match h[n]? with
    | some (.lst _) => true
    | some (.fz _) => true
    | some (.cl _) => true
    | some (.tup _) => true
    | some (.ct _) => true
    | some (.dic _) => true
    | _ => false
  | _ => true
def isTy (k : Option Ty) (t : Ty) : Bool := k == some t || (k == some .tBool && t == .tInt)
def gIsi (t : Ty) : W → MH → R W := fun w h => if known w h = true then .ok (.bl (isTy (kindOf w h) t)) h else .bad
def gIsi2 (t u : Ty) : W → MH → R W := fun w h => if known w h = true then .ok (.bl (isTy (kindOf w h) t || isTy (kindOf w h) u)) h else .bad
/-! ### statements -/
def sNx : S := fun r h => .ok .nx r h
def sSeq (a b : S) : S := fun r h => match a r h with
  | .ok .nx r1 h1 => b r1 h1
  | x => x
def sExpr (e : E) : S := fun r h => match e r h with
  | .ok _ h1 => .ok .nx r h1
  | .exc c d h1 => .exc c d r h1
  | .bad => .bad
def sRet (e : E) : S := fun r h => match e r h with
  | .ok w h1 => .ok (.rt w) r h1
  | .exc c d h1 => .exc c d r h1
  | .bad => .bad
def sBrk : S := fun r h => .ok .bk r h
def sCnt : S := fun r h => .ok .ct r h
def sIf (t : T) (a b : S) : S := fun r h => match t r h with
  | .ok c h1 => if c = true then a r h1 else b r h1
  | .exc c d h1 => .exc c d r h1
  | .bad => .bad
/-- targets -/
abbrev G := W → Env → MH → R Env
@[simp] def gSet (i : Nat) : G := fun w r h => .ok (r.set i (some w)) h
@[simp] def gAll : List G → List W → Env → MH → R Env
  | [], [], r, h => .ok r h
  | g :: gs, w :: ws, r, h => (g w r h).bind fun r1 h1 => gAll gs ws r1 h1
  | _, _, _, _ => .bad
/-- a, b, .. = (a tuple) -/
def gTupT (gs : List G) : G := fun w r h => match w with
  | .ref n => match h[n]? with
    | some (.tup xs) => gAll gs xs r h
    | some (.ct xs) => gAll gs xs r h
    | _ => .bad
  | _ => .bad
/-- o[i] = w, o a list -/
def putL (w : W) (r : Env) : W → W → MH → R Env := fun x y h => match x, y with
  | .ref a, .int k => match h[a]? with
    | some (.lst xs) => match ixOf xs.length k with
      | some j => .ok r (h.set a (.lst (xs.set j w)))
      | none => .bad
    | _ => .bad
  | _, _ => .bad
def gSubL (o i : E) : G := fun w r h => (o r h).bind fun x h1 => (i r h1).bind fun y h2 => putL w r x y h2
def sAsg (e : E) (g : G) : S := fun r h => match e r h with
  | .ok w h1 => match g w r h1 with
    | .ok r1 h2 => .ok .nx r1 h2
    | _ => .bad
  | .exc c d h1 => .exc c d r h1
  | .bad => .bad
def sSet (i : Nat) (e : E) : S := sAsg e (gSet i)
/-- a, b = e1, e2 and a, b, c = e1, e2, e3, without a tuple -/
@[simp] def setAll : List Nat → List W → Env → Option Env
  | [], [], r => some r
  | i :: is, w :: ws, r => setAll is ws (r.set i (some w))
  | _, _, _ => none
def sPar (is : List Nat) (a : A) : S := fun r h => match a r h with
  | .ok ws h1 => match setAll is ws r with
    | some r1 => .ok .nx r1 h1
    | none => .bad
  | .exc c d h1 => .exc c d r h1
  | .bad => .bad
/-- x op= e -/
def sAug (i : Nat) (g : W → W → MH → R W) (e : E) : S := fun r h => match r[i]? with
  | some (some x) => match e r h with
    | .ok y h1 => match g x y h1 with
      | .ok z h2 => .ok .nx (r.set i (some z)) h2
      | _ => .bad
    | .exc c d h1 => .exc c d r h1
    | .bad => .bad
  | _ => .bad
/-- two targets: a = b = e -/
def sAsg2 (e : E) (i j : Nat) : S := fun r h => match e r h with
  | .ok w h1 => .ok .nx ((r.set i (some w)).set j (some w)) h1
  | .exc c d h1 => .exc c d r h1
  | .bad => .bad
def sWhile (t : T) (b : S) : Nat → S
  | 0 => fun _ _ => .bad
  | n + 1 => fun r h => match t r h with
    | .ok true h1 => match b r h1 with
      | .ok .nx r2 h2 => sWhile t b n r2 h2
      | .ok .ct r2 h2 => sWhile t b n r2 h2
      | .ok .bk r2 h2 => .ok .nx r2 h2
      | x => x
    | .ok false h1 => .ok .nx r h1
    | .exc c d h1 => .exc c d r h1
    | .bad => .bad
/-- what a for walks: from a list or tuple, from a range -/
inductive Src where
  | lst (a : Nat)
  | tup (a : Nat)
  | rng (lo : Int) (n : Nat)
def lstAt (h : MH) (n : Nat) : Option (List W) := match h[n]? with
  | some (.lst xs) => some xs
  | some (.fz xs) => some xs
  | some (.cl xs) => some xs
  | _ => none
def tupAt (h : MH) (n : Nat) : Option (List W) := match h[n]? with
  | some (.tup xs) => some xs
  | some (.ct xs) => some xs
  | _ => none
/-- the item of a turn: bad, the end, an item -/
def Src.at : Src → Nat → MH → Option (Option W)
  | .lst a, i, h => (lstAt h a).map fun xs => xs[i]?
  | .tup a, i, h => (tupAt h a).map fun xs => xs[i]?
  | .rng lo n, i, _ => some (if i < n then some (.int (lo + i)) else none)
def sTurns (src : Src) (g : G) (b : S) : Nat → Nat → S
  | 0, _ => fun _ _ => .bad
  | k + 1, i => fun r h => match src.at i h with
    | none => .bad
    | some none => .ok .nx r h
    | some (some w) => match g w r h with
      | .ok r1 h1 => match b r1 h1 with
        | .ok .nx r2 h2 => sTurns src g b k (i + 1) r2 h2
        | .ok .ct r2 h2 => sTurns src g b k (i + 1) r2 h2
        | .ok .bk r2 h2 => .ok .nx r2 h2
        | x => x
      | _ => .bad
/-- what is walked, and how many turns there are at most -/
abbrev I := Env → MH → R (Src × Nat)
def iSeq (e : E) : I := fun r h => (e r h).bind fun w h1 => match w with
  | .ref a => match lstAt h1 a with
    | some xs => .ok (.lst a, xs.length + 1) h1
    | none => match tupAt h1 a with
      | some xs => .ok (.tup a, xs.length + 1) h1
      | none => .bad
  | _ => .bad
def rOk (i : Int) : Bool := decide (-4611686018427387904 ≤ i) && decide (i < 4611686018427387904)
def iRng1 (e : E) : I := fun r h => (e r h).bind fun w h1 => match w with
  | .int n => if rOk n = true then .ok (.rng 0 n.toNat, n.toNat + 1) h1 else .bad
  | _ => .bad
def iRng2 (a b : E) : I := fun r h => (a r h).bind fun x h1 => (b r h1).bind fun y h2 => match x, y with
  | .int i, .int j => if rOk i = true ∧ rOk j = true then .ok (.rng i (j - i).toNat, (j - i).toNat + 1) h2 else .bad
  | _, _ => .bad
def sFor (it : I) (g : G) (b : S) : S := fun r h => match it r h with
  | .ok (src, k) h1 => sTurns src g b k 0 r h1
  | .exc c d h1 => .exc c d r h1
  | .bad => .bad
/-- the list comprehension with one for -/
def wipe (r : Env) : List Nat → Env
  | [] => r
  | i :: is => (wipe r is).set i none
/-- an item onto the list that is made, and on -/
def lcAdd (D : Nat) (x : W) (k : MH → R W) : MH → R W := fun h => match h[D]? with
  | some (.lst acc) => if acc.length < 10000000 then k (h.set D (.lst (acc ++ [x]))) else .bad
  | _ => .bad
def lcTurns (src : Src) (g : G) (t : T) (e : E) (r : Env) (D : Nat) : Nat → Nat → MH → R W
  | 0, _, _ => .bad
  | k + 1, i, h => match src.at i h with
    | none => .bad
    | some none => .ok (.ref D) h
    | some (some w) => match g w r h with
      | .ok r1 h1 => (t r1 h1).bind fun c h2 => if c = true then (e r1 h2).bind fun x h3 => lcAdd D x (lcTurns src g t e r D k (i + 1)) h3
        else lcTurns src g t e r D k (i + 1) h2
      | _ => .bad
/-- no exception leaves it -/
def R.quiet {α : Type} : R α → R α
  | .exc _ _ _ => .bad
  | x => x
def eLc (vs : List Nat) (it : I) (g : G) (t : T) (e : E) : E := fun r h => (it r h).bind fun q h1 => (lcTurns q.1 g t e (wipe r vs) h1.length q.2 0 (h1 ++ [.lst []])).quiet
@[simp] def tYes : T := fun _ h => .ok true h
/-- o.append(e) -/
def app (x y : W) : MH → R W := fun h => match x with
  | .ref a => match h[a]? with
    | some (.lst xs) => if xs.length < 10000000 then .ok .non (h.set a (.lst (xs ++ [y]))) else .bad
    | _ => .bad
  | _ => .bad
/-- is x a list here -/
def isLst (x : W) (h : MH) : Bool := match x with
  | .ref a => match h[a]? with
    | some (.lst _) => true
    | _ => false
  | _ => false
def eApp (o e : E) : E := fun r h => (o r h).bind fun x h1 => if isLst x h1 = true then (e r h1).bind fun y h2 => app x y h2 else .bad
/-- xs[a:b] -/
@[simp] def oNo : Env → MH → R (Option Int) := fun _ h => .ok none h
@[simp] def intSome : W → MH → R (Option Int) := fun w h => match w with
  | .int i => .ok (some i) h
  | _ => .bad
@[simp] def oSo (e : E) : Env → MH → R (Option Int) := fun r h => (e r h).bind intSome
/-- a new list; a new tuple, where it is not the whole one -/
def slice (w : W) (l u : Option Int) : MH → R W := fun h => match w with
  | .ref a => match h[a]? with
    | some (.lst xs) => .ok (.ref h.length) (h ++ [.lst (cut xs l u)])
    | some (.fz xs) => .ok (.ref h.length) (h ++ [.lst (cut xs l u)])
    | some (.cl xs) => .ok (.ref h.length) (h ++ [.lst (cut xs l u)])
    | some (.tup xs) => if sIx xs.length 0 l = 0 ∧ sIx xs.length xs.length u = xs.length then .bad else .ok (.ref h.length) (h ++ [.tup (cut xs l u)])
    | some (.ct xs) => if sIx xs.length 0 l = 0 ∧ sIx xs.length xs.length u = xs.length then .bad else .ok (.ref h.length) (h ++ [.tup (cut xs l u)])
    | _ => .bad
  | _ => .bad
def eSl (e : E) (lo hi : Env → MH → R (Option Int)) : E := fun r h => (e r h).bind fun w h1 => (lo r h1).bind fun l h2 => (hi r h2).bind fun u h3 => slice w l u h3
/-- d[k] = v, k an int or a text -/
def putD (kvs : List (Sum Int Str × W)) (k : Sum Int Str) (w : W) : List (Sum Int Str × W) :=
  if (kvs.any fun kv => decide (kv.1 = k)) = true then kvs.map (fun kv => if kv.1 = k then (kv.1, w) else kv) else kvs ++ [(k, w)]
def keyOf : W → Option (Sum Int Str)
  | .int i => some (.inl i)
  | .str s => some (.inr s)
  | _ => none
def dput (w d k : W) : MH → R Unit := fun h => match d with
  | .ref a => match h[a]? with
    | some (.dic kvs) => match keyOf k with
      | some q => if kvs.length < 1000000 then .ok () (h.set a (.dic (putD kvs q w))) else .bad
      | none => .bad
    | _ => .bad
  | _ => .bad
def sDput (d k e : E) : S := fun r h => match (e r h).bind fun w h1 => (d r h1).bind fun x h2 => (k r h2).bind fun y h3 => dput w x y h3 with
  | .ok _ h1 => .ok .nx r h1
  | .exc c d h1 => .exc c d r h1
  | .bad => .bad
/-- raise C(e): C's __init__ keeps its argument under f -/
def sRaise (c : Nat) (f : Str) (e : E) : S := fun r h => match e r h with
  | .ok w h1 => .exc c (some h1.length) r (h1 ++ [.xd [(f, w)]])
  | .exc c d h1 => .exc c d r h1
  | .bad => .bad
/-- the attribute of the exception that a suite holds -/
def eXf (d : Option Nat) (f : Str) : E := fun _ h => match d with
  | some n => match h[n]? with
    | some (.xd fs) => match fs.lookup f with
      | some w => .ok w h
      | none => .bad
    | _ => .bad
  | none => .bad
/-- except clauses: which classes they take, the slot of their name, what their suite does with what the exception bears -/
structure Hd where
  m : Nat → Bool
  i : Option Nat
  s : Option Nat → S
@[simp] def noSlot (i : Option Nat) (r : Env) : Env := match i with
  | some i => r.set i none
  | none => r
def hEnd (i : Option Nat) : RS → RS
  | .ok f r h => .ok f (noSlot i r) h
  | _ => .bad
@[simp] def hRun (n c : Nat) (d : Option Nat) : List Hd → S
  | [] => fun r h => .exc c d r h
  | k :: ks => fun r h => if c < n then (if k.m c = true then hEnd k.i (k.s d (noSlot k.i r) h) else hRun n c d ks r h) else .bad
/-- n classes of errors, len slots -/
def sTry (n len : Nat) (b : S) (hs : List Hd) : S := fun r h => match b r h with
  | .exc c d r1 h1 => if r1.length = len then hRun n c d hs r1 h1 else .bad
  | x => x
/-! ### defs -/
@[simp] def begin_ (n : Nat) (ws : List W) : Env := ws.map some ++ List.replicate (n - ws.length) none
def fnOf (n p : Nat) (b : S) : F := fun ws h => if ws.length = p then match b (begin_ n ws) h with
    | .ok (.rt w) _ h1 => .ok w h1
    | .ok .nx _ h1 => .ok .non h1
    | .exc c d _ h1 => .exc c d h1
    | _ => .bad
  else .bad
end Mini
set_option Elab.async false
set_option autoImplicit false
set_option linter.all false
set_option maxRecDepth 100000
set_option maxHeartbeats 1100000
/-! Bridge: what the machine of Mini does is what the program does. -/
namespace Br
open PySem PySem.Spec PyProof.Rows L2 Mini
/-- a value of Mini, its cells at the addresses ph -/
def vW (ph : Nat → Addr) : Mini.W → V
  | .non => .non
  | .bl b => .bl b
  | .int i => .int i
  | .str s => .str s
  | .ref n => .ref (ph n)
/-- its cell stands below n -/
def wf (n : Nat) : Mini.W → Prop
  | .ref k => k < n
  | _ => True
def fsV (ph : Nat → Addr) (fs : List (Str × Mini.W)) : List (Str × V) := fs.map fun p => (p.1, vW ph p.2)
def kvV (ph : Nat → Addr) (kvs : List (Sum Int Str × Mini.W)) : List (Key × V) := kvs.map fun p => (p.1, vW ph p.2)
/-- is it tracked by the abstract heap -/
def trk : Cell → Prop
  | .ct _ => False
  | .cl _ => False
  | _ => True
section
variable (K : PySem.W.Frag) (Ga : Nat → Addr)
/-- the cell c, in a heap of n cells, stands at a -/
def CellAt (ph : Nat → Addr) (n : Nat) (H : Hp) (a : Addr) : Cell → Prop
  | .lst xs => H a = some (.lst (xs.map (vW ph))) ∧ ∀ x ∈ xs, wf n x
  | .tup xs => H a = some (.tup (xs.map (vW ph))) ∧ ∀ x ∈ xs, wf n x
  | .fz xs => (∃ o, H a = some (.frz o (.lst (xs.map (vW ph))))) ∧ ∀ x ∈ xs, wf n x
  | .ct xs => (∃ (o : Obj) (its : Array Value) (m : Nat), K.lookup a = some o ∧ o.cls = .type "tuple" ∧ o.data = .seq its m ∧ its.size ≤ sizeLine ∧ Vals (xs.map (vW ph)) its.toList) ∧ ∀ x ∈ xs, wf n x
  | .cl xs => (∃ (o : Obj) (its : Array Value) (m : Nat), K.lookup a = some o ∧ o.cls = .type "list" ∧ o.dict = none ∧ o.data = .seq its m ∧ its.size ≤ sizeLine ∧ Vals (xs.map (vW ph)) its.toList) ∧ ∀ x ∈ xs, wf n x
  | .dic kvs => H a = some (.dK (kvV ph kvs)) ∧ ∀ p ∈ kvs, wf n p.2
  | .ins c fs => (∃ dx, H a = some (.ins (Ga c) dx (fsV ph fs))) ∧ ∀ p ∈ fs, wf n p.2
  | .xd fs => H a = some (.xd (fsV ph fs)) ∧ ∀ p ∈ fs, wf n p.2
/-- the heap h of Mini is held by H -/
structure HR (ph : Nat → Addr) (h : MH) (H : Hp) : Prop where
  cells : ∀ i c, h[i]? = some c → CellAt K Ga ph h.length H (ph i) c
  inj : ∀ i j ci cj, i ≠ j → h[i]? = some ci → h[j]? = some cj → trk ci → trk cj → ph i ≠ ph j
end
/-- what stood stands at its address -/
structure Grow (ph : Nat → Addr) (h : MH) (ph' : Nat → Addr) (h' : MH) : Prop where
  le : h.length ≤ h'.length
  eq : ∀ i, i < h.length → ph' i = ph i
theorem Grow.refl (ph : Nat → Addr) (h : MH) : Grow ph h ph h := ⟨Nat.le_refl _, fun _ _ => rfl⟩
theorem Grow.trans {p1 p2 p3 : Nat → Addr} {h1 h2 h3 : MH} (a : Grow p1 h1 p2 h2) (b : Grow p2 h2 p3 h3) : Grow p1 h1 p3 h3 :=
  ⟨Nat.le_trans a.le b.le, fun i hi => (b.eq i (Nat.lt_of_lt_of_le hi a.le)).trans (a.eq i hi)⟩
theorem wf.mono {n m : Nat} (h : n ≤ m) : ∀ {w : Mini.W}, wf n w → wf m w
  | .ref k, q => Nat.lt_of_lt_of_le (show k < n from q) h
  | .non, _ => trivial
  | .bl _, _ => trivial
  | .int _, _ => trivial
  | .str _, _ => trivial
theorem Grow.v {p1 p2 : Nat → Addr} {h1 h2 : MH} (g : Grow p1 h1 p2 h2) : ∀ {w : Mini.W}, wf h1.length w → vW p2 w = vW p1 w
  | .ref k, q => congrArg V.ref (g.eq k q)
  | .non, _ => rfl
  | .bl _, _ => rfl
  | .int _, _ => rfl
  | .str _, _ => rfl
theorem Grow.vs {p1 p2 : Nat → Addr} {h1 h2 : MH} (g : Grow p1 h1 p2 h2) {xs : List Mini.W} (q : ∀ x ∈ xs, wf h1.length x) : xs.map (vW p2) = xs.map (vW p1) :=
  List.map_congr_left fun x hx => g.v (q x hx)
theorem Grow.fs {p1 p2 : Nat → Addr} {h1 h2 : MH} (g : Grow p1 h1 p2 h2) {xs : List (Str × Mini.W)} (q : ∀ x ∈ xs, wf h1.length x.2) : fsV p2 xs = fsV p1 xs :=
  List.map_congr_left fun x hx => by rw [g.v (q x hx)]
theorem Grow.kv {p1 p2 : Nat → Addr} {h1 h2 : MH} (g : Grow p1 h1 p2 h2) {xs : List (Sum Int Str × Mini.W)} (q : ∀ x ∈ xs, wf h1.length x.2) : kvV p2 xs = kvV p1 xs :=
  List.map_congr_left fun x hx => by rw [g.v (q x hx)]
section
variable {K : PySem.W.Frag} {Ga : Nat → Addr}
/-- a cell's description under more cells, at another heap that is the same at its address -/
theorem CellAt.to {p1 p2 : Nat → Addr} {n m : Nat} {H H' : Hp} {a : Addr} (hn : n ≤ m) (hp : ∀ i, i < n → p2 i = p1 i) : ∀ {c : Cell}, (trk c → H' a = H a) → CellAt K Ga p1 n H a c → CellAt K Ga p2 m H' a c := by
  intro c hH q
  have v : ∀ {w : Mini.W}, wf n w → vW p2 w = vW p1 w := fun {w} z => by
    cases w with
    | ref k => exact congrArg V.ref (hp k z)
    | _ => rfl
  have vs : ∀ {xs : List Mini.W}, (∀ x ∈ xs, wf n x) → xs.map (vW p2) = xs.map (vW p1) := fun z => List.map_congr_left fun x hx => v (z x hx)
  have fs : ∀ {xs : List (Str × Mini.W)}, (∀ x ∈ xs, wf n x.2) → fsV p2 xs = fsV p1 xs := fun z => List.map_congr_left fun x hx => by rw [v (z x hx)]
  have kv : ∀ {xs : List (Sum Int Str × Mini.W)}, (∀ x ∈ xs, wf n x.2) → kvV p2 xs = kvV p1 xs := fun z => List.map_congr_left fun x hx => by rw [v (z x hx)]
  cases c with
  | lst xs => exact ⟨by rw [hH trivial, vs q.2]; exact q.1, fun x hx => (q.2 x hx).mono hn⟩
  | tup xs => exact ⟨by rw [hH trivial, vs q.2]; exact q.1, fun x hx => (q.2 x hx).mono hn⟩
  | fz xs =>
    obtain ⟨⟨o, e⟩, z⟩ := q
    exact ⟨⟨o, by rw [hH trivial, vs z]; exact e⟩, fun x hx => (z x hx).mono hn⟩
  | ct xs =>
    obtain ⟨⟨o, its, k, e1, e2, e3, e4, e5⟩, z⟩ := q
    exact ⟨⟨o, its, k, e1, e2, e3, e4, by rw [vs z]; exact e5⟩, fun x hx => (z x hx).mono hn⟩
  | cl xs =>
    obtain ⟨⟨o, its, k, e1, e2, e3, e4, e5, e6⟩, z⟩ := q
    exact ⟨⟨o, its, k, e1, e2, e3, e4, e5, by rw [vs z]; exact e6⟩, fun x hx => (z x hx).mono hn⟩
  | dic kvs => exact ⟨by rw [hH trivial, kv q.2]; exact q.1, fun x hx => (q.2 x hx).mono hn⟩
  | ins c fs' =>
    obtain ⟨⟨dx, e⟩, z⟩ := q
    exact ⟨⟨dx, by rw [hH trivial, fs z]; exact e⟩, fun x hx => (z x hx).mono hn⟩
  | xd fs' => exact ⟨by rw [hH trivial, fs q.2]; exact q.1, fun x hx => (q.2 x hx).mono hn⟩
theorem CellAt.some {ph : Nat → Addr} {n : Nat} {H : Hp} {a : Addr} : ∀ {c : Cell}, trk c → CellAt K Ga ph n H a c → ∃ o, H a = some o
  | .lst _, _, q => ⟨_, q.1⟩
  | .tup _, _, q => ⟨_, q.1⟩
  | .fz _, _, ⟨⟨_, e⟩, _⟩ => ⟨_, e⟩
  | .dic _, _, q => ⟨_, q.1⟩
  | .ins _ _, _, ⟨⟨_, e⟩, _⟩ => ⟨_, e⟩
  | .xd _, _, q => ⟨_, q.1⟩
/-- a new address for a new cell -/
def ext (ph : Nat → Addr) (n : Nat) (a : Addr) : Nat → Addr := fun i => if i = n then a else ph i
theorem ext_at {ph : Nat → Addr} {n : Nat} {a : Addr} : ext ph n a n = a := if_pos rfl
theorem ext_lt {ph : Nat → Addr} {n : Nat} {a : Addr} {i : Nat} (h : i < n) : ext ph n a i = ph i := if_neg (Nat.ne_of_lt h)
theorem Grow.ext {ph : Nat → Addr} {h : MH} {a : Addr} {c : Cell} : Grow ph h (ext ph h.length a) (h ++ [c]) :=
  ⟨by rw [List.length_append]; exact Nat.le_add_right _ _, fun _ hi => ext_lt hi⟩
/-- a new object is laid -/
theorem HR.push {ph : Nat → Addr} {h : MH} {H : Hp} {a : Addr} {o : HO} {c : Cell} (R : HR K Ga ph h H) (ha : H a = none) (hc : CellAt K Ga (ext ph h.length a) (h.length + 1) (upd H a o) a c) :
    HR K Ga (ext ph h.length a) (h ++ [c]) (upd H a o) := by
  have len : (h ++ [c]).length = h.length + 1 := by rw [List.length_append]; rfl
  have old : ∀ {i : Nat} {x : Cell}, i ≠ h.length → (h ++ [c])[i]? = some x → i < h.length ∧ h[i]? = some x := fun {i x} hi e => by
    have hl : i < (h ++ [c]).length := (List.getElem?_eq_some_iff.mp e).1
    have hl' : i < h.length := by omega
    rw [List.getElem?_append_left hl'] at e
    exact ⟨hl', e⟩
  have new : ∀ {x : Cell}, (h ++ [c])[h.length]? = some x → x = c := fun {x} e => by
    rw [List.getElem?_append_right (Nat.le_refl _), Nat.sub_self] at e
    exact (Option.some.inj e).symm
  have ne : ∀ {i : Nat} {x : Cell}, h[i]? = some x → trk x → ph i ≠ a := fun {i x} e t q => by
    obtain ⟨u, hu⟩ := (R.cells i x e).some t
    rw [q, ha] at hu
    cases hu
  constructor
  · intro i x e
    rw [len]
    by_cases hi : i = h.length
    · subst hi
      rw [new e, ext_at]
      exact hc
    · obtain ⟨hl, e'⟩ := old hi e
      rw [ext_lt hl]
      refine (R.cells i x e').to (Nat.le_succ _) (fun j hj => ext_lt hj) fun t => ?_
      exact upd_ne (ne e' t)
  · intro i j ci cj hij ei ej ti tj
    by_cases hi : i = h.length
    · subst hi
      have hj : j ≠ h.length := fun z => hij z.symm
      obtain ⟨hl, e'⟩ := old hj ej
      rw [ext_at, ext_lt hl]
      exact (ne e' tj).symm
    · obtain ⟨hl, e'⟩ := old hi ei
      by_cases hj : j = h.length
      · subst hj
        rw [ext_at, ext_lt hl]
        exact ne e' ti
      · obtain ⟨hl2, e2⟩ := old hj ej
        rw [ext_lt hl, ext_lt hl2]
        exact R.inj i j ci cj hij e' e2 ti tj
/-- an object is changed -/
theorem HR.set {ph : Nat → Addr} {h : MH} {H : Hp} {o : HO} {n : Nat} {c c' : Cell} (R : HR K Ga ph h H) (hn : h[n]? = some c) (ht : trk c) (ht' : trk c') (hc : CellAt K Ga ph h.length (upd H (ph n) o) (ph n) c') :
    HR K Ga ph (h.set n c') (upd H (ph n) o) := by
  have hl : n < h.length := (List.getElem?_eq_some_iff.mp hn).1
  have here : ∀ {x : Cell}, (h.set n c')[n]? = some x → x = c' := fun {x} e => by
    rw [List.getElem?_set_self hl] at e
    exact (Option.some.inj e).symm
  have there : ∀ {i : Nat} {x : Cell}, i ≠ n → (h.set n c')[i]? = some x → h[i]? = some x := fun {i x} hi e => by
    rw [List.getElem?_set_ne (Ne.symm hi)] at e
    exact e
  constructor
  · intro i x e
    rw [List.length_set]
    by_cases hi : i = n
    · subst hi
      rw [here e]
      exact hc
    · have e' := there hi e
      refine (R.cells i x e').to (Nat.le_refl _) (fun _ _ => rfl) fun t => ?_
      exact upd_ne (R.inj i n x c hi e' hn t ht)
  · intro i j ci cj hij ei ej ti tj
    by_cases hi : i = n
    · subst hi
      exact R.inj i j c cj hij hn (there (fun z => hij z.symm) ej) ht tj
    · by_cases hj : j = n
      · subst hj
        exact R.inj i j ci c hij (there hi ei) hn ti ht
      · exact R.inj i j ci cj hij (there hi ei) (there hj ej) ti tj
theorem Grow.set {ph : Nat → Addr} {h : MH} {n : Nat} {c : Cell} : Grow ph h ph (h.set n c) := ⟨by rw [List.length_set]; exact Nat.le_refl _, fun _ _ => rfl⟩
end
/-! ### slots -/
/-- a slot that holds the exception of a suite: at a, its own dict at d, which is the cell n -/
structure PinD where
  i : Nat
  a : Addr
  d : Option Addr
  n : Option Nat
abbrev Pin := Option PinD
def Pin.holds (p : Pin) (ph : Nat → Addr) (len : Nat) (sg : L2.St) : Prop := ∀ q : PinD, p = some q → sg[q.i]? = some (some (.ref q.a)) ∧ q.d = q.n.map ph ∧ ∀ k, q.n = some k → k < len
def Pin.lets (p : Pin) (j : Nat) : Prop := ∀ q : PinD, p = some q → j ≠ q.i
theorem lets0 {j : Nat} : Pin.lets none j := fun _ e => nomatch e
theorem lets1 {q : PinD} {j : Nat} (h : j ≠ q.i) : Pin.lets (some q) j := fun _ e => by cases e; exact h
section
variable (K : PySem.W.Frag) (Ga : Nat → Addr) (pin : Pin)
structure SR (ph : Nat → Addr) (h : MH) (r : Mini.Env) (sg : L2.St) (H : Hp) : Prop where
  hr : HR K Ga ph h H
  len : sg.length = r.length
  val : ∀ (i : Nat) (w : Mini.W), r[i]? = some (some w) → sg[i]? = some (some (vW ph w)) ∧ wf h.length w
  pin : pin.holds ph h.length sg
end
section
variable {K : PySem.W.Frag} {Ga : Nat → Addr} {pin : Pin} {ph ph' : Nat → Addr} {h h' : MH} {r : Mini.Env} {sg : L2.St} {H H' : Hp}
theorem SR.grow (s : SR K Ga pin ph h r sg H) (g : Grow ph h ph' h') (R : HR K Ga ph' h' H') : SR K Ga pin ph' h' r sg H' :=
  ⟨R, s.len, fun i w e => ⟨by rw [g.v (s.val i w e).2]; exact (s.val i w e).1, (s.val i w e).2.mono g.le⟩, fun q e => by
    obtain ⟨z1, z2, z3⟩ := s.pin q e
    refine ⟨z1, ?_, fun k z => Nat.lt_of_lt_of_le (z3 k z) g.le⟩
    rw [z2]
    cases en : q.n with
    | none => rfl
    | some k => exact congrArg some (g.eq k (z3 k en)).symm⟩
theorem SR.put {j : Nat} {w : Mini.W} (s : SR K Ga pin ph h r sg H) (hw : wf h.length w) (hj : pin.lets j) : SR K Ga pin ph h (r.set j (some w)) (sg.set j (some (vW ph w))) H := by
  refine ⟨s.hr, by rw [List.length_set, List.length_set, s.len], fun i x e => ?_, fun q e => ?_⟩
  · by_cases hi : j = i
    · subst hi
      by_cases hl : j < r.length
      · rw [List.getElem?_set_self hl] at e
        cases e
        exact ⟨List.getElem?_set_self (by rw [s.len]; exact hl), hw⟩
      · rw [List.getElem?_eq_none (by rw [List.length_set]; omega)] at e
        cases e
    · rw [List.getElem?_set_ne hi] at e
      rw [List.getElem?_set_ne hi]
      exact s.val i x e
  · rw [List.getElem?_set_ne (hj q e)]
    exact s.pin q e
end
/-! ### the readings that Mini gives -/
section
variable (K : PySem.W.Frag) (Ga : Nat → Addr) (pin : Pin) (Wd : WX)
/-- a run's end is good: with its value what follows holds -/
def rd {α β : Type} (rel : (Nat → Addr) → Nat → α → β → Prop) (ph : Nat → Addr) (h : MH) (sg : L2.St) (q : Mini.R α) (Q : β → Hp → Prop) : Prop := match q with
  | .ok a h' => ∀ ph' H' b, Grow ph h ph' h' → HR K Ga ph' h' H' → rel ph' h'.length a b → Q b H'
  | .exc c d h' => ∀ ph' H', Grow ph h ph' h' → HR K Ga ph' h' H' → (∀ n, d = some n → n < h'.length) → Wd (.ref (Ga c)) (d.map ph') sg H'
  | .bad => False
def relW (ph : Nat → Addr) (n : Nat) (w : Mini.W) (v : V) : Prop := v = vW ph w ∧ wf n w
def relB (_ : Nat → Addr) (_ : Nat) (b c : Bool) : Prop := c = b
def relA (ph : Nat → Addr) (n : Nat) (ws : List Mini.W) (vs : List V) : Prop := vs = ws.map (vW ph) ∧ ∀ w ∈ ws, wf n w
def tE (m : Mini.E) : TE := fun sg H Q => ∃ ph h r, SR K Ga pin ph h r sg H ∧ rd K Ga Wd relW ph h sg (m r h) Q
def tT (m : Mini.T) : TT := fun sg H Q => ∃ ph h r, SR K Ga pin ph h r sg H ∧ rd K Ga Wd relB ph h sg (m r h) Q
def tA (m : Mini.A) : TA := fun sg H Q => ∃ ph h r, SR K Ga pin ph h r sg H ∧ rd K Ga Wd relA ph h sg (m r h) Q
def rdS (ph : Nat → Addr) (h : MH) (q : RS) (D : Ends) : Prop := match q with
  | .ok .nx r' h' => ∀ ph' sg' H', Grow ph h ph' h' → SR K Ga pin ph' h' r' sg' H' → D.nx sg' H'
  | .ok .bk r' h' => ∀ ph' sg' H', Grow ph h ph' h' → SR K Ga pin ph' h' r' sg' H' → D.bk sg' H'
  | .ok .ct r' h' => ∀ ph' sg' H', Grow ph h ph' h' → SR K Ga pin ph' h' r' sg' H' → D.ct sg' H'
  | .ok (.rt w) _ h' => ∀ ph' H', Grow ph h ph' h' → HR K Ga ph' h' H' → wf h'.length w → D.rt (vW ph' w) H'
  | .exc c d r' h' => ∀ ph' sg' H', Grow ph h ph' h' → SR K Ga pin ph' h' r' sg' H' → (∀ n, d = some n → n < h'.length) → Wd (.ref (Ga c)) (d.map ph') sg' H'
  | .bad => False
def tS (m : Mini.S) : TS := fun D sg H => ∃ ph h r, SR K Ga pin ph h r sg H ∧ rdS K Ga pin Wd ph h (m r h) D
end
section
variable {K : PySem.W.Frag} {Ga : Nat → Addr} {pin : Pin} {Wd : WX} {ph ph1 : Nat → Addr} {h h1 : MH} {r : Mini.Env} {sg : L2.St} {H H1 : Hp} {α β γ δ : Type}
theorem rd.base {rel : (Nat → Addr) → Nat → α → β → Prop} {q : Mini.R α} {Q : β → Hp → Prop} (g : Grow ph h ph1 h1) (x : rd K Ga Wd rel ph h sg q Q) : rd K Ga Wd rel ph1 h1 sg q Q := by
  cases q with
  | ok a h' => exact fun ph' H' b g' R rl => x ph' H' b (g.trans g') R rl
  | exc c d h' => exact fun ph' H' g' R z => x ph' H' (g.trans g') R z
  | bad => exact x
theorem rdS.base {q : RS} {D : Ends} (g : Grow ph h ph1 h1) (x : rdS K Ga pin Wd ph h q D) : rdS K Ga pin Wd ph1 h1 q D := by
  cases q with
  | ok f r' h' =>
    cases f with
    | nx => exact fun ph' sg' H' g' R => x ph' sg' H' (g.trans g') R
    | bk => exact fun ph' sg' H' g' R => x ph' sg' H' (g.trans g') R
    | ct => exact fun ph' sg' H' g' R => x ph' sg' H' (g.trans g') R
    | rt w => exact fun ph' H' g' R z => x ph' H' (g.trans g') R z
  | exc c d r' h' => exact fun ph' sg' H' g' R z => x ph' sg' H' (g.trans g') R z
  | bad => exact x
/-- one run behind the other -/
theorem rd.bind {rel : (Nat → Addr) → Nat → α → β → Prop} {rel' : (Nat → Addr) → Nat → γ → δ → Prop} {q : Mini.R α} {f : α → MH → Mini.R γ} {Q : δ → Hp → Prop} {Q1 : β → Hp → Prop}
    (x : rd K Ga Wd rel' ph h sg (q.bind f) Q)
    (k : ∀ a h1, q = .ok a h1 → ∀ ph1 H1 b, Grow ph h ph1 h1 → HR K Ga ph1 h1 H1 → rel ph1 h1.length a b → rd K Ga Wd rel' ph1 h1 sg (f a h1) Q → Q1 b H1) : rd K Ga Wd rel ph h sg q Q1 := by
  cases q with
  | ok a h' => exact fun ph' H' b g R rl => k a h' rfl ph' H' b g R rl (rd.base g x)
  | exc c d h' => exact x
  | bad => exact x
end
theorem PE.imp {X : Cx} {e : Expr} {t t' : TE} (p : PE X e t) (k : ∀ sg H Q, t' sg H Q → t sg H Q) : PE X e t' := ⟨fun pins s sg H Q I h => p.run pins s sg H Q I (k sg H Q h)⟩
theorem PT.imp {X : Cx} {e : Expr} {t t' : TT} (p : PT X e t) (k : ∀ sg H Q, t' sg H Q → t sg H Q) : PT X e t' := ⟨fun pins s sg H Q I h => p.run pins s sg H Q I (k sg H Q h)⟩
theorem PW.imp {X : Cx} {e : Expr} {t t' : TT} (p : PW X e t) (k : ∀ sg H Q, t' sg H Q → t sg H Q) : PW X e t' := ⟨fun wh pins s sg H Q I h => p.run wh pins s sg H Q I (k sg H Q h)⟩
theorem PA.imp {X : Cx} {es : List Expr} {t t' : TA} (p : PA X es t) (k : ∀ sg H Q, t' sg H Q → t sg H Q) : PA X es t' := ⟨fun pos pins s sg H Q I h => p.run pos pins s sg H Q I (k sg H Q h)⟩
theorem PS.imp {X : Cx} {st : Stmt} {t t' : TS} (p : PS X st t) (k : ∀ D sg H, t' D sg H → t D sg H) : PS X st t' := ⟨fun pins s sg H D I h => p.run pins s sg H D I (k D sg H h)⟩
theorem PSs.imp {X : Cx} {st : List Stmt} {t t' : TS} (p : PSs X st t) (k : ∀ D sg H, t' D sg H → t D sg H) : PSs X st t' := ⟨fun pins s sg H D I h => p.run pins s sg H D I (k D sg H h)⟩
end Br
set_option Elab.async false
set_option autoImplicit false
set_option linter.all false
set_option maxRecDepth 100000
set_option maxHeartbeats 1100000
namespace Br
open PySem PySem.Spec PyProof.Rows L2 Mini
section
variable {X : Cx} {Ga : Nat → Addr} {pin : Pin} {Wd : WX} {ph : Nat → Addr} {h : MH} {r : Mini.Env} {sg : L2.St} {H : Hp} {a b c e : Expr} {es : List Expr} {pos : Pos} {ma mb mc m : Mini.E}
theorem rd_ok {K : PySem.W.Frag} {w : Mini.W} {Q : VK} (x : rd K Ga Wd relW ph h sg (.ok w h) Q) (R : HR K Ga ph h H) (hw : wf h.length w) : Q (vW ph w) H := x ph H _ (Grow.refl _ _) R ⟨rfl, hw⟩
theorem rd_okB {K : PySem.W.Frag} {b : Bool} {Q : Bool → Hp → Prop} (x : rd K Ga Wd relB ph h sg (.ok b h) Q) (R : HR K Ga ph h H) : Q b H := x ph H _ (Grow.refl _ _) R rfl
theorem rd_okA {K : PySem.W.Frag} {ws : List Mini.W} {Q : List V → Hp → Prop} (x : rd K Ga Wd relA ph h sg (.ok ws h) Q) (R : HR K Ga ph h H) (hw : ∀ w ∈ ws, wf h.length w) : Q (ws.map (vW ph)) H := x ph H _ (Grow.refl _ _) R ⟨rfl, hw⟩
/-- a new cell, laid at any free place -/
theorem rd_new {K : PySem.W.Frag} {cl : Cell} {Q : VK} {o : Addr → HO} (x : rd K Ga Wd relW ph h sg (.ok (.ref h.length) (h ++ [cl])) Q) (R : HR K Ga ph h H) {p : Addr} (hp : H p = none)
    (hc : CellAt K Ga (ext ph h.length p) (h.length + 1) (upd H p (o p)) p cl) : Q (.ref p) (upd H p (o p)) := by
  have q := x (ext ph h.length p) (upd H p (o p)) (.ref p) Grow.ext (R.push hp hc) ⟨by show V.ref p = V.ref (ext ph h.length p h.length); rw [ext_at], by show h.length < (h ++ [cl]).length; rw [List.length_append]; exact Nat.lt_succ_self _⟩
  exact q
theorem ext_vs {p : Addr} {xs : List Mini.W} (q : ∀ x ∈ xs, wf h.length x) : xs.map (vW (ext ph h.length p)) = xs.map (vW ph) := (Grow.ext (c := .lst [])).vs q
theorem wf_up {xs : List Mini.W} (q : ∀ x ∈ xs, wf h.length x) : ∀ x ∈ xs, wf (h.length + 1) x := fun x hx => (q x hx).mono (Nat.le_succ _)
theorem at_lst {K : PySem.W.Frag} {p : Addr} {xs : List Mini.W} (q : ∀ x ∈ xs, wf h.length x) : CellAt K Ga (ext ph h.length p) (h.length + 1) (upd H p (.lst (xs.map (vW ph)))) p (.lst xs) := ⟨by rw [ext_vs q]; exact upd_same, wf_up q⟩
theorem at_tup {K : PySem.W.Frag} {p : Addr} {xs : List Mini.W} (q : ∀ x ∈ xs, wf h.length x) : CellAt K Ga (ext ph h.length p) (h.length + 1) (upd H p (.tup (xs.map (vW ph)))) p (.tup xs) := ⟨by rw [ext_vs q]; exact upd_same, wf_up q⟩
/-! ### leaves -/
theorem e_var {i : Nat} {x : Str} (hN : X.N[i]? = some x) (hv : Vis X.env.scope x) (hd : (x == ("__debug__" : Str)) = false := by decide) (hcd : (x == ("__classdict__" : Str)) = false := by decide) : PE X (.Name x pos) (tE X.K Ga pin Wd (eVar i)) := by
  refine PE.imp (pe_var hN hv hd hcd) fun sg H Q ⟨ph, h, r, s, x⟩ => ?_
  unfold eVar at x
  cases e : r[i]? with
  | none => rw [e] at x; exact x.elim
  | some o =>
    cases o with
    | none => rw [e] at x; exact x.elim
    | some w =>
      rw [e] at x
      obtain ⟨h1, h2⟩ := s.val i w e
      exact ⟨_, h1, rd_ok x s.hr h2⟩
theorem e_c {v : V} {w : Mini.W} (p : PE X e (tC v)) (hv : ∀ ph, vW ph w = v) (hw : ∀ n, wf n w) : PE X e (tE X.K Ga pin Wd (eC w)) := by
  refine PE.imp p fun sg H Q ⟨ph, h, r, s, x⟩ => ?_
  have q := rd_ok x s.hr (hw _)
  rw [hv] at q
  exact q
theorem e_int {i : Int} {j : Nat} : PE X (.Constant (.int i) j pos) (tE X.K Ga pin Wd (eC (.int i))) := e_c pe_int (fun _ => rfl) fun _ => trivial
theorem e_bl {i : Bool} {j : Nat} : PE X (.Constant (.bool i) j pos) (tE X.K Ga pin Wd (eC (.bl i))) := e_c pe_bl (fun _ => rfl) fun _ => trivial
theorem e_non {j : Nat} : PE X (.Constant .none j pos) (tE X.K Ga pin Wd (eC .non)) := e_c pe_non (fun _ => rfl) fun _ => trivial
theorem e_str {x : Str} {j : Nat} : PE X (.Constant (.str x) j pos) (tE X.K Ga pin Wd (eC (.str x))) := e_c pe_str (fun _ => rfl) fun _ => trivial
/-- a module's int -/
theorem e_gint {x : Str} {i : Int} {t : Tok} (hg : Gl X x) (hm : X.mg x = some (.int i t)) (hd : (x == ("__debug__" : Str)) = false := by decide) : PE X (.Name x pos) (tE X.K Ga pin Wd (eC (.int i))) :=
  e_c (pe_glob (v := .int i) hg hm ⟨t, rfl⟩ hd) (fun _ => rfl) fun _ => trivial
/-! ### operators -/
def BinS (X : Cx) (Ga : Nat → Addr) (g : Mini.W → Mini.W → MH → Mini.R Mini.W) (r : R2) : Prop :=
  ∀ (Wd : WX) (ph : Nat → Addr) (h : MH) (H : Hp) (sg : L2.St) (x y : Mini.W) (Q : VK), HR X.K Ga ph h H → wf h.length x → wf h.length y → rd X.K Ga Wd relW ph h sg (g x y h) Q → r (vW ph x) (vW ph y) H Q
theorem two_of {g : Mini.W → Mini.W → MH → Mini.R Mini.W} {Q : VK} {R : V → V → Hp → Prop} (x : tE X.K Ga pin Wd (eBin g ma mb) sg H Q)
    (k : ∀ (ph : Nat → Addr) (h : MH) (H : Hp) (x y : Mini.W), HR X.K Ga ph h H → wf h.length x → wf h.length y → rd X.K Ga Wd relW ph h sg (g x y h) Q → R (vW ph x) (vW ph y) H) :
    tE X.K Ga pin Wd ma sg H fun x H1 => tE X.K Ga pin Wd mb sg H1 fun y H2 => R x y H2 := by
  obtain ⟨ph, h, r, s, x⟩ := x
  refine ⟨ph, h, r, s, x.bind fun u h1 e1 ph1 H1 b1 g1 R1 ⟨eb1, w1⟩ x1 => ?_⟩
  refine ⟨ph1, h1, r, s.grow g1 R1, x1.bind fun v h2 e2 ph2 H2 b2 g2 R2 ⟨eb2, w2⟩ x2 => ?_⟩
  rw [eb1, eb2, ← g2.v w1]
  exact k ph2 h2 H2 u v R2 (w1.mono g2.le) w2 x2
theorem e_bin {op : Operator} {g : Mini.W → Mini.W → MH → Mini.R Mini.W} {r : R2} (ho : OpR X (binaryOp op) r) (hg : BinS X Ga g r) (ha : PE X a (tE X.K Ga pin Wd ma)) (hb : PE X b (tE X.K Ga pin Wd mb)) :
    PE X (.BinOp a op b pos) (tE X.K Ga pin Wd (eBin g ma mb)) :=
  PE.imp (pe_op ho ha hb) fun sg H Q x => two_of x fun ph h H u v R w1 w2 x2 => hg Wd ph h H sg u v Q R w1 w2 x2
theorem e_cmp {op : CmpOp} {g : Mini.W → Mini.W → MH → Mini.R Mini.W} {r : R2} (ho : OpR X (compareOp op) r) (hg : BinS X Ga g r) (ha : PE X a (tE X.K Ga pin Wd ma)) (hb : PE X b (tE X.K Ga pin Wd mb)) (hm : behindInMarks op b = false) :
    PE X (.Compare a [op] [b] pos) (tE X.K Ga pin Wd (eBin g ma mb)) :=
  PE.imp (pe_cmpR ho ha hb hm) fun sg H Q x => two_of x fun ph h H u v R w1 w2 x2 => hg Wd ph h H sg u v Q R w1 w2 x2
theorem e_ix {g : Mini.W → Mini.W → MH → Mini.R Mini.W} {r : R2} (ho : IxR X r) (hg : BinS X Ga g r) (ha : PE X a (tE X.K Ga pin Wd ma)) (hb : PE X b (tE X.K Ga pin Wd mb)) (hs : PlainIx b) :
    PE X (.Subscript a b pos) (tE X.K Ga pin Wd (eBin g ma mb)) :=
  PE.imp (pe_ix ho ha hb hs) fun sg H Q x => two_of x fun ph h H u v R w1 w2 x2 => hg Wd ph h H sg u v Q R w1 w2 x2
theorem s_intOp {f : Int → Int → Int} : BinS X Ga (intOp f) (rI0 fun i j => .int (f i j)) := by
  intro Wd ph h H sg x y Q R w1 w2 q
  cases x with
  | int i => cases y with
    | int j => exact ⟨i, j, rfl, rfl, rd_ok q R trivial⟩
    | _ => exact q.elim
  | _ => exact q.elim
theorem s_intOpC {cc : Int → Int → Bool} {C : Int → Int → Prop} {f : Int → Int → Int} (hC : ∀ i j, cc i j = true → C i j) : BinS X Ga (intOpC cc f) (rI C fun i j => .int (f i j)) := by
  intro Wd ph h H sg x y Q R w1 w2 q
  cases x with
  | int i => cases y with
    | int j =>
      unfold intOpC at q
      by_cases e : cc i j = true
      · simp only [if_pos e] at q
        exact ⟨i, j, rfl, rfl, hC i j e, rd_ok q R trivial⟩
      · simp only [if_neg e] at q
        exact q.elim
    | _ => exact q.elim
  | _ => exact q.elim
theorem s_intCmp {f : Int → Int → Bool} : BinS X Ga (intCmp f) (rI0 fun i j => .bl (f i j)) := by
  intro Wd ph h H sg x y Q R w1 w2 q
  cases x with
  | int i => cases y with
    | int j => exact ⟨i, j, rfl, rfl, rd_ok q R trivial⟩
    | _ => exact q.elim
  | _ => exact q.elim
theorem two64_eq : two64 = 2 ^ 64 := by decide
def CMulA (i j : Int) : Prop := CMul i j ∨ CMulW i j
theorem op_mulA : OpR X (binaryOp .Mult) (rI CMulA fun i j => .int (i * j)) := by
  intro pins s sg H x y v u Q I rx ry q
  obtain ⟨i, j, e1, e2, z | z, q⟩ := q
  · exact op_mul pins s sg H x y v u Q I rx ry ⟨i, j, e1, e2, z, q⟩
  · exact op_mulW pins s sg H x y v u Q I rx ry ⟨i, j, e1, e2, z, q⟩
theorem mulOk_ok {i j : Int} (q : mulOk i j = true) : CMulA i j := by
  unfold mulOk at q
  rw [Bool.or_eq_true, Bool.or_eq_true, decide_eq_true_eq, decide_eq_true_eq, decide_eq_true_eq, two64_eq] at q
  rcases q with (q | q) | q
  · exact .inl (.inl (by omega))
  · exact .inl (.inr (by omega))
  · exact .inr q
theorem e_sub (ha : PE X a (tE X.K Ga pin Wd ma)) (hb : PE X b (tE X.K Ga pin Wd mb)) : PE X (.BinOp a .Sub b pos) (tE X.K Ga pin Wd (eBin gSub ma mb)) := e_bin op_sub s_intOp ha hb
theorem e_mul (ha : PE X a (tE X.K Ga pin Wd ma)) (hb : PE X b (tE X.K Ga pin Wd mb)) : PE X (.BinOp a .Mult b pos) (tE X.K Ga pin Wd (eBin gMul ma mb)) := e_bin op_mulA (s_intOpC fun _ _ => mulOk_ok) ha hb
theorem e_div (ha : PE X a (tE X.K Ga pin Wd ma)) (hb : PE X b (tE X.K Ga pin Wd mb)) : PE X (.BinOp a .FloorDiv b pos) (tE X.K Ga pin Wd (eBin gDiv ma mb)) := e_bin op_fdivW (s_intOpC fun _ _ q => by
  unfold divOk at q; rw [Bool.and_eq_true, decide_eq_true_eq, decide_eq_true_eq] at q; exact q) ha hb
theorem e_mod (ha : PE X a (tE X.K Ga pin Wd ma)) (hb : PE X b (tE X.K Ga pin Wd mb)) : PE X (.BinOp a .Mod b pos) (tE X.K Ga pin Wd (eBin gMod ma mb)) := e_bin op_mod (s_intOpC fun _ _ q => by
  unfold modOk at q; rw [decide_eq_true_eq] at q; exact q) ha hb
theorem e_pow (ha : PE X a (tE X.K Ga pin Wd ma)) (hb : PE X b (tE X.K Ga pin Wd mb)) : PE X (.BinOp a .Pow b pos) (tE X.K Ga pin Wd (eBin gPow ma mb)) := e_bin op_pow (s_intOpC fun _ _ q => by
  unfold powOk at q; rw [Bool.and_eq_true, Bool.and_eq_true, decide_eq_true_eq, decide_eq_true_eq, decide_eq_true_eq, two64_eq] at q; exact ⟨q.1.1, q.1.2, q.2⟩) ha hb
/-- + -/
def rAddA : R2 := fun x y H Q => (∃ i j, x = .int i ∧ y = .int j ∧ Q (.int (i + j)) H) ∨ ((∃ i j, x = .str i ∧ y = .str j ∧ i.length + j.length ≤ sizeLine ∧ Q (.str (i ++ j)) H) ∨ rCat x y H Q)
theorem op_addA : OpR X (binaryOp .Add) rAddA := OpR.or op_add (OpR.or op_add_str op_cat)
theorem m_line {n : Nat} (q : n ≤ 10000000) : n ≤ sizeLine := Nat.le_trans q (by rw [sizeLine_eq]; decide)
theorem m_line1 {n : Nat} (q : n < 10000000) : n < sizeLine := Nat.lt_of_lt_of_le q (by rw [sizeLine_eq]; decide)
theorem m_line6 {n : Nat} (q : n ≤ 1000000) : n ≤ sizeLine := m_line (Nat.le_trans q (by decide))
theorem s_add : BinS X Ga gAdd rAddA := by
  intro Wd ph h H sg x y Q R w1 w2 q
  cases x with
  | int i => cases y with
    | int j => exact .inl ⟨i, j, rfl, rfl, rd_ok q R trivial⟩
    | _ => exact q.elim
  | str s => cases y with
    | str t =>
      simp only [gAdd] at q
      by_cases e : s.length + t.length ≤ 1000000
      · rw [if_pos e] at q
        exact .inr (.inl ⟨s, t, rfl, rfl, m_line6 e, rd_ok q R trivial⟩)
      · rw [if_neg e] at q
        exact q.elim
    | _ => exact q.elim
  | ref n => cases y with
    | ref m =>
      simp only [gAdd] at q
      cases e1 : h[n]? with
      | none => rw [e1] at q; exact q.elim
      | some c1 =>
        cases c1 with
        | lst xs =>
          cases e2 : h[m]? with
          | none => rw [e1, e2] at q; exact q.elim
          | some c2 =>
            cases c2 with
            | lst ys =>
              rw [e1, e2] at q
              simp only [] at q
              by_cases e : xs.length + ys.length ≤ 10000000
              · rw [if_pos e] at q
                obtain ⟨a1, z1⟩ := R.cells n _ e1
                obtain ⟨a2, z2⟩ := R.cells m _ e2
                have z : ∀ x ∈ xs ++ ys, wf h.length x := fun x hx => by
                  rcases (List.mem_append.mp hx : _ ∨ _) with hx | hx
                  · exact z1 x hx
                  · exact z2 x hx
                refine .inr (.inr ⟨ph n, ph m, xs.map (vW ph), ys.map (vW ph), rfl, rfl, a1, a2, by rw [List.length_map, List.length_map]; exact m_line e, fun p hp => ?_⟩)
                have q2 := rd_new (o := fun _ => .lst ((xs ++ ys).map (vW ph))) q R hp (at_lst z)
                rw [← List.map_append]
                exact q2
              · rw [if_neg e] at q
                exact q.elim
            | _ => rw [e1, e2] at q; exact q.elim
        | _ => rw [e1] at q; exact q.elim
    | _ => exact q.elim
  | _ => exact q.elim
theorem e_add (ha : PE X a (tE X.K Ga pin Wd ma)) (hb : PE X b (tE X.K Ga pin Wd mb)) : PE X (.BinOp a .Add b pos) (tE X.K Ga pin Wd (eBin gAdd ma mb)) := e_bin op_addA s_add ha hb
theorem e_lt (ha : PE X a (tE X.K Ga pin Wd ma)) (hb : PE X b (tE X.K Ga pin Wd mb)) : PE X (.Compare a [.Lt] [b] pos) (tE X.K Ga pin Wd (eBin gLt ma mb)) := e_cmp op_lt s_intCmp ha hb (nomark _)
theorem e_le (ha : PE X a (tE X.K Ga pin Wd ma)) (hb : PE X b (tE X.K Ga pin Wd mb)) : PE X (.Compare a [.LtE] [b] pos) (tE X.K Ga pin Wd (eBin gLe ma mb)) := e_cmp op_le s_intCmp ha hb (nomark _)
theorem e_gt (ha : PE X a (tE X.K Ga pin Wd ma)) (hb : PE X b (tE X.K Ga pin Wd mb)) : PE X (.Compare a [.Gt] [b] pos) (tE X.K Ga pin Wd (eBin gGt ma mb)) := e_cmp op_gt s_intCmp ha hb (nomark _)
theorem e_ge (ha : PE X a (tE X.K Ga pin Wd ma)) (hb : PE X b (tE X.K Ga pin Wd mb)) : PE X (.Compare a [.GtE] [b] pos) (tE X.K Ga pin Wd (eBin gGe ma mb)) := e_cmp op_ge s_intCmp ha hb (nomark _)
/-! ### == -/
theorem scl_scal {ph : Nat → Addr} {x y : Mini.W} (e : scl x y = true) : scal (vW ph x) (vW ph y) = true := by
  cases x <;> cases y <;> first | rfl | exact e
theorem scl_inj {ph : Nat → Addr} {x y : Mini.W} (e : scl x y = true) : decide (vW ph x = vW ph y) = decide (x = y) := by
  cases x with
  | bl a => cases y with
    | bl b => simp [vW]
    | _ => first | rfl | exact nomatch e
  | int a => cases y with
    | int b => simp [vW]
    | _ => first | rfl | exact nomatch e
  | str a => cases y with
    | str b => simp [vW]
    | _ => first | rfl | exact nomatch e
  | non => cases y with
    | ref _ => exact nomatch e
    | _ => rfl
  | ref a => cases y <;> exact nomatch e
theorem seqAt_ok {K : PySem.W.Frag} {n : Nat} {xs : List Mini.W} (R : HR K Ga ph h H) (e : seqAt h n = some xs) : (SqL K H (ph n) (xs.map (vW ph)) ∨ SqT K H (ph n) (xs.map (vW ph))) ∧ ∀ x ∈ xs, wf h.length x := by
  unfold seqAt at e
  cases e1 : h[n]? with
  | none => rw [e1] at e; cases e
  | some c =>
    have q := R.cells n c e1
    cases c with
    | lst ys => rw [e1] at e; cases e; exact ⟨.inl (.inl (.inl q.1)), q.2⟩
    | tup ys => rw [e1] at e; cases e; exact ⟨.inr (.inl (.inl q.1)), q.2⟩
    | fz ys => rw [e1] at e; cases e; obtain ⟨⟨o, q1⟩, q2⟩ := q; exact ⟨.inl (.inl (.inr ⟨o, q1⟩)), q2⟩
    | cl ys => rw [e1] at e; cases e; exact ⟨.inl (.inr q.1), q.2⟩
    | ct ys => rw [e1] at e; cases e; exact ⟨.inr (.inr q.1), q.2⟩
    | _ => rw [e1] at e; cases e
theorem dataAll_ok {K : PySem.W.Frag} {f : Mini.W → Option PyData} (hf : ∀ x d, wf h.length x → f x = some d → Dp K H (vW ph x) d) : ∀ {xs : List Mini.W} {ds : List PyData}, (∀ x ∈ xs, wf h.length x) → dataAll f xs = some ds → DpAll K H (xs.map (vW ph)) ds
  | [], ds, _, e => by cases e; exact .nil
  | x :: xs, ds, z, e => by
    simp only [dataAll] at e
    cases e1 : f x with
    | none => rw [e1] at e; cases e
    | some d =>
      cases e2 : dataAll f xs with
      | none => rw [e1, e2] at e; cases e
      | some ds' =>
        rw [e1, e2] at e
        cases e
        exact .cons (hf x d (z x List.mem_cons_self) e1) (dataAll_ok hf (fun y hy => z y (List.mem_cons_of_mem _ hy)) e2)
theorem dataOf_ok {K : PySem.W.Frag} (R : HR K Ga ph h H) : ∀ (n : Nat) (x : Mini.W) (d : PyData), wf h.length x → Mini.dataOf h n x = some d → Dp K H (vW ph x) d
  | 0, x, d, _, e => by cases e
  | n + 1, x, d, z, e => by
    simp only [Mini.dataOf] at e
    cases x with
    | non => cases e; exact .non
    | bl b => cases e; exact .bl b
    | int i => cases e; exact .int i
    | str s => cases e; exact .str s
    | ref k =>
      simp only [] at e
      have ih := dataOf_ok R n
      have go : ∀ {xs : List Mini.W} {f : List PyData → PyData}, (dataAll (Mini.dataOf h n) xs).map f = some d → (∀ x ∈ xs, wf h.length x) → ∃ ds, d = f ds ∧ DpAll K H (xs.map (vW ph)) ds := fun {xs f} e z => by
        cases e1 : dataAll (Mini.dataOf h n) xs with
        | none => rw [e1] at e; cases e
        | some ds => rw [e1] at e; cases e; exact ⟨ds, rfl, dataAll_ok (fun x d => ih x d) z e1⟩
      cases e1 : h[k]? with
      | none => rw [e1] at e; cases e
      | some c =>
        have q := R.cells k c e1
        cases c with
        | lst ys => rw [e1] at e; obtain ⟨ds, rfl, z2⟩ := go e q.2; exact .lst (.inl (.inl q.1)) z2
        | fz ys => rw [e1] at e; obtain ⟨ds, rfl, z2⟩ := go e q.2; obtain ⟨⟨o, q1⟩, q2⟩ := q; exact .lst (.inl (.inr ⟨o, q1⟩)) z2
        | cl ys => rw [e1] at e; obtain ⟨ds, rfl, z2⟩ := go e q.2; exact .lst (.inr q.1) z2
        | tup ys => rw [e1] at e; obtain ⟨ds, rfl, z2⟩ := go e q.2; exact .tup (.inl (.inl q.1)) z2
        | ct ys => rw [e1] at e; obtain ⟨ds, rfl, z2⟩ := go e q.2; exact .tup (.inr q.1) z2
        | _ => rw [e1] at e; cases e
def rEqA (K : PySem.W.Frag) : R2 := fun x y H Q => rEq x y H Q ∨ rEqD K x y H Q
def rNeA (K : PySem.W.Frag) : R2 := fun x y H Q => rNe x y H Q ∨ rNeD K x y H Q
theorem eqB_ok {K : PySem.W.Frag} {x y : Mini.W} {k : Bool} (R : HR K Ga ph h H) (w1 : wf h.length x) (w2 : wf h.length y) (e : eqB x y h = some k) :
    (scal (vW ph x) (vW ph y) = true ∧ decide (vW ph x = vW ph y) = k) ∨ ∃ d f, Dp K H (vW ph x) d ∧ Dp K H (vW ph y) f ∧ SeqAt.shaped d = true ∧ SeqAt.shaped f = true ∧ PyData.eqv d f = k := by
  unfold eqB at e
  by_cases c : scl x y = true
  · rw [if_pos c] at e
    cases e
    exact .inl ⟨scl_scal c, scl_inj c⟩
  · rw [if_neg c] at e
    cases e1 : Mini.dataOf h dep x with
    | none => rw [e1] at e; cases e
    | some d =>
      cases e2 : Mini.dataOf h dep y with
      | none => rw [e1, e2] at e; cases e
      | some f =>
        rw [e1, e2] at e
        simp only [] at e
        by_cases c2 : SeqAt.shaped d = true ∧ SeqAt.shaped f = true
        · rw [if_pos c2] at e
          cases e
          exact .inr ⟨d, f, dataOf_ok R _ _ _ w1 e1, dataOf_ok R _ _ _ w2 e2, c2.1, c2.2, rfl⟩
        · rw [if_neg c2] at e
          cases e
theorem s_eq : BinS X Ga gEq (rEqA X.K) := by
  intro Wd ph h H sg x y Q R w1 w2 q
  unfold gEq at q
  cases e : eqB x y h with
  | none => rw [e] at q; exact q.elim
  | some k =>
    rw [e] at q
    have q' : Q (.bl k) H := rd_ok q R trivial
    rcases eqB_ok R w1 w2 e with ⟨z1, z2⟩ | ⟨d, f, z1, z2, z3, z4, z5⟩
    · exact .inl ⟨z1, by rw [z2]; exact q'⟩
    · exact .inr ⟨d, f, z1, z2, z3, z4, by rw [z5]; exact q'⟩
theorem s_ne : BinS X Ga gNe (rNeA X.K) := by
  intro Wd ph h H sg x y Q R w1 w2 q
  unfold gNe at q
  cases e : eqB x y h with
  | none => rw [e] at q; exact q.elim
  | some k =>
    rw [e] at q
    have q' : Q (.bl (!k)) H := rd_ok q R trivial
    rcases eqB_ok R w1 w2 e with ⟨z1, z2⟩ | ⟨d, f, z1, z2, z3, z4, z5⟩
    · exact .inl ⟨z1, by rw [z2]; exact q'⟩
    · exact .inr ⟨d, f, z1, z2, z3, z4, by rw [z5]; exact q'⟩
theorem e_eq (hu : X.A.units + 64 < cLine) (ha : PE X a (tE X.K Ga pin Wd ma)) (hb : PE X b (tE X.K Ga pin Wd mb)) : PE X (.Compare a [.Eq] [b] pos) (tE X.K Ga pin Wd (eBin gEq ma mb)) := e_cmp (OpR.or op_eq (op_eqD hu)) s_eq ha hb (nomark _)
theorem e_ne (hu : X.A.units + 64 < cLine) (ha : PE X a (tE X.K Ga pin Wd ma)) (hb : PE X b (tE X.K Ga pin Wd mb)) : PE X (.Compare a [.NotEq] [b] pos) (tE X.K Ga pin Wd (eBin gNe ma mb)) := e_cmp (OpR.or op_ne (op_neD hu)) s_ne ha hb (nomark _)
theorem vW_non {ph : Nat → Addr} {x : Mini.W} : decide (vW ph x = .non) = decide (x = .non) := by cases x <;> simp [vW]
theorem s_isN : BinS X Ga gIsN (fun x y H Q => y = .non ∧ Q (.bl (decide (x = .non))) H) := by
  intro Wd ph h H sg x y Q R w1 w2 q
  cases y with
  | non =>
    refine ⟨rfl, ?_⟩
    rw [vW_non]
    exact rd_ok (w := .bl (decide (x = .non))) q R trivial
  | _ => exact q.elim
theorem s_notN : BinS X Ga gNotN (fun x y H Q => y = .non ∧ Q (.bl (!decide (x = .non))) H) := by
  intro Wd ph h H sg x y Q R w1 w2 q
  cases y with
  | non =>
    refine ⟨rfl, ?_⟩
    rw [vW_non]
    exact rd_ok (w := .bl (!decide (x = .non))) q R trivial
  | _ => exact q.elim
theorem e_isN (ha : PE X a (tE X.K Ga pin Wd ma)) (hb : PE X b (tE X.K Ga pin Wd mb)) : PE X (.Compare a [.Is] [b] pos) (tE X.K Ga pin Wd (eBin gIsN ma mb)) := e_cmp op_isN s_isN ha hb (nomark _)
theorem e_notN (ha : PE X a (tE X.K Ga pin Wd ma)) (hb : PE X b (tE X.K Ga pin Wd mb)) : PE X (.Compare a [.IsNot] [b] pos) (tE X.K Ga pin Wd (eBin gNotN ma mb)) := e_cmp op_notN s_notN ha hb (nomark _)
/-! ### subscripts -/
theorem ixOf_eq {n : Nat} {i : Int} : ixOf n i = ixN n i := rfl
theorem s_ix : BinS X Ga gIx (rIx X.K) := by
  intro Wd ph h H sg x y Q R w1 w2 q
  cases x with
  | ref n => cases y with
    | int i =>
      simp only [gIx] at q
      cases e1 : seqAt h n with
      | none => rw [e1] at q; exact q.elim
      | some xs =>
        rw [e1] at q
        simp only [] at q
        obtain ⟨z, zw⟩ := seqAt_ok R e1
        cases e2 : (ixOf xs.length i).bind fun j => xs[j]? with
        | none => rw [e2] at q; exact q.elim
        | some w =>
          rw [e2] at q
          simp only [] at q
          have ha : atI (xs.map (vW ph)) i = some (vW ph w) := by
            unfold atI
            rw [List.length_map, ← ixOf_eq]
            cases e3 : ixOf xs.length i with
            | none => rw [e3] at e2; cases e2
            | some j =>
              rw [e3] at e2
              have e2' : xs[j]? = some w := e2
              show (xs.map (vW ph))[j]? = _
              rw [List.getElem?_map, e2'] <;> rfl
          have hw : wf h.length w := by
            cases e3 : ixOf xs.length i with
            | none => rw [e3] at e2; cases e2
            | some j =>
              rw [e3] at e2
              exact zw w (List.mem_of_getElem? (show xs[j]? = some w from e2))
          have q' := rd_ok q R hw
          rcases z with z | z
          · exact .inl ⟨ph n, _, i, _, rfl, rfl, z, ha, q'⟩
          · exact .inr (.inl ⟨ph n, _, i, _, rfl, rfl, z, ha, q'⟩)
    | _ => exact q.elim
  | _ => exact q.elim
theorem e_sub_ (ha : PE X a (tE X.K Ga pin Wd ma)) (hb : PE X b (tE X.K Ga pin Wd mb)) (hs : PlainIx b) : PE X (.Subscript a b pos) (tE X.K Ga pin Wd (eBin gIx ma mb)) := e_ix ix_seq s_ix ha hb hs
/-! ### one-place -/
theorem e_un {op : UnaryOp} {g : Mini.W → MH → Mini.R Mini.W} {r : V → Hp → VK → Prop} (ho : UnR X (unaryOp op) r)
    (hg : ∀ (ph : Nat → Addr) (h : MH) (H : Hp) (sg : L2.St) (x : Mini.W) (Q : VK), HR X.K Ga ph h H → wf h.length x → rd X.K Ga Wd relW ph h sg (g x h) Q → r (vW ph x) H Q) (ha : PE X a (tE X.K Ga pin Wd ma)) :
    PE X (.UnaryOp op a pos) (tE X.K Ga pin Wd (eUn g ma)) :=
  PE.imp (pe_un ho ha) fun sg H Q ⟨ph, h, r, s, x⟩ => ⟨ph, h, r, s, x.bind fun u h1 _ ph1 H1 b1 g1 R1 ⟨eb1, w1⟩ x1 => by
    rw [eb1]
    exact hg ph1 h1 H1 sg u Q R1 w1 x1⟩
theorem e_neg (ha : PE X a (tE X.K Ga pin Wd ma)) : PE X (.UnaryOp .USub a pos) (tE X.K Ga pin Wd (eUn gNeg ma)) := e_un un_neg (fun ph h H sg x Q R w q => by
  cases x with
  | int i => exact ⟨i, rfl, rd_ok q R trivial⟩
  | _ => exact q.elim) ha
/-! ### arguments, displays -/
theorem a_nil : PA X [] (tA X.K Ga pin Wd aNil) := PA.imp pa_nil fun sg H Q ⟨ph, h, r, s, x⟩ => rd_okA (ws := []) x s.hr (fun _ hx => nomatch hx)
theorem a_cons {me : Mini.E} {ms : Mini.A} (he : PE X e (tE X.K Ga pin Wd me)) (hr : PA X es (tA X.K Ga pin Wd ms)) (hs : starEach (e :: es) X.env = (false, eval e X.env) :: starEach es X.env := by rfl) : PA X (e :: es) (tA X.K Ga pin Wd (aCons me ms)) := by
  refine PA.imp (pa_cons he hr hs) fun sg H Q ⟨ph, h, r, s, x⟩ => ?_
  refine ⟨ph, h, r, s, x.bind fun u h1 _ ph1 H1 b1 g1 R1 ⟨eb1, w1⟩ x1 => ?_⟩
  refine ⟨ph1, h1, r, s.grow g1 R1, x1.bind fun us h2 _ ph2 H2 b2 g2 R2 ⟨eb2, w2⟩ x2 => ?_⟩
  rw [eb1, eb2, ← g2.v w1]
  refine rd_okA (ws := u :: us) x2 R2 fun w hw => ?_
  rcases List.mem_cons.mp hw with hw | hw
  · rw [hw]; exact w1.mono g2.le
  · exact w2 w hw
theorem m_line3 {n : Nat} (q : n ≤ 1000) : n ≤ sizeLine := m_line6 (Nat.le_trans q (by decide))
theorem e_tup {x1 : Nat} {ms : Mini.A} (hes : PA X es (tA X.K Ga pin Wd ms)) : PE X (.Tuple es x1 pos) (tE X.K Ga pin Wd (eTup ms)) := by
  refine PE.imp (pe_tup hes) fun sg H Q ⟨ph, h, r, s, x⟩ => ?_
  refine ⟨ph, h, r, s, x.bind fun us h1 _ ph1 H1 b1 g1 R1 ⟨eb1, w1⟩ x1 => ?_⟩
  by_cases c : us.length ≤ 1000
  · rw [if_pos c] at x1
    rw [eb1]
    exact ⟨by rw [List.length_map]; exact m_line3 c, fun p hp => rd_new (o := fun _ => .tup (us.map (vW ph1))) x1 R1 hp (at_tup w1)⟩
  · rw [if_neg c] at x1
    exact x1.elim
theorem e_lst {ms : Mini.A} (hes : PA X es (tA X.K Ga pin Wd ms)) : PE X (.List es pos) (tE X.K Ga pin Wd (eLst ms)) := by
  refine PE.imp (pe_lst hes) fun sg H Q ⟨ph, h, r, s, x⟩ => ?_
  refine ⟨ph, h, r, s, x.bind fun us h1 _ ph1 H1 b1 g1 R1 ⟨eb1, w1⟩ x1 => ?_⟩
  by_cases c : us.length ≤ 1000
  · rw [if_pos c] at x1
    rw [eb1]
    exact ⟨by rw [List.length_map]; exact m_line3 c, fun p hp => rd_new (o := fun _ => .lst (us.map (vW ph1))) x1 R1 hp (at_lst w1)⟩
  · rw [if_neg c] at x1
    exact x1.elim
theorem e_dic0 : PE X (.Dict [] [] pos) (tE X.K Ga pin Wd eDic0) := PE.imp pe_dnewK fun sg H Q ⟨ph, h, r, s, x⟩ p hp =>
  rd_new (o := fun _ => .dK []) x s.hr hp ⟨upd_same, fun _ hx => nomatch hx⟩
end
end Br
set_option Elab.async false
set_option autoImplicit false
set_option linter.all false
set_option maxRecDepth 100000
set_option maxHeartbeats 1100000
namespace Br
open PySem PySem.Spec PyProof.Rows L2 Mini
section
variable {X : Cx} {Ga : Nat → Addr} {pin : Pin} {Wd : WX} {ph : Nat → Addr} {h : MH} {r : Mini.Env} {sg : L2.St} {H : Hp} {a b c e : Expr} {es rest : List Expr} {pos : Pos} {ma mb mc m : Mini.E} {ta tb : Mini.T} {ms : Mini.A}
/-! ### tests -/
theorem isEmptyV {xs : List Mini.W} : (xs.map (vW ph)).isEmpty = xs.isEmpty := by cases xs <;> rfl
theorem isEmptyK {xs : List (Sum Int Str × Mini.W)} : (kvV ph xs).isEmpty = xs.isEmpty := by cases xs <;> rfl
theorem tru_is {K : PySem.W.Frag} {w : Mini.W} {k : Bool} (R : HR K Ga ph h H) (e : tru w h = some k) : TruV K (vW ph w) H k := by
  cases w with
  | non => cases e; rfl
  | bl b => cases e; rfl
  | int i => cases e; rfl
  | str s =>
    simp only [tru] at e
    by_cases c : s.length ≤ 1000000
    · rw [if_pos c] at e
      cases e
      refine ⟨m_line6 c, ?_⟩
      rw [Bool.eq_iff_iff, bne_iff_ne, bne_iff_ne]
      omega
    · rw [if_neg c] at e
      cases e
  | ref n =>
    simp only [tru] at e
    cases e1 : h[n]? with
    | none => rw [e1] at e; cases e
    | some cl =>
      have q := R.cells n cl e1
      rw [e1] at e
      cases cl with
      | lst xs => cases e; exact .inl ⟨_, .inl (.inl q.1), by rw [isEmptyV]⟩
      | fz xs => cases e; obtain ⟨⟨o, q1⟩, _⟩ := q; exact .inl ⟨_, .inl (.inr ⟨o, q1⟩), by rw [isEmptyV]⟩
      | cl xs => cases e; exact .inl ⟨_, .inr q.1, by rw [isEmptyV]⟩
      | tup xs => cases e; exact .inr (.inl ⟨_, .inl (.inl q.1), by rw [isEmptyV]⟩)
      | ct xs => cases e; exact .inr (.inl ⟨_, .inr q.1, by rw [isEmptyV]⟩)
      | dic kvs => cases e; exact .inr (.inr ⟨_, q.1, by rw [isEmptyK]⟩)
      | _ => cases e
theorem t_tru (ha : PE X a (tE X.K Ga pin Wd ma)) (he : ∀ whole, isTrue a X.env whole = (do let v ← whole; standAt a.pos; holding [v] (truthy v))) : PT X a (tT X.K Ga pin Wd (tTru ma)) := by
  refine PT.imp (pt_truth ha he) fun sg H Q ⟨ph, h, r, s, x⟩ => ?_
  refine ⟨ph, h, r, s, x.bind fun u h1 _ ph1 H1 b1 g1 R1 ⟨eb1, w1⟩ x1 => ?_⟩
  cases e1 : tru u h1 with
  | none => rw [e1] at x1; exact x1.elim
  | some k =>
    rw [e1] at x1
    rw [eb1]
    exact ⟨k, tru_is R1 e1, rd_okB x1 R1⟩
theorem t_bl (ha : PE X a (tE X.K Ga pin Wd ma)) (he : ∀ whole, isTrue a X.env whole = (do let v ← whole; standAt a.pos; holding [v] (truthy v)) := by intro _; rfl) : PT X a (tT X.K Ga pin Wd (tBl ma)) := by
  refine PT.imp (pt_val ha he) fun sg H Q ⟨ph, h, r, s, x⟩ => ?_
  refine ⟨ph, h, r, s, x.bind fun u h1 _ ph1 H1 b1 g1 R1 ⟨eb1, w1⟩ x1 => ?_⟩
  cases u with
  | bl k => exact ⟨k, eb1, rd_okB x1 R1⟩
  | _ => exact x1.elim
theorem t_cmp {op : CmpOp} {g : Mini.W → Mini.W → MH → Mini.R Mini.W} {rr : R2} (ho : OpR X (compareOp op) rr) (hg : BinS X Ga g rr) (ha : PE X a (tE X.K Ga pin Wd ma)) (hb : PE X b (tE X.K Ga pin Wd mb)) (hm : behindInMarks op b = false) :
    PT X (.Compare a [op] [b] pos) (tT X.K Ga pin Wd (tBl (eBin g ma mb))) := by
  refine PT.imp (pt_cmpR ho ha hb hm) fun sg H Q ⟨ph, h, r, s, x⟩ => ?_
  have y : tE X.K Ga pin Wd (eBin g ma mb) sg H fun v H' => ∃ k, v = .bl k ∧ Q k H' := ⟨ph, h, r, s, x.bind fun u h1 _ ph1 H1 b1 g1 R1 ⟨eb1, w1⟩ x1 => by
    cases u with
    | bl k => exact ⟨k, eb1, rd_okB x1 R1⟩
    | _ => exact x1.elim⟩
  exact two_of y fun ph h H u v R w1 w2 x2 => hg Wd ph h H sg u v _ R w1 w2 x2
theorem w_and1 (ha : PT X a (tT X.K Ga pin Wd ta)) : PW X (.BoolOp .And [a] pos) (tT X.K Ga pin Wd ta) := pw_and1 ha
theorem w_or1 (ha : PT X a (tT X.K Ga pin Wd ta)) : PW X (.BoolOp .Or [a] pos) (tT X.K Ga pin Wd ta) := pw_or1 ha
theorem w_and (ha : PT X a (tT X.K Ga pin Wd ta)) (hb : PW X (.BoolOp .And (b :: rest) pos) (tT X.K Ga pin Wd tb)) : PW X (.BoolOp .And (a :: b :: rest) pos) (tT X.K Ga pin Wd (Mini.tAnd ta tb)) := by
  refine PW.imp (pw_and ha hb) fun sg H Q ⟨ph, h, r, s, x⟩ => ?_
  refine ⟨ph, h, r, s, x.bind fun k h1 _ ph1 H1 b1 g1 R1 eb1 x1 => ?_⟩
  cases k with
  | true =>
    rw [show b1 = true from eb1, if_pos rfl]
    exact ⟨ph1, h1, r, s.grow g1 R1, x1⟩
  | false =>
    rw [show b1 = false from eb1, if_neg Bool.false_ne_true]
    exact rd_okB x1 R1
theorem w_or (ha : PT X a (tT X.K Ga pin Wd ta)) (hb : PW X (.BoolOp .Or (b :: rest) pos) (tT X.K Ga pin Wd tb)) : PW X (.BoolOp .Or (a :: b :: rest) pos) (tT X.K Ga pin Wd (Mini.tOr ta tb)) := by
  refine PW.imp (pw_or ha hb) fun sg H Q ⟨ph, h, r, s, x⟩ => ?_
  refine ⟨ph, h, r, s, x.bind fun k h1 _ ph1 H1 b1 g1 R1 eb1 x1 => ?_⟩
  cases k with
  | true =>
    rw [show b1 = true from eb1, if_pos rfl]
    exact rd_okB x1 R1
  | false =>
    rw [show b1 = false from eb1, if_neg Bool.false_ne_true]
    exact ⟨ph1, h1, r, s.grow g1 R1, x1⟩
theorem t_not (ha : PT X a (tT X.K Ga pin Wd ta)) : PT X (.UnaryOp .Not a pos) (tT X.K Ga pin Wd (Mini.tNot ta)) := by
  refine PT.imp (pt_not ha) fun sg H Q ⟨ph, h, r, s, x⟩ => ?_
  refine ⟨ph, h, r, s, x.bind fun k h1 _ ph1 H1 b1 g1 R1 eb1 x1 => ?_⟩
  rw [show b1 = k from eb1]
  exact rd_okB x1 R1
theorem e_if (hc : PT X c (tT X.K Ga pin Wd ta)) (ha : PE X a (tE X.K Ga pin Wd ma)) (hb : PE X b (tE X.K Ga pin Wd mb)) : PE X (.IfExp c a b pos) (tE X.K Ga pin Wd (eIf ta ma mb)) := by
  refine PE.imp (pe_ifExp hc ha hb) fun sg H Q ⟨ph, h, r, s, x⟩ => ?_
  refine ⟨ph, h, r, s, x.bind fun k h1 _ ph1 H1 b1 g1 R1 eb1 x1 => ?_⟩
  cases k with
  | true =>
    rw [show b1 = true from eb1, if_pos rfl]
    exact ⟨ph1, h1, r, s.grow g1 R1, x1⟩
  | false =>
    rw [show b1 = false from eb1, if_neg Bool.false_ne_true]
    exact ⟨ph1, h1, r, s.grow g1 R1, x1⟩
theorem e_one {op : BoolOp} (ha : PE X a (tE X.K Ga pin Wd ma)) : PE X (.BoolOp op [a] pos) (tE X.K Ga pin Wd ma) := pe_one ha
theorem e_and (ha : PE X a (tE X.K Ga pin Wd ma)) (hb : PE X (.BoolOp .And (b :: rest) pos) (tE X.K Ga pin Wd mb)) : PE X (.BoolOp .And (a :: b :: rest) pos) (tE X.K Ga pin Wd (eAnd ma mb)) := by
  refine PE.imp (pe_and ha hb) fun sg H Q ⟨ph, h, r, s, x⟩ => ?_
  refine ⟨ph, h, r, s, x.bind fun u h1 _ ph1 H1 b1 g1 R1 ⟨eb1, w1⟩ x1 => ?_⟩
  cases u with
  | bl k =>
    refine ⟨k, eb1, ?_⟩
    cases k with
    | true =>
      rw [if_pos rfl]
      exact ⟨ph1, h1, r, s.grow g1 R1, x1⟩
    | false =>
      rw [if_neg (fun z => nomatch z)]
      exact rd_ok (w := .bl false) x1 R1 trivial
  | _ => exact x1.elim
theorem e_or (ha : PE X a (tE X.K Ga pin Wd ma)) (hb : PE X (.BoolOp .Or (b :: rest) pos) (tE X.K Ga pin Wd mb)) : PE X (.BoolOp .Or (a :: b :: rest) pos) (tE X.K Ga pin Wd (eOr ma mb)) := by
  refine PE.imp (pe_or ha hb) fun sg H Q ⟨ph, h, r, s, x⟩ => ?_
  refine ⟨ph, h, r, s, x.bind fun u h1 _ ph1 H1 b1 g1 R1 ⟨eb1, w1⟩ x1 => ?_⟩
  cases u with
  | bl k =>
    refine ⟨k, eb1, ?_⟩
    cases k with
    | true =>
      rw [if_pos rfl]
      exact rd_ok (w := .bl true) x1 R1 trivial
    | false =>
      rw [if_neg (fun z => nomatch z)]
      exact ⟨ph1, h1, r, s.grow g1 R1, x1⟩
  | _ => exact x1.elim
theorem e_not (ha : PE X a (tE X.K Ga pin Wd ma)) : PE X (.UnaryOp .Not a pos) (tE X.K Ga pin Wd (eNot ma)) := by
  refine PE.imp (pe_not ha) fun sg H Q ⟨ph, h, r, s, x⟩ => ?_
  refine ⟨ph, h, r, s, x.bind fun u h1 _ ph1 H1 b1 g1 R1 ⟨eb1, w1⟩ x1 => ?_⟩
  cases u with
  | bl k => exact ⟨k, eb1, rd_ok (w := .bl (!k)) x1 R1 trivial⟩
  | _ => exact x1.elim
/-- a OP b OP' c -/
theorem chain_of {g g' : Mini.W → Mini.W → MH → Mini.R Mini.W} {rr rr' : R2} (hg : BinS X Ga g rr) (hg' : BinS X Ga g' rr') (sg : L2.St) (H : Hp) (Q : VK) (x : tE X.K Ga pin Wd (eChain g g' ma mb mc) sg H Q) :
    tChain rr rr' (tE X.K Ga pin Wd ma) (tE X.K Ga pin Wd mb) (tE X.K Ga pin Wd mc) sg H Q := by
  obtain ⟨ph, h, r, s, x⟩ := x
  refine ⟨ph, h, r, s, x.bind fun u h1 e1 ph1 H1 b1 g1 R1 ⟨eb1, w1⟩ x1 => ?_⟩
  refine ⟨ph1, h1, r, s.grow g1 R1, x1.bind fun v h2 e2 ph2 H2 b2 g2 R2 ⟨eb2, w2⟩ x2 => ?_⟩
  rw [eb1, eb2, ← g2.v w1]
  refine hg Wd ph2 h2 H2 sg u v _ R2 (w1.mono g2.le) w2 (x2.bind fun z h3 e3 ph3 H3 b3 g3 R3 ⟨eb3, w3⟩ x3 => ?_)
  cases z with
  | bl k =>
    refine ⟨k, eb3, ?_⟩
    cases k with
    | true =>
      rw [if_pos rfl]
      refine ⟨ph3, h3, r, (s.grow g1 R1).grow (g2.trans g3) R3, x3.bind fun t h4 e4 ph4 H4 b4 g4 R4 ⟨eb4, w4⟩ x4 => ?_⟩
      rw [eb4, ← g3.v w2, ← g4.v (w2.mono g3.le)]
      exact hg' Wd ph4 h4 H4 sg v t Q R4 ((w2.mono g3.le).mono g4.le) w4 x4
    | false =>
      rw [if_neg (fun z => nomatch z)]
      exact rd_ok (w := .bl false) x3 R3 trivial
  | _ => exact x3.elim
theorem e_chain {op op' : CmpOp} {g g' : Mini.W → Mini.W → MH → Mini.R Mini.W} {rr rr' : R2} (ho : OpR X (compareOp op) rr) (hg : BinS X Ga g rr) (ho' : OpR X (compareOp op') rr') (hg' : BinS X Ga g' rr')
    (ha : PE X a (tE X.K Ga pin Wd ma)) (hb : PE X b (tE X.K Ga pin Wd mb)) (hc : PE X c (tE X.K Ga pin Wd mc)) (hm : lastMarks [op, op'] [b, c] = false := by with_unfolding_all rfl) :
    PE X (.Compare a [op, op'] [b, c] pos) (tE X.K Ga pin Wd (eChain g g' ma mb mc)) := PE.imp (pe_chain ho ho' ha hb hc hm) (chain_of hg hg')
theorem t_chain {op op' : CmpOp} {g g' : Mini.W → Mini.W → MH → Mini.R Mini.W} {rr rr' : R2} (ho : OpR X (compareOp op) rr) (hg : BinS X Ga g rr) (ho' : OpR X (compareOp op') rr') (hg' : BinS X Ga g' rr')
    (ha : PE X a (tE X.K Ga pin Wd ma)) (hb : PE X b (tE X.K Ga pin Wd mb)) (hc : PE X c (tE X.K Ga pin Wd mc)) (hm : lastMarks [op, op'] [b, c] = false := by with_unfolding_all rfl) :
    PT X (.Compare a [op, op'] [b, c] pos) (tT X.K Ga pin Wd (tBl (eChain g g' ma mb mc))) := by
  refine PT.imp (pt_chain ho ho' ha hb hc hm) fun sg H Q ⟨ph, h, r, s, x⟩ => ?_
  exact chain_of hg hg' sg H _ ⟨ph, h, r, s, x.bind fun u h1 _ ph1 H1 b1 g1 R1 ⟨eb1, w1⟩ x1 => by
    cases u with
    | bl k => exact ⟨k, eb1, rd_okB x1 R1⟩
    | _ => exact x1.elim⟩
/-! ### built-in functions -/
def FnS (X : Cx) (Ga : Nat → Addr) (g : List Mini.W → MH → Mini.R Mini.W) (rr : List V → Hp → VK → Prop) : Prop :=
  ∀ (Wd : WX) (ph : Nat → Addr) (h : MH) (H : Hp) (sg : L2.St) (xs : List Mini.W) (Q : VK), HR X.K Ga ph h H → (∀ x ∈ xs, wf h.length x) → rd X.K Ga Wd relW ph h sg (g xs h) Q → rr (xs.map (vW ph)) H Q
theorem fn_of_ {g : List Mini.W → MH → Mini.R Mini.W} {rr : List V → Hp → VK → Prop} (hg : FnS X Ga g rr) (sg : L2.St) (H : Hp) (Q : VK) (x : tE X.K Ga pin Wd (eFn g ms) sg H Q) : tA X.K Ga pin Wd ms sg H fun vs H1 => rr vs H1 Q := by
  obtain ⟨ph, h, r, s, x⟩ := x
  refine ⟨ph, h, r, s, x.bind fun us h1 _ ph1 H1 b1 g1 R1 ⟨eb1, w1⟩ x1 => ?_⟩
  rw [eb1]
  exact hg Wd ph1 h1 H1 sg us Q R1 w1 x1
theorem e_fnB {x : Str} {id : String} {p : Pos} {g : List Mini.W → MH → Mini.R Mini.W} {rr : List V → Hp → VK → Prop} (hc : CallR X (.builtin id) rr) (hg : FnS X Ga g rr) (hgl : Gl X x) (hm : X.mg x = none) (hv : bootBuiltins x = some (.builtin id)) (ha : PA X (e :: es) (tA X.K Ga pin Wd ms))
    (hn : x ≠ "__name__" := by decide) (hdb : (x == ("__debug__" : Str)) = false := by decide) (he : starEach (e :: es) X.env = (false, eval e X.env) :: starEach es X.env := by rfl) (hpl : (backTo pos (starEach es X.env)).any (·.1) = false := by rfl) :
    PE X (.Call (.Name x p) (e :: es) [] pos) (tE X.K Ga pin Wd (eFn g ms)) := PE.imp (pe_callB hc hgl hm hv ha hn hdb he hpl) (fn_of_ hg)
theorem e_fnT {x : Str} {ty : String} {p : Pos} {g : List Mini.W → MH → Mini.R Mini.W} {rr : List V → Hp → VK → Prop} (hc : CallR X (.type ty) rr) (hg : FnS X Ga g rr) (hgl : Gl X x) (hm : X.mg x = none) (hv : bootBuiltins x = some (.type ty)) (ha : PA X (e :: es) (tA X.K Ga pin Wd ms))
    (hn : x ≠ "__name__" := by decide) (hdb : (x == ("__debug__" : Str)) = false := by decide) (he : starEach (e :: es) X.env = (false, eval e X.env) :: starEach es X.env := by rfl) (hpl : (backTo pos (starEach es X.env)).any (·.1) = false := by rfl) :
    PE X (.Call (.Name x p) (e :: es) [] pos) (tE X.K Ga pin Wd (eFn g ms)) := PE.imp (pe_callTy hc hgl hm hv ha hn hdb he hpl) (fn_of_ hg)
theorem seq_len {K : PySem.W.Frag} {n : Nat} {xs : List Mini.W} (R : HR K Ga ph h H) (e : seqAt h n = some xs) : LenV K (.ref (ph n)) H xs.length := by
  rcases (seqAt_ok R e).1 with z | z
  · exact .inl ⟨_, z, by rw [List.length_map]⟩
  · exact .inr ⟨_, z, by rw [List.length_map]⟩
theorem f_len : FnS X Ga fLen (fun xs H Q => ∃ x n, xs = [x] ∧ LenV X.K x H n ∧ Q (.int n) H) := by
  intro Wd ph h H sg xs Q R wx q
  cases xs with
  | nil => exact q.elim
  | cons x r =>
    cases r with
    | cons y r => cases x <;> exact q.elim
    | nil =>
      cases x with
      | ref n =>
        simp only [fLen] at q
        cases e1 : seqAt h n with
        | none => rw [e1] at q; exact q.elim
        | some ys =>
          rw [e1] at q
          exact ⟨_, _, rfl, seq_len R e1, rd_ok (w := .int (ys.length : Nat)) q R trivial⟩
      | str s =>
        simp only [fLen] at q
        by_cases c : s.length ≤ 1000000
        · rw [if_pos c] at q
          exact ⟨_, _, rfl, ⟨m_line6 c, rfl⟩, rd_ok (w := .int (s.length : Nat)) q R trivial⟩
        · rw [if_neg c] at q
          exact q.elim
      | _ => exact q.elim
theorem f_abs : FnS X Ga fAbs (fun xs H Q => ∃ i, xs = [.int i] ∧ Q (.int (if i < 0 then -i else i)) H) := by
  intro Wd ph h H sg xs Q R wx q
  cases xs with
  | nil => exact q.elim
  | cons x r => cases r with
    | cons y r => cases x <;> exact q.elim
    | nil => cases x with
      | int i => exact ⟨i, rfl, rd_ok (w := .int (if i < 0 then -i else i)) q R trivial⟩
      | _ => exact q.elim
theorem f_int : FnS X Ga fInt (fun xs H Q => (∃ i, xs = [.int i] ∧ Q (.int i) H) ∨ ∃ k, xs = [.bl k] ∧ Q (.int (if k then 1 else 0)) H) := by
  intro Wd ph h H sg xs Q R wx q
  cases xs with
  | nil => exact q.elim
  | cons x r => cases r with
    | cons y r => cases x <;> exact q.elim
    | nil => cases x with
      | int i => exact .inl ⟨i, rfl, rd_ok (w := .int i) q R trivial⟩
      | _ => exact q.elim
theorem f_max2 : FnS X Ga fMax2 (fun xs H Q => ∃ i j, xs = [.int i, .int j] ∧ Q (.int (if j > i then j else i)) H) := by
  intro Wd ph h H sg xs Q R wx q
  match xs, q with
  | [.int i, .int j], q => exact ⟨i, j, rfl, rd_ok (w := .int (if j > i then j else i)) q R trivial⟩
theorem f_min2 : FnS X Ga fMin2 (fun xs H Q => ∃ i j, xs = [.int i, .int j] ∧ Q (.int (if j < i then j else i)) H) := by
  intro Wd ph h H sg xs Q R wx q
  match xs, q with
  | [.int i, .int j], q => exact ⟨i, j, rfl, rd_ok (w := .int (if j < i then j else i)) q R trivial⟩
theorem intsOf_ok : ∀ {xs : List Mini.W} {ns : List Int}, intsOf xs = some ns → xs = ns.map .int
  | [], ns, e => by cases e; rfl
  | .int i :: r, ns, e => by
    simp only [intsOf] at e
    cases e1 : intsOf r with
    | none => rw [e1] at e; cases e
    | some ms => rw [e1] at e; cases e; rw [intsOf_ok e1]; rfl
  | .non :: _, _, e => nomatch e
  | .bl _ :: _, _, e => nomatch e
  | .str _ :: _, _, e => nomatch e
  | .ref _ :: _, _, e => nomatch e
theorem map_int {ns : List Int} : (ns.map Mini.W.int).map (vW ph) = ns.map V.int := by rw [List.map_map]; rfl
theorem f_sum : FnS X Ga fSum (rSum X.K) := by
  intro Wd ph h H sg xs Q R wx q
  match xs, q with
  | [.ref a], q =>
    simp only [fSum] at q
    cases e1 : h[a]? with
    | none => rw [e1] at q; exact q.elim
    | some cl =>
      cases cl with
      | lst ys =>
        rw [e1] at q
        simp only [] at q
        cases e2 : intsOf ys with
        | none => rw [e2] at q; exact q.elim
        | some ns =>
          rw [e2] at q
          refine ⟨ph a, ns, rfl, ?_, rd_ok (w := .int ns.sum) q R trivial⟩
          have z := (R.cells a _ e1).1
          rw [intsOf_ok e2, map_int] at z
          exact .inl (.inl z)
      | _ => rw [e1] at q; exact q.elim
theorem f_list : FnS X Ga fList (fun xs H Q => ∃ p ys, xs = [.ref p] ∧ (SqL X.K H p ys ∨ SqT X.K H p ys) ∧ ∀ l, H l = none → Q (.ref l) (upd H l (.lst ys))) := by
  intro Wd ph h H sg xs Q R wx q
  match xs, q with
  | [.ref a], q =>
    simp only [fList] at q
    cases e1 : seqAt h a with
    | none => rw [e1] at q; exact q.elim
    | some ys =>
      rw [e1] at q
      obtain ⟨z1, z2⟩ := seqAt_ok R e1
      exact ⟨ph a, _, rfl, z1, fun l hl => rd_new (o := fun _ => .lst (ys.map (vW ph))) q R hl (at_lst z2)⟩
/-! ### isinstance of built-in classes -/
def tyName : Mini.Ty → String
  | .tInt => "int" | .tBool => "bool" | .tStr => "str" | .tList => "list" | .tTuple => "tuple" | .tDict => "dict"
def kindName : Option Mini.Ty → String
  | none => "NoneType"
  | some t => tyName t
theorem kit_kind {K : PySem.W.Frag} (k : Option Mini.Ty) (t : Mini.Ty) : PySem.W.kitOne K (.type (kindName k)) (.type (tyName t)) = some (Mini.isTy k t) := by
  refine kit_ty ?_
  cases k with
  | none => cases t <;> decide +kernel
  | some u => cases u <;> cases t <;> decide +kernel
theorem tyx_of {K : PySem.W.Frag} {w : Mini.W} (R : HR K Ga ph h H) (e : known w h = true) : TyX K H (vW ph w) (.type (kindName (Mini.kindOf w h))) := by
  cases w with
  | non => exact .base .non
  | bl b => exact .base (.bl b)
  | int i => exact .base (.int i)
  | str s => exact .base (.str s)
  | ref n =>
    simp only [known] at e
    simp only [Mini.kindOf]
    cases e1 : h[n]? with
    | none => rw [e1] at e; cases e
    | some cl =>
      have q := R.cells n cl e1
      rw [e1] at e
      cases cl with
      | lst xs => exact .base (.lst q.1)
      | fz xs => obtain ⟨⟨o, q1⟩, _⟩ := q; exact .base (.frz q1)
      | cl xs => obtain ⟨⟨o, its, m, e1, e2, _⟩, _⟩ := q; exact .kList e1 e2
      | tup xs => exact .base (.tup q.1)
      | ct xs => obtain ⟨⟨o, its, m, e1, e2, _⟩, _⟩ := q; exact .kTuple e1 e2
      | dic kvs => exact .base (.dK q.1)
      | _ => cases e
/-- isinstance(x, T) -/
theorem e_isi {x T : Str} {ty : Mini.Ty} {p p2 : Pos} (hx : x = "isinstance") (hgl : Gl X x) (hm : X.mg x = none) (hgl2 : Gl X T) (hm2 : X.mg T = none) (hv2 : bootBuiltins T = some (.type (tyName ty))) (hn2 : T ≠ "__name__" := by decide) (hd2 : (T == ("__debug__" : Str)) = false := by decide)
    (ha : PE X a (tE X.K Ga pin Wd ma)) (he : starEach (a :: [.Name T p2]) X.env = (false, eval a X.env) :: starEach [.Name T p2] X.env := by rfl) (he2 : starEach (.Name T p2 :: []) X.env = (false, eval (.Name T p2) X.env) :: starEach [] X.env := by rfl) (hpl : (backTo pos (starEach [.Name T p2] X.env)).any (·.1) = false := by rfl) :
    PE X (.Call (.Name x p) [a, .Name T p2] [] pos) (tE X.K Ga pin Wd (eUn (gIsi ty) ma)) := by
  subst hx
  have ht : PE X (.Name T p2) (tC (.ty (tyName ty))) := pe_bltn hgl2 hm2 hv2 rfl hn2 hd2
  refine PE.imp (pe_callB call_isi hgl hm (by decide +kernel) (pa_cons ha (pa_cons ht pa_nil he2) he) (by decide) (by decide) he hpl) fun sg H Q ⟨ph, h, r, s, x⟩ => ?_
  refine ⟨ph, h, r, s, x.bind fun u h1 _ ph1 H1 b1 g1 R1 ⟨eb1, w1⟩ x1 => ?_⟩
  unfold gIsi at x1
  by_cases k : known u h1 = true
  · rw [if_pos k] at x1
    rw [eb1]
    exact ⟨_, _, _, _, _, rfl, .ty _, tyx_of R1 k, kit_kind _ _, rd_ok (w := .bl _) x1 R1 trivial⟩
  · rw [if_neg k] at x1
    exact x1.elim
end
end Br
set_option Elab.async false
set_option autoImplicit false
set_option linter.all false
set_option maxRecDepth 100000
set_option maxHeartbeats 1100000
namespace Br
open PySem PySem.Spec PyProof.Rows L2 Mini
section
variable {X : Cx} {Ga : Nat → Addr} {pin : Pin} {Wd : WX} {ph : Nat → Addr} {h : MH} {r : Mini.Env} {sg : L2.St} {H : Hp} {a b c e tg iter : Expr} {es rest : List Expr} {pos : Pos} {ma mb mc m : Mini.E} {ta tb : Mini.T} {ms : Mini.A} {st : Stmt} {sts body orelse : List Stmt} {sa sb : Mini.S} {α β : Type}
theorem exc_of {K : PySem.W.Frag} {rel : (Nat → Addr) → Nat → α → β → Prop} {cl : Nat} {d : Option Nat} {h1 : MH} {D : Ends} {Q : β → Hp → Prop} (s : SR K Ga pin ph h r sg H) (x : rdS K Ga pin Wd ph h (.exc cl d r h1) D) : rd K Ga Wd rel ph h sg (.exc cl d h1) Q :=
  fun ph' H' g R z => x ph' sg H' g (s.grow g R) z
/-- an expression, and the statement that goes on with it -/
theorem st_of {K : PySem.W.Frag} {rel : (Nat → Addr) → Nat → α → β → Prop} {q : Mini.R α} {k : α → MH → RS} {D : Ends} {Q1 : β → Hp → Prop} (s : SR K Ga pin ph h r sg H)
    (x : rdS K Ga pin Wd ph h (match q with | .ok a h1 => k a h1 | .exc c d h1 => .exc c d r h1 | .bad => .bad) D)
    (hk : ∀ a h1 ph1 H1 b, Grow ph h ph1 h1 → SR K Ga pin ph1 h1 r sg H1 → rel ph1 h1.length a b → rdS K Ga pin Wd ph1 h1 (k a h1) D → Q1 b H1) : rd K Ga Wd rel ph h sg q Q1 := by
  cases q with
  | ok a h1 => exact fun ph' H' b g R rl => hk a h1 ph' H' b g (s.grow g R) rl (rdS.base g x)
  | exc c d h1 => exact exc_of s x
  | bad => exact x
theorem ss_nil : PSs X [] (tS X.K Ga pin Wd sNx) := PSs.imp pss_nil fun D sg H ⟨ph, h, r, s, x⟩ => x ph sg H (Grow.refl _ _) s
theorem rdS_seq {K : PySem.W.Frag} {q : RS} {k : Mini.Env → MH → RS} {D : Ends} {N : L2.St → Hp → Prop}
    (x : rdS K Ga pin Wd ph h (match q with | .ok .nx r1 h1 => k r1 h1 | z => z) D)
    (hk : ∀ r1 h1 ph1 sg1 H1, q = .ok .nx r1 h1 → Grow ph h ph1 h1 → SR K Ga pin ph1 h1 r1 sg1 H1 → rdS K Ga pin Wd ph1 h1 (k r1 h1) D → N sg1 H1) : rdS K Ga pin Wd ph h q { D with nx := N } := by
  cases q with
  | ok f r1 h1 =>
    cases f with
    | nx => exact fun ph' sg' H' g S => hk r1 h1 ph' sg' H' rfl g S (rdS.base g x)
    | rt w => exact x
    | bk => exact x
    | ct => exact x
  | exc c d r1 h1 => exact x
  | bad => exact x
theorem ss_cons (h1 : PS X st (tS X.K Ga pin Wd sa)) (h2 : PSs X sts (tS X.K Ga pin Wd sb)) : PSs X (st :: sts) (tS X.K Ga pin Wd (sSeq sa sb)) := by
  refine PSs.imp (pss_cons h1 h2) fun D sg H ⟨ph, h, r, s, x⟩ => ⟨ph, h, r, s, ?_⟩
  refine rdS_seq (k := sb) (D := D) ?_ fun r1 h1 ph1 sg1 H1 _ g S x1 => ⟨ph1, h1, r1, S, x1⟩
  unfold sSeq at x
  cases e : sa r h with
  | ok f r1 h1 => cases f <;> (rw [e] at x; exact x)
  | exc c d r1 h1 => rw [e] at x; exact x
  | bad => rw [e] at x; exact x
theorem ss_one (h1 : PS X st (tS X.K Ga pin Wd sa)) : PSs X [st] (tS X.K Ga pin Wd sa) := pss_one h1
theorem s_pass : PS X (.Pass pos) (tS X.K Ga pin Wd sNx) := PS.imp ps_pass fun D sg H ⟨ph, h, r, s, x⟩ => x ph sg H (Grow.refl _ _) s
theorem s_doc {x : Str} {j : Nat} {p p' : Pos} : PS X (.Expr (.Constant (.str x) j p) p') (tS X.K Ga pin Wd sNx) := PS.imp ps_doc fun D sg H ⟨ph, h, r, s, x⟩ => x ph sg H (Grow.refl _ _) s
theorem s_break : PS X (.Break pos) (tS X.K Ga pin Wd sBrk) := PS.imp ps_break fun D sg H ⟨ph, h, r, s, x⟩ => x ph sg H (Grow.refl _ _) s
theorem s_continue : PS X (.Continue pos) (tS X.K Ga pin Wd sCnt) := PS.imp ps_continue fun D sg H ⟨ph, h, r, s, x⟩ => x ph sg H (Grow.refl _ _) s
theorem s_expr (he : PE X e (tE X.K Ga pin Wd m)) (hs : swapsWith e none pos.line X.env = pure false := by rfl) : PS X (.Expr e pos) (tS X.K Ga pin Wd (sExpr m)) := by
  refine PS.imp (ps_expr he hs) fun D sg H ⟨ph, h, r, s, x⟩ => ⟨ph, h, r, s, ?_⟩
  refine st_of (k := fun _ h1 => .ok .nx r h1) (D := D) s ?_ fun w h1 ph1 H1 b g S rl x1 => x1 ph1 sg H1 (Grow.refl _ _) S
  unfold sExpr at x
  cases e : m r h <;> (rw [e] at x; exact x)
theorem s_ret (he : PE X e (tE X.K Ga pin Wd m)) : PS X (.Return (some e) pos) (tS X.K Ga pin Wd (sRet m)) := by
  refine PS.imp (ps_ret he) fun D sg H ⟨ph, h, r, s, x⟩ => ⟨ph, h, r, s, ?_⟩
  refine st_of (k := fun w h1 => .ok (.rt w) r h1) (D := D) s ?_ fun w h1 ph1 H1 b g S rl x1 => ?_
  · unfold sRet at x
    cases e : m r h <;> (rw [e] at x; exact x)
  · rw [rl.1]
    exact x1 ph1 H1 (Grow.refl _ _) S.hr rl.2
theorem s_retN : PS X (.Return none pos) (tS X.K Ga pin Wd (sRet (eC .non))) := PS.imp ps_retN fun D sg H ⟨ph, h, r, s, x⟩ => x ph H (Grow.refl _ _) s.hr trivial
theorem s_if (hc : PT X c (tT X.K Ga pin Wd ta)) (ha : PSs X body (tS X.K Ga pin Wd sa)) (hb : PSs X orelse (tS X.K Ga pin Wd sb)) : PS X (.If c body orelse pos) (tS X.K Ga pin Wd (Mini.sIf ta sa sb)) := by
  refine PS.imp (ps_if hc ha hb) fun D sg H ⟨ph, h, r, s, x⟩ => ⟨ph, h, r, s, ?_⟩
  refine st_of (k := fun c h1 => if c = true then sa r h1 else sb r h1) (D := D) s ?_ fun k h1 ph1 H1 b g S rl x1 => ?_
  · unfold Mini.sIf at x
    cases e : ta r h <;> (rw [e] at x; exact x)
  · rw [show b = k from rl]
    cases k with
    | true =>
      rw [if_pos rfl]
      exact ⟨ph1, h1, r, S, x1⟩
    | false =>
      rw [if_neg (fun z => nomatch z)]
      exact ⟨ph1, h1, r, S, x1⟩
/-! ### targets -/
/-- the slots is alone change -/
def Fr_ (is : List Nat) (sg sg' : L2.St) : Prop := sg'.length = sg.length ∧ ∀ j : Nat, j ∉ is → sg'[j]? = sg[j]?
def rdG (K : PySem.W.Frag) (Ga : Nat → Addr) (pin : Pin) (is : List Nat) (ph : Nat → Addr) (h : MH) (sg : L2.St) (q : Mini.R Mini.Env) (Q : L2.St → Hp → Prop) : Prop := match q with
  | .ok r1 h1 => ∀ ph' sg' H', Grow ph h ph' h1 → SR K Ga pin ph' h1 r1 sg' H' → Fr_ is sg sg' → Q sg' H'
  | _ => False
def TgS (X : Cx) (Ga : Nat → Addr) (pin : Pin) (is : List Nat) (g : Mini.G) (t : TG) : Prop := ∀ (ph : Nat → Addr) (h : MH) (r : Mini.Env) (sg : L2.St) (H : Hp) (w : Mini.W) (Q : L2.St → Hp → Prop), SR X.K Ga pin ph h r sg H → wf h.length w → rdG X.K Ga pin is ph h sg (g w r h) Q → t (vW ph w) sg H Q
def TgsS (X : Cx) (Ga : Nat → Addr) (pin : Pin) (is : List Nat) (gs : List Mini.G) (t : TGs) : Prop := ∀ (ph : Nat → Addr) (h : MH) (r : Mini.Env) (sg : L2.St) (H : Hp) (ws : List Mini.W) (Q : L2.St → Hp → Prop), SR X.K Ga pin ph h r sg H → (∀ w ∈ ws, wf h.length w) → rdG X.K Ga pin is ph h sg (gAll gs ws r h) Q → t (ws.map (vW ph)) sg H Q
/-- a target, what Mini does with it, the slots that it stores into -/
structure Tg (X : Cx) (Ga : Nat → Addr) (pin : Pin) (is : List Nat) (tg : Expr) (g : Mini.G) : Prop where
  ex : ∃ t : TG, PG X tg t ∧ TgS X Ga pin is g t
structure Tgs (X : Cx) (Ga : Nat → Addr) (pin : Pin) (is : List Nat) (tgs : List Expr) (gs : List Mini.G) : Prop where
  ex : ∃ t : TGs, PGs X tgs t ∧ TgsS X Ga pin is gs t
theorem Fr_.refl (is : List Nat) (sg : L2.St) : Fr_ is sg sg := ⟨rfl, fun _ _ => rfl⟩
theorem g_name {i : Nat} {x : Str} (hN : X.N.Nodup) (hi : X.N[i]? = some x) (hx : Loc X.env.scope x) (hl : pin.lets i) (hf : X.fn x = true ∨ X.env.scope.names.lookup x = some .local := by first | exact .inl rfl | exact .inr rfl | assumption) : Tg X Ga pin [i] (.Name x pos) (gSet i) :=
  ⟨gName i, pg_name hN hi hx hf, fun ph h r sg H w Q s hw q => q ph _ H (Grow.refl _ _) (s.put hw hl) ⟨List.length_set, fun j hj => List.getElem?_set_ne (fun z => hj (by rw [← z]; exact List.mem_cons_self))⟩⟩
theorem gs_nil : Tgs X Ga pin [] [] [] := ⟨gNil, pgs_nil, fun ph h r sg H ws Q s hw q => by
  cases ws with
  | nil => exact ⟨rfl, q ph sg H (Grow.refl _ _) s (Fr_.refl _ _)⟩
  | cons w ws => exact q.elim⟩
theorem gs_cons {is js : List Nat} {g : Mini.G} {gs : List Mini.G} (h1 : Tg X Ga pin is e g) (h2 : Tgs X Ga pin js es gs) (hs : (assignEach (e :: es) X.env).map (·.2) = assign e X.env :: (assignEach es X.env).map (·.2) := by rfl) : Tgs X Ga pin (is ++ js) (e :: es) (g :: gs) := by
  obtain ⟨t, p1, z1⟩ := h1.ex
  obtain ⟨ts, p2, z2⟩ := h2.ex
  refine ⟨gCons t ts, pgs_cons p1 p2 hs, fun ph h r sg H ws Q s hw q => ?_⟩
  cases ws with
  | nil => exact q.elim
  | cons w ws =>
    refine ⟨vW ph w, ws.map (vW ph), rfl, z1 ph h r sg H w _ s (hw w List.mem_cons_self) ?_⟩
    have q' : rdG X.K Ga pin (is ++ js) ph h sg ((g w r h).bind fun r1 h1 => gAll gs ws r1 h1) Q := q
    cases e : g w r h with
    | ok r1 h1 =>
      rw [e] at q'
      intro ph' sg' H' g' S' f'
      have hw' : ∀ x ∈ ws, wf h.length x := fun x hx => hw x (List.mem_cons_of_mem _ hx)
      rw [← g'.vs hw']
      refine z2 ph' h1 r1 sg' H' ws _ S' (fun x hx => (hw' x hx).mono g'.le) ?_
      have q2 : rdG X.K Ga pin (is ++ js) ph h sg (gAll gs ws r1 h1) Q := q'
      cases e2 : gAll gs ws r1 h1 with
      | ok r2 h2 =>
        rw [e2] at q2
        exact fun ph2 sg2 H2 g2 S2 f2 => q2 ph2 sg2 H2 (g'.trans g2) S2 ⟨f2.1.trans f'.1, fun j hj => (f2.2 j (fun z => hj (List.mem_append_right _ z))).trans (f'.2 j (fun z => hj (List.mem_append_left _ z)))⟩
      | exc c d h2 => rw [e2] at q2; exact q2.elim
      | bad => rw [e2] at q2; exact q2.elim
    | exc c d h1 => rw [e] at q'; exact q'.elim
    | bad => rw [e] at q'; exact q'.elim
theorem gAll_len : ∀ {gs : List Mini.G} {ws : List Mini.W} {r : Mini.Env} {h : MH} {r1 : Mini.Env} {h1 : MH}, gAll gs ws r h = .ok r1 h1 → ws.length = gs.length
  | [], [], _, _, _, _, _ => (rfl)
  | [], _ :: _, _, _, _, _, e => nomatch e
  | _ :: _, [], _, _, _, _, e => nomatch e
  | g :: gs, w :: ws, r, h, r1, h1, e => by
    have e' : ((g w r h).bind fun r1 h1 => gAll gs ws r1 h1) = .ok r1 h1 := e
    cases q : g w r h with
    | ok r2 h2 => rw [q] at e'; rw [List.length_cons, List.length_cons, gAll_len (show gAll gs ws r2 h2 = _ from e')]
    | exc c d h2 => rw [q] at e'; exact nomatch e'
    | bad => rw [q] at e'; exact nomatch e'
theorem g_tup {is : List Nat} {k n : Nat} {gs : List Mini.G} (hc : X.calm = true) (hg : Tgs X Ga pin is es gs) (hl : gs.length = n := by rfl) (hn : (assignEach es X.env).length = n := by rfl) (hst : (assignEach es X.env).findIdx? (·.1) = none := by rfl) : Tg X Ga pin is (.Tuple es k pos) (gTupT gs) := by
  obtain ⟨ts, p, z⟩ := hg.ex
  refine ⟨gTup X.K n ts, pg_tup hc p hn hst, fun ph h r sg H w Q s hw q => ?_⟩
  cases w with
  | ref a =>
    have q' : rdG X.K Ga pin is ph h sg (match h[a]? with | some (.tup xs) => gAll gs xs r h | some (.ct xs) => gAll gs xs r h | _ => .bad) Q := q
    have go : ∀ {xs : List Mini.W}, rdG X.K Ga pin is ph h sg (gAll gs xs r h) Q → SqT X.K H (ph a) (xs.map (vW ph)) → (∀ x ∈ xs, wf h.length x) → gTup X.K n ts (vW ph (.ref a)) sg H Q := fun {xs} q1 q2 q3 => by
      refine ⟨ph a, xs.map (vW ph), rfl, q2, ?_, z ph h r sg H xs Q s q3 q1⟩
      cases e : gAll gs xs r h with
      | ok r1 h1 => rw [List.length_map, gAll_len e, hl]
      | exc c d h1 => rw [e] at q1; exact q1.elim
      | bad => rw [e] at q1; exact q1.elim
    cases e1 : h[a]? with
    | none => rw [e1] at q'; exact q'.elim
    | some cl =>
      have y := s.hr.cells a cl e1
      rw [e1] at q'
      cases cl with
      | tup xs => exact go q' (.inl (.inl y.1)) y.2
      | ct xs => exact go q' (.inr y.1) y.2
      | _ => exact q'.elim
  | _ => exact q.elim
theorem s_asg {is : List Nat} {g : Mini.G} (he : PE X e (tE X.K Ga pin Wd m)) (hg : Tg X Ga pin is tg g) (hs : swapsWithSole [tg] e pos.line X.env = pure false := by rfl) (hw : swappedStores [tg] e X.env = pure none := by rfl)
    (h1 : (assignEach [tg] X.env).map (·.2) = [assign tg X.env] := by rfl) : PS X (.Assign [tg] e pos) (tS X.K Ga pin Wd (sAsg m g)) := by
  obtain ⟨t, p, z⟩ := hg.ex
  refine PS.imp (ps_asg he p hs hw h1) fun D sg H ⟨ph, h, r, s, x⟩ => ⟨ph, h, r, s, ?_⟩
  refine st_of (k := fun w h1 => match g w r h1 with | .ok r1 h2 => .ok .nx r1 h2 | _ => .bad) (D := D) s ?_ fun w h1 ph1 H1 b g1 S rl x1 => ?_
  · unfold sAsg at x
    cases e : m r h with
    | ok w h1 =>
      rw [e] at x
      show rdS X.K Ga pin Wd ph h (match g w r h1 with | .ok r1 h2 => .ok .nx r1 h2 | _ => .bad) D
      have x' : rdS X.K Ga pin Wd ph h (match g w r h1 with | .ok r1 h2 => RS.ok .nx r1 h2 | _ => RS.bad) D := x
      exact x'
    | exc c d h1 => rw [e] at x; exact x
    | bad => rw [e] at x; exact x
  · rw [rl.1]
    refine z ph1 h1 r sg H1 w _ S rl.2 ?_
    cases e : g w r h1 with
    | ok r1 h2 =>
      rw [e] at x1
      exact fun ph2 sg2 H2 g2 S2 _ => x1 ph2 sg2 H2 g2 S2
    | exc c d h2 => rw [e] at x1; exact x1.elim
    | bad => rw [e] at x1; exact x1.elim
theorem s_set {i : Nat} {x : Str} {pos' : Pos} (hN : X.N.Nodup) (hi : X.N[i]? = some x) (hx : Loc X.env.scope x) (hl : pin.lets i) (he : PE X e (tE X.K Ga pin Wd m)) (hs : swapsWith e (some (.Name x pos')) pos.line X.env = pure false := by rfl)
    (hf : X.fn x = true ∨ X.env.scope.names.lookup x = some .local := by first | exact .inl rfl | exact .inr rfl | assumption) : PS X (.Assign [.Name x pos'] e pos) (tS X.K Ga pin Wd (sSet i m)) := by
  refine PS.imp (ps_set hN hi hx he hs hf) fun D sg H ⟨ph, h, r, s, x⟩ => ⟨ph, h, r, s, ?_⟩
  refine st_of (k := fun w h1 => .ok .nx (r.set i (some w)) h1) (D := D) s ?_ fun w h1 ph1 H1 b g1 S rl x1 => ?_
  · unfold sSet sAsg at x
    cases e : m r h <;> (rw [e] at x; exact x)
  · rw [rl.1]
    exact x1 ph1 _ H1 (Grow.refl _ _) (S.put rl.2 hl)
end
end Br
set_option Elab.async false
set_option autoImplicit false
set_option linter.all false
set_option maxRecDepth 100000
set_option maxHeartbeats 1100000
namespace Br
open PySem PySem.Spec PyProof.Rows L2 Mini
section
variable {X : Cx} {Ga : Nat → Addr} {pin : Pin} {Wd : WX} {ph : Nat → Addr} {h : MH} {r : Mini.Env} {sg : L2.St} {H : Hp} {a b c e tg iter o i : Expr} {es rest : List Expr} {pos : Pos} {ma mb mc m mo mi : Mini.E} {ta tb : Mini.T} {ms : Mini.A} {st : Stmt} {sts body orelse : List Stmt} {sa sb : Mini.S} {α β : Type}
/-! ### stores -/
theorem map_set {xs : List Mini.W} {j : Nat} {w : Mini.W} : (xs.set j w).map (vW ph) = (xs.map (vW ph)).set j (vW ph w) := by rw [List.map_set]
theorem wf_set {n : Nat} {xs : List Mini.W} {j : Nat} {w : Mini.W} (q : ∀ x ∈ xs, wf n x) (hw : wf n w) : ∀ x ∈ xs.set j w, wf n x := fun x hx => by
  rcases List.mem_or_eq_of_mem_set hx with z | z
  · exact q x z
  · rw [z]; exact hw
theorem rdG_ok {K : PySem.W.Frag} {is : List Nat} {r1 : Mini.Env} {h1 : MH} {Q : L2.St → Hp → Prop} (x : rdG K Ga pin is ph h sg (.ok r1 h1) Q) : ∀ ph' sg' H', Grow ph h ph' h1 → SR K Ga pin ph' h1 r1 sg' H' → Fr_ is sg sg' → Q sg' H' := x
/-- xs[i] = w -/
theorem g_subL (hp : PG X (.Subscript o i pos) (gSub (tE X.K Ga pin Wd mo) (tE X.K Ga pin Wd mi) rSetL)) : Tg X Ga pin [] (.Subscript o i pos) (gSubL mo mi) := by
  refine ⟨_, hp, fun ph h r sg H w Q s hw q => ?_⟩
  unfold gSubL at q
  refine ⟨ph, h, r, s, ?_⟩
  cases e1 : mo r h with
  | exc c d h1 => rw [e1] at q; exact q.elim
  | bad => rw [e1] at q; exact q.elim
  | ok x h1 =>
    rw [e1] at q
    intro ph1 H1 b1 g1 R1 rl1
    refine ⟨ph1, h1, r, s.grow g1 R1, ?_⟩
    have q2 : rdG X.K Ga pin [] ph h sg ((mi r h1).bind fun y h2 => putL w r x y h2) Q := q
    cases e2 : mi r h1 with
    | exc c d h2 => rw [e2] at q2; exact q2.elim
    | bad => rw [e2] at q2; exact q2.elim
    | ok y h2 =>
      rw [e2] at q2
      intro ph2 H2 b2 g2 R2 rl2
      have q3 : rdG X.K Ga pin [] ph h sg (putL w r x y h2) Q := q2
      unfold putL at q3
      cases x with
      | ref n =>
        cases y with
        | int k =>
          simp only [] at q3
          cases e3 : h2[n]? with
          | none => rw [e3] at q3; exact q3.elim
          | some cl =>
            rw [e3] at q3
            cases cl with
            | lst xs =>
              simp only [] at q3
              cases e4 : ixOf xs.length k with
              | none => rw [e4] at q3; exact q3.elim
              | some j =>
                rw [e4] at q3
                obtain ⟨z1, z2⟩ := R2.cells n _ e3
                have g12 := g1.trans g2
                have hw2 : wf h2.length w := hw.mono g12.le
                refine ⟨ph2 n, xs.map (vW ph2), k, j, ?_, rl2.1, z1, by rw [List.length_map]; exact e4, ?_⟩
                · rw [rl1.1]
                  exact (g2.v rl1.2).symm
                · have R3 : HR X.K Ga ph2 (h2.set n (.lst (xs.set j w))) (upd H2 (ph2 n) (.lst ((xs.map (vW ph2)).set j (vW ph w)))) :=
                    R2.set e3 trivial trivial ⟨by rw [map_set, g12.v hw]; exact upd_same, wf_set z2 hw2⟩
                  exact rdG_ok q3 ph2 sg _ (g12.trans Grow.set) ((s.grow g12 R2).grow Grow.set R3) (Fr_.refl _ _)
            | _ => exact q3.elim
        | _ => exact q3.elim
      | _ => cases y <;> exact q3.elim
theorem setAll2 {i j : Nat} {ws : List Mini.W} {r r1 : Mini.Env} (e : setAll [i, j] ws r = some r1) : ∃ v w, ws = [v, w] ∧ r1 = (r.set i (some v)).set j (some w) := by
  match ws, e with
  | [v, w], e => exact ⟨v, w, rfl, (Option.some.inj e).symm⟩
theorem setAll3 {i j k : Nat} {ws : List Mini.W} {r r1 : Mini.Env} (e : setAll [i, j, k] ws r = some r1) : ∃ v w u, ws = [v, w, u] ∧ r1 = ((r.set i (some v)).set j (some w)).set k (some u) := by
  match ws, e with
  | [v, w, u], e => exact ⟨v, w, u, rfl, (Option.some.inj e).symm⟩
theorem st_par {K : PySem.W.Frag} {is : List Nat} {D : Ends} {Q1 : List V → Hp → Prop} (s : SR K Ga pin ph h r sg H) (x : rdS K Ga pin Wd ph h (sPar is ms r h) D)
    (hk : ∀ ws h1 r1 ph1 H1, setAll is ws r = some r1 → Grow ph h ph1 h1 → SR K Ga pin ph1 h1 r sg H1 → (∀ w ∈ ws, wf h1.length w) → rdS K Ga pin Wd ph1 h1 (.ok .nx r1 h1) D → Q1 (ws.map (vW ph1)) H1) : rd K Ga Wd relA ph h sg (ms r h) Q1 := by
  refine st_of (k := fun ws h1 => match setAll is ws r with | some r1 => .ok .nx r1 h1 | none => .bad) (D := D) s ?_ fun ws h1 ph1 H1 b g S rl x1 => ?_
  · unfold sPar at x
    cases e : ms r h <;> (rw [e] at x; exact x)
  · rw [rl.1]
    cases e : setAll is ws r with
    | none => rw [e] at x1; exact x1.elim
    | some r1 => rw [e] at x1; exact hk ws h1 r1 ph1 H1 e g S rl.2 x1
theorem s_par2 {i j : Nat} {x y : Str} {px py pt : Pos} {kt k2 : Nat} {pt2 : Pos} (hc : X.calm = true) (hN : X.N.Nodup) (hi : X.N[i]? = some x) (hj : X.N[j]? = some y) (hij : i ≠ j) (hx : X.env.scope.names.lookup x = some .local) (hy : X.env.scope.names.lookup y = some .local) (hl1 : pin.lets i) (hl2 : pin.lets j)
    (ha : PA X [a, b] (tA X.K Ga pin Wd ms)) (hw : swappedStores [.Tuple [.Name x px, .Name y py] kt pt] (.Tuple [a, b] k2 pt2) X.env = pure (some [x, y]))
    (hs : swapsWithSole [.Tuple [.Name x px, .Name y py] kt pt] (.Tuple [a, b] k2 pt2) pos.line X.env
      = pure false := by rfl) :
    PS X (.Assign [.Tuple [.Name x px, .Name y py] kt pt] (.Tuple [a, b] k2 pt2) pos) (tS X.K Ga pin Wd (sPar [i, j] ms)) := by
  refine PS.imp (ps_par hc hN hi hj hij hx hy ha hw hs) fun D sg H ⟨ph, h, r, s, x⟩ => ⟨ph, h, r, s, ?_⟩
  refine st_par s x fun ws h1 r1 ph1 H1 e g S wfs x1 => ?_
  obtain ⟨v, w, rfl, rfl⟩ := setAll2 e
  exact ⟨_, _, rfl, x1 ph1 _ H1 (Grow.refl _ _) ((S.put (wfs v (by simp)) hl1).put (wfs w (by simp)) hl2)⟩
theorem s_par3 {i j l : Nat} {x y z : Str} {px py pz pt : Pos} {kt k2 : Nat} {pt2 : Pos} (hc : X.calm = true) (hN : X.N.Nodup) (hi : X.N[i]? = some x) (hj : X.N[j]? = some y) (hl : X.N[l]? = some z) (hij : i ≠ j) (hil : i ≠ l) (hjl : j ≠ l)
    (hx : X.env.scope.names.lookup x = some .local) (hy : X.env.scope.names.lookup y = some .local) (hz : X.env.scope.names.lookup z = some .local) (hl1 : pin.lets i) (hl2 : pin.lets j) (hl3 : pin.lets l)
    (ha : PA X [a, b, c] (tA X.K Ga pin Wd ms)) (hw : swappedStores [.Tuple [.Name x px, .Name y py, .Name z pz] kt pt] (.Tuple [a, b, c] k2 pt2) X.env = pure (some [x, y, z]))
    (hs : swapsWithSole [.Tuple [.Name x px, .Name y py, .Name z pz] kt pt] (.Tuple [a, b, c] k2 pt2) pos.line X.env
      = pure false := by rfl) :
    PS X (.Assign [.Tuple [.Name x px, .Name y py, .Name z pz] kt pt] (.Tuple [a, b, c] k2 pt2) pos) (tS X.K Ga pin Wd (sPar [i, j, l] ms)) := by
  refine PS.imp (ps_par3 hc hN hi hj hl hij hil hjl hx hy hz ha hw hs) fun D sg H ⟨ph, h, r, s, x⟩ => ⟨ph, h, r, s, ?_⟩
  refine st_par s x fun ws h1 r1 ph1 H1 e g S wfs x1 => ?_
  obtain ⟨v, w, u, rfl, rfl⟩ := setAll3 e
  exact ⟨_, _, _, rfl, x1 ph1 _ H1 (Grow.refl _ _) (((S.put (wfs v (by simp)) hl1).put (wfs w (by simp)) hl2).put (wfs u (by simp)) hl3)⟩
/-- x op= e -/
theorem s_aug {i : Nat} {x : Str} {op : Operator} {f : Int → Int → Int} {pos' : Pos} (hN : X.N.Nodup) (hi : X.N[i]? = some x) (hx : Loc X.env.scope x) (hl : pin.lets i) (he : PE X e (tE X.K Ga pin Wd m)) (ho : PIp X op (ipI f))
    (hf : X.fn x = true ∨ X.env.scope.names.lookup x = some .local := by first | exact .inl rfl | exact .inr rfl | assumption) : PS X (.AugAssign (.Name x pos') op e pos) (tS X.K Ga pin Wd (Mini.sAug i (intOp f) m)) := by
  refine PS.imp (ps_aug hN hi hx he ho hf) fun D sg H ⟨ph, h, r, s, x⟩ => ?_
  unfold Mini.sAug at x
  cases e0 : r[i]? with
  | none => rw [e0] at x; exact x.elim
  | some q =>
    cases q with
    | none => rw [e0] at x; exact x.elim
    | some w =>
      rw [e0] at x
      obtain ⟨v1, v2⟩ := s.val i w e0
      refine ⟨_, v1, ph, h, r, s, ?_⟩
      refine st_of (k := fun y h1 => match intOp f w y h1 with | .ok z h2 => .ok .nx (r.set i (some z)) h2 | _ => .bad) (D := D) s ?_ fun y h1 ph1 H1 b g S rl x1 => ?_
      · cases e : m r h <;> (rw [e] at x; exact x)
      · rw [rl.1]
        cases w with
        | int j =>
          cases y with
          | int k => exact ⟨j, k, rfl, rfl, x1 ph1 _ H1 (Grow.refl _ _) (S.put (w := .int (f j k)) trivial hl)⟩
          | _ => exact x1.elim
        | _ => exact x1.elim
theorem s_asg2 {i j : Nat} {t1 t2 : Expr} (he : PE X e (tE X.K Ga pin Wd m)) (h1 : PG X t1 (gName i)) (h2 : PG X t2 (gName j)) (hl1 : pin.lets i) (hl2 : pin.lets j)
    (ha : (assignEach [t1, t2] X.env).map (·.2) = [assign t1 X.env, assign t2 X.env] := by rfl) (hw : swappedStores [t1, t2] e X.env = pure none := by rfl) : PS X (.Assign [t1, t2] e pos) (tS X.K Ga pin Wd (sAsg2 m i j)) := by
  refine PS.imp (ps_asg2 he h1 h2 ha hw) fun D sg H ⟨ph, h, r, s, x⟩ => ⟨ph, h, r, s, ?_⟩
  refine st_of (k := fun w h1 => .ok .nx ((r.set i (some w)).set j (some w)) h1) (D := D) s ?_ fun w h1 ph1 H1 b g1 S rl x1 => ?_
  · unfold sAsg2 at x
    cases e : m r h <;> (rw [e] at x; exact x)
  · rw [rl.1]
    exact x1 ph1 _ H1 (Grow.refl _ _) ((S.put rl.2 hl1).put rl.2 hl2)
/-! ### while -/
theorem s_while {k : Nat} (hp : PassesOwn (model X.prog X.w) X.A X.env X.xe) (hc : PT X c (tT X.K Ga pin Wd ta)) (hb : PSs X body (tS X.K Ga pin Wd sb)) : PS X (.While c body [] pos) (tS X.K Ga pin Wd (Mini.sWhile ta sb k)) := by
  refine PS.imp (ps_while hp hc hb) fun D sg H ⟨ph, h, r, s, x⟩ => ?_
  refine ⟨fun n sg H => ∃ ph h r, SR X.K Ga pin ph h r sg H ∧ rdS X.K Ga pin Wd ph h (Mini.sWhile ta sb n r h) D, ⟨k, ph, h, r, s, x⟩, fun n sg H ⟨ph, h, r, s, x⟩ => ?_⟩
  cases n with
  | zero => exact x.elim
  | succ n =>
    refine ⟨ph, h, r, s, ?_⟩
    refine st_of (k := fun c h1 => if c = true then (match sb r h1 with
      | .ok .nx r2 h2 => Mini.sWhile ta sb n r2 h2
      | .ok .ct r2 h2 => Mini.sWhile ta sb n r2 h2
      | .ok .bk r2 h2 => .ok .nx r2 h2
      | x => x) else .ok .nx r h1) (D := D) s ?_ fun k h1 ph1 H1 b g S rl x1 => ?_
    · simp only [Mini.sWhile] at x
      cases e : ta r h with
      | ok k h1 => cases k <;> (rw [e] at x; exact x)
      | exc c d h1 => rw [e] at x; exact x
      | bad => rw [e] at x; exact x
    · rw [show b = k from rl]
      cases k with
      | false =>
        rw [if_neg (fun z => nomatch z)]
        exact x1 ph1 sg H1 (Grow.refl _ _) S
      | true =>
        rw [if_pos rfl]
        rw [if_pos rfl] at x1
        refine ⟨fun sg H => ∃ ph h r, SR X.K Ga pin ph h r sg H ∧ rdS X.K Ga pin Wd ph h (Mini.sWhile ta sb n r h) D, fun sg' H' y => ⟨n, Nat.lt_succ_self n, y⟩, ph1, h1, r, S, ?_⟩
        cases e : sb r h1 with
        | ok f r2 h2 =>
          rw [e] at x1
          cases f with
          | nx => exact fun ph2 sg2 H2 g2 S2 => ⟨ph2, h2, r2, S2, rdS.base g2 x1⟩
          | ct => exact fun ph2 sg2 H2 g2 S2 => ⟨ph2, h2, r2, S2, rdS.base g2 x1⟩
          | bk => exact x1
          | rt w => exact x1
        | exc c d r2 h2 => rw [e] at x1; exact x1
        | bad => rw [e] at x1; exact x1
/-! ### for -/
def SrcAt (K : PySem.W.Frag) (J : It) (src : Mini.Src) (ph : Nat → Addr) (n : Nat) : Prop := match src with
  | .lst a => a < n ∧ J = Itl K (ph a)
  | .tup a => a < n ∧ J = Itt K (ph a)
  | .rng lo k => J = Itr lo k
theorem SrcAt.grow {K : PySem.W.Frag} {J : It} {src : Mini.Src} {ph1 : Nat → Addr} {h1 : MH} (g : Grow ph h ph1 h1) (q : SrcAt K J src ph h.length) : SrcAt K J src ph1 h1.length := by
  cases src with
  | lst a => exact ⟨Nat.lt_of_lt_of_le q.1 g.le, by rw [g.eq a q.1]; exact q.2⟩
  | tup a => exact ⟨Nat.lt_of_lt_of_le q.1 g.le, by rw [g.eq a q.1]; exact q.2⟩
  | rng lo k => exact q
theorem lstAt_ok {K : PySem.W.Frag} {n : Nat} {xs : List Mini.W} (R : HR K Ga ph h H) (e : lstAt h n = some xs) : SqL K H (ph n) (xs.map (vW ph)) ∧ ∀ x ∈ xs, wf h.length x := by
  unfold lstAt at e
  cases e1 : h[n]? with
  | none => rw [e1] at e; cases e
  | some c =>
    have q := R.cells n c e1
    cases c with
    | lst ys => rw [e1] at e; cases e; exact ⟨.inl (.inl q.1), q.2⟩
    | fz ys => rw [e1] at e; cases e; obtain ⟨⟨o, q1⟩, q2⟩ := q; exact ⟨.inl (.inr ⟨o, q1⟩), q2⟩
    | cl ys => rw [e1] at e; cases e; exact ⟨.inr q.1, q.2⟩
    | _ => rw [e1] at e; cases e
theorem tupAt_ok {K : PySem.W.Frag} {n : Nat} {xs : List Mini.W} (R : HR K Ga ph h H) (e : tupAt h n = some xs) : SqT K H (ph n) (xs.map (vW ph)) ∧ ∀ x ∈ xs, wf h.length x := by
  unfold tupAt at e
  cases e1 : h[n]? with
  | none => rw [e1] at e; cases e
  | some c =>
    have q := R.cells n c e1
    cases c with
    | tup ys => rw [e1] at e; cases e; exact ⟨.inl (.inl q.1), q.2⟩
    | ct ys => rw [e1] at e; cases e; exact ⟨.inr q.1, q.2⟩
    | _ => rw [e1] at e; cases e
theorem len_of {n : Nat} {xs : List Mini.W} (e : seqAt h n = some xs) : n < h.length := by
  unfold seqAt at e
  cases e1 : h[n]? with
  | none => rw [e1] at e; cases e
  | some c => exact (List.getElem?_eq_some_iff.mp e1).1
theorem map_none {xs : List Mini.W} {i : Nat} (e : xs[i]? = none) : (xs.map (vW ph)).length ≤ i := by
  rw [List.length_map]
  exact List.getElem?_eq_none_iff.mp e
theorem map_some {xs : List Mini.W} {i : Nat} {w : Mini.W} (e : xs[i]? = some w) : (xs.map (vW ph))[i]? = some (vW ph w) := by rw [List.getElem?_map, e] <;> rfl
theorem src_stop {K : PySem.W.Frag} {J : It} {src : Mini.Src} {i : Nat} (R : HR K Ga ph h H) (q : SrcAt K J src ph h.length) (e : src.at i h = some none) : J.stop i H := by
  cases src with
  | lst a =>
    obtain ⟨q1, rfl⟩ := q
    simp only [Mini.Src.at] at e
    cases e1 : lstAt h a with
    | none => rw [e1] at e; cases e
    | some xs => rw [e1] at e; exact ⟨_, (lstAt_ok R e1).1, map_none (Option.some.inj e)⟩
  | tup a =>
    obtain ⟨q1, rfl⟩ := q
    simp only [Mini.Src.at] at e
    cases e1 : tupAt h a with
    | none => rw [e1] at e; cases e
    | some xs => rw [e1] at e; exact ⟨_, (tupAt_ok R e1).1, map_none (Option.some.inj e)⟩
  | rng lo k =>
    obtain rfl : J = Itr lo k := q
    simp only [Mini.Src.at] at e
    by_cases c : i < k
    · rw [if_pos c] at e; cases e
    · exact Nat.le_of_not_lt c
theorem src_go {J : It} {src : Mini.Src} {i : Nat} {w : Mini.W} (R : HR X.K Ga ph h H) (q : SrcAt X.K J src ph h.length) (e : src.at i h = some (some w)) : J.go i H ∧ wf h.length w ∧ ∀ x H', J.yld i H x H' → H' = H ∧ x = vW ph w := by
  cases src with
  | lst a =>
    obtain ⟨q1, rfl⟩ := q
    simp only [Mini.Src.at] at e
    cases e1 : lstAt h a with
    | none => rw [e1] at e; cases e
    | some xs =>
      rw [e1] at e
      have e' : xs[i]? = some w := Option.some.inj e
      obtain ⟨z1, z2⟩ := lstAt_ok R e1
      exact ⟨⟨_, _, z1, map_some e'⟩, z2 w (List.mem_of_getElem? e'), fun x H' y => ⟨y.1, Option.some.inj ((y.2 _ z1).symm.trans (map_some e'))⟩⟩
  | tup a =>
    obtain ⟨q1, rfl⟩ := q
    simp only [Mini.Src.at] at e
    cases e1 : tupAt h a with
    | none => rw [e1] at e; cases e
    | some xs =>
      rw [e1] at e
      have e' : xs[i]? = some w := Option.some.inj e
      obtain ⟨z1, z2⟩ := tupAt_ok R e1
      exact ⟨⟨_, _, z1, map_some e'⟩, z2 w (List.mem_of_getElem? e'), fun x H' y => ⟨y.1, Option.some.inj ((y.2 _ z1).symm.trans (map_some e'))⟩⟩
  | rng lo k =>
    obtain rfl : J = Itr lo k := q
    simp only [Mini.Src.at] at e
    by_cases c : i < k
    · rw [if_pos c] at e
      cases e
      exact ⟨c, trivial, fun x H' y => y⟩
    · rw [if_neg c] at e; cases e
def relI (K : PySem.W.Frag) (ph : Nat → Addr) (n : Nat) (q : Mini.Src × Nat) (J : It) : Prop := SrcAt K J q.1 ph n
def tI (K : PySem.W.Frag) (Ga : Nat → Addr) (pin : Pin) (Wd : WX) (mi : Mini.I) : TI := fun sg H R => ∃ ph h r, SR K Ga pin ph h r sg H ∧ rd K Ga Wd (relI K) ph h sg (mi r h) R
theorem PI.imp {t t' : TI} (p : PI X tg iter t) (k : ∀ sg H R, t' sg H R → t sg H R) : PI X tg iter t' := ⟨fun pins s sg H R I h => p.run pins s sg H R I (k sg H R h)⟩
theorem PI.or {t t' : TI} (p : PI X tg iter t) (p' : PI X tg iter t') : PI X tg iter (fun sg H R => t sg H R ∨ t' sg H R) := ⟨fun pins s sg H R I h => h.elim (p.run pins s sg H R I) (p'.run pins s sg H R I)⟩
theorem i_seq (he : PE X iter (tE X.K Ga pin Wd m)) : PI X tg iter (tI X.K Ga pin Wd (iSeq m)) := by
  refine PI.imp (PI.or (pi_list he) (pi_tup he)) fun sg H R ⟨ph, h, r, s, x⟩ => ?_
  have x' : rd X.K Ga Wd (relI X.K) ph h sg ((m r h).bind fun w h1 => match w with
    | .ref a => match lstAt h1 a with
      | some xs => .ok (.lst a, xs.length + 1) h1
      | none => match tupAt h1 a with
        | some xs => .ok (.tup a, xs.length + 1) h1
        | none => .bad
    | _ => .bad) R := x
  cases e : m r h with
  | exc c d h1 =>
    rw [e] at x'
    exact .inl ⟨ph, h, r, s, by rw [e]; exact x'⟩
  | bad => rw [e] at x'; exact x'.elim
  | ok w h1 =>
    rw [e] at x'
    cases w with
    | ref a =>
      have x2 : rd X.K Ga Wd (relI X.K) ph h sg (match lstAt h1 a with
        | some xs => .ok (.lst a, xs.length + 1) h1
        | none => match tupAt h1 a with
          | some xs => .ok (.tup a, xs.length + 1) h1
          | none => .bad) R := x'
      cases e1 : lstAt h1 a with
      | some xs =>
        rw [e1] at x2
        refine .inl ⟨ph, h, r, s, ?_⟩
        rw [e]
        intro ph1 H1 b1 g1 R1 rl
        exact ⟨ph1 a, rl.1, ⟨_, (lstAt_ok R1 e1).1⟩, x2 ph1 H1 _ g1 R1 ⟨rl.2, rfl⟩⟩
      | none =>
        rw [e1] at x2
        have x3 : rd X.K Ga Wd (relI X.K) ph h sg (match tupAt h1 a with
          | some xs => .ok (.tup a, xs.length + 1) h1
          | none => .bad) R := x2
        cases e2 : tupAt h1 a with
        | none => rw [e2] at x3; exact x3.elim
        | some xs =>
          rw [e2] at x3
          refine .inr ⟨ph, h, r, s, ?_⟩
          rw [e]
          intro ph1 H1 b1 g1 R1 rl
          exact ⟨ph1 a, rl.1, ⟨_, (tupAt_ok R1 e2).1⟩, x3 ph1 H1 _ g1 R1 ⟨rl.2, rfl⟩⟩
    | _ => exact x'.elim
theorem rOk_ok {i : Int} (q : rOk i = true) : -(2 ^ 62) ≤ i ∧ i < 2 ^ 62 := by
  unfold rOk at q
  rw [Bool.and_eq_true, decide_eq_true_eq, decide_eq_true_eq] at q
  omega
theorem i_rng1 {p pos : Pos} (hg : Gl X "range") (hm : X.mg "range" = none) (ha : PE X a (tE X.K Ga pin Wd m)) (hs : starEach [a] X.env = [(false, eval a X.env)] := by rfl) : PI X tg (.Call (.Name "range" p) [a] [] pos) (tI X.K Ga pin Wd (Mini.iRng1 m)) := by
  refine PI.imp (pi_range1 hg hm (pa_cons ha pa_nil hs) hs) fun sg H R ⟨ph, h, r, s, x⟩ => ?_
  refine ⟨ph, h, r, s, x.bind fun w h1 _ ph1 H1 b1 g1 R1 ⟨eb1, w1⟩ x1 => ?_⟩
  cases w with
  | int n =>
    by_cases c : rOk n = true
    · have x2 : rd X.K Ga Wd (relI X.K) ph1 h1 sg (if rOk n = true then .ok (.rng 0 n.toNat, n.toNat + 1) h1 else .bad) R := x1
      rw [if_pos c] at x2
      exact ⟨n, by rw [eb1]; rfl, (rOk_ok c).1, (rOk_ok c).2, x2 ph1 H1 _ (Grow.refl _ _) R1 rfl⟩
    · have x2 : rd X.K Ga Wd (relI X.K) ph1 h1 sg (if rOk n = true then .ok (.rng 0 n.toNat, n.toNat + 1) h1 else .bad) R := x1
      rw [if_neg c] at x2
      exact x2.elim
  | _ => exact x1.elim
theorem i_rng2 {p pos : Pos} (hg : Gl X "range") (hm : X.mg "range" = none) (ha : PE X a (tE X.K Ga pin Wd ma)) (hb : PE X b (tE X.K Ga pin Wd mb)) (hs : starEach [a, b] X.env = [(false, eval a X.env), (false, eval b X.env)] := by rfl) (hs2 : starEach [b] X.env = [(false, eval b X.env)] := by rfl) :
    PI X tg (.Call (.Name "range" p) [a, b] [] pos) (tI X.K Ga pin Wd (Mini.iRng2 ma mb)) := by
  refine PI.imp (pi_range2 hg hm (pa_cons ha (pa_cons hb pa_nil hs2) (by rw [hs, hs2])) hs hs2) fun sg H R ⟨ph, h, r, s, x⟩ => ?_
  refine ⟨ph, h, r, s, x.bind fun w h1 _ ph1 H1 b1 g1 R1 ⟨eb1, w1⟩ x1 => ?_⟩
  refine ⟨ph1, h1, r, s.grow g1 R1, x1.bind fun u h2 _ ph2 H2 b2 g2 R2 ⟨eb2, w2⟩ x2 => ?_⟩
  cases w with
  | int n =>
    cases u with
    | int k =>
      have x3 : rd X.K Ga Wd (relI X.K) ph2 h2 sg (if rOk n = true ∧ rOk k = true then .ok (.rng n (k - n).toNat, (k - n).toNat + 1) h2 else .bad) R := x2
      by_cases c : rOk n = true ∧ rOk k = true
      · rw [if_pos c] at x3
        exact ⟨n, k, by rw [eb1, eb2]; rfl, ⟨(rOk_ok c.1).1, (rOk_ok c.1).2, (rOk_ok c.2).1, (rOk_ok c.2).2⟩, x3 ph2 H2 _ (Grow.refl _ _) R2 rfl⟩
      · rw [if_neg c] at x3
        exact x3.elim
    | _ => exact x2.elim
  | _ => cases u <;> exact x2.elim
theorem s_for {is : List Nat} {mi : Mini.I} {g : Mini.G} (hp : PassesOwn (model X.prog X.w) X.A X.env X.xe) (hc : X.calm = true) (hi : PI X tg iter (tI X.K Ga pin Wd mi)) (hg : Tg X Ga pin is tg g) (hb : PSs X body (tS X.K Ga pin Wd sb))
    (hs : ∀ x, foldedSetIterable iter X.env x = pure x := by intro _; rfl) : PS X (.For tg iter body [] pos) (tS X.K Ga pin Wd (Mini.sFor mi g sb)) := by
  obtain ⟨t, p, z⟩ := hg.ex
  refine PS.imp (ps_for hp hc hi p hb hs) fun D sg H ⟨ph, h, r, s, x⟩ => ⟨ph, h, r, s, ?_⟩
  refine st_of (k := fun q h1 => sTurns q.1 g sb q.2 0 r h1) (D := D) s ?_ fun q h1 ph1 H1 J g1 S rl x1 => ?_
  · unfold Mini.sFor at x
    cases e : mi r h <;> (rw [e] at x; exact x)
  · obtain ⟨src, k⟩ := q
    refine ⟨fun i n sg H => ∃ ph h r, SR X.K Ga pin ph h r sg H ∧ SrcAt X.K J src ph h.length ∧ rdS X.K Ga pin Wd ph h (sTurns src g sb n i r h) D, ⟨k, ph1, h1, r, S, rl, x1⟩, fun i n sg H ⟨ph, h, r, s, sr, x⟩ => ?_⟩
    cases n with
    | zero => exact x.elim
    | succ n =>
      simp only [sTurns] at x
      cases e : src.at i h with
      | none => rw [e] at x; exact x.elim
      | some q =>
        rw [e] at x
        cases q with
        | none => exact .inl ⟨src_stop s.hr sr e, x ph sg H (Grow.refl _ _) s⟩
        | some w =>
          obtain ⟨y1, y2, y3⟩ := src_go s.hr sr e
          refine .inr ⟨y1, fun sg H => ∃ ph h r, SR X.K Ga pin ph h r sg H ∧ SrcAt X.K J src ph h.length ∧ rdS X.K Ga pin Wd ph h (sTurns src g sb n (i + 1) r h) D, fun sg' H' y => ⟨n, Nat.lt_succ_self n, y⟩, fun v H' y => ?_⟩
          obtain ⟨rfl, rfl⟩ := y3 v H' y
          refine z ph h r sg H' w _ s y2 ?_
          simp only [] at x
          cases e2 : g w r h with
          | exc c d h2 => rw [e2] at x; exact x.elim
          | bad => rw [e2] at x; exact x.elim
          | ok r1 h1 =>
            rw [e2] at x
            intro ph2 sg2 H2 g2 S2 _
            refine ⟨ph2, h1, r1, S2, ?_⟩
            simp only [] at x
            have x2 := rdS.base g2 x
            cases e3 : sb r1 h1 with
            | ok f r3 h3 =>
              rw [e3] at x2
              cases f with
              | nx => exact fun ph4 sg4 H4 g4 S4 => ⟨ph4, h3, r3, S4, (sr.grow g2).grow g4, rdS.base g4 x2⟩
              | ct => exact fun ph4 sg4 H4 g4 S4 => ⟨ph4, h3, r3, S4, (sr.grow g2).grow g4, rdS.base g4 x2⟩
              | bk => exact x2
              | rt u => exact x2
            | exc c d r3 h3 => rw [e3] at x2; exact x2
            | bad => rw [e3] at x2; exact x2
end
end Br
set_option Elab.async false
set_option autoImplicit false
set_option linter.all false
set_option maxRecDepth 100000
set_option maxHeartbeats 1100000
namespace Br
open PySem PySem.Spec PyProof.Rows L2 Mini
section
variable {X : Cx} {Ga : Nat → Addr} {pin : Pin} {Wd : WX} {ph : Nat → Addr} {h : MH} {r : Mini.Env} {sg : L2.St} {H : Hp} {a b c e tg iter o i : Expr} {es rest : List Expr} {pos : Pos} {ma mb mc m mo mi : Mini.E} {ta tb : Mini.T} {ms : Mini.A} {st : Stmt} {sts body orelse : List Stmt} {sa sb : Mini.S} {α β : Type}
abbrev W0 : WX := fun _ _ _ _ => False
/-- a result that is one of Mini's, whatever stood ahead -/
theorem rd.ok1 {K : PySem.W.Frag} {rel : (Nat → Addr) → Nat → α → β → Prop} {w : α} {h1 : MH} {Q : β → Hp → Prop} (x : rd K Ga Wd rel ph h sg (.ok w h1) Q) : ∀ ph' H' b, Grow ph h ph' h1 → HR K Ga ph' h1 H' → rel ph' h1.length w b → Q b H' := x
/-! ### a list's append -/
theorem e_app {p q : Pos} (ho : PE X o (tE X.K Ga pin Wd mo)) (he : PE X e (tE X.K Ga pin Wd m)) (hbase : attributeBase o "append" X.env (eval o X.env) = eval o X.env := by rfl)
    (hfew : ((backTo q (starEach [e] X.env)).all (fun x => !x.1) && (backToKw q (keywordEach [] X.env)).all (fun x => x.1.isSome)
      && decide (([e] : List Expr).length + ([] : List Keyword).length + (if ([] : List Keyword).isEmpty then 0 else 1) < 30))
      = true := by rfl)
    (hline : (p.endLine == q.line) = true := by rfl) (hs : starEach (e :: []) X.env = (false, eval e X.env) :: starEach [] X.env := by rfl) (hplain : (backTo q (starEach [] X.env)).any (·.1) = false := by rfl) :
    PE X (.Call (.Attribute o "append" p) [e] [] q) (tE X.K Ga pin Wd (eApp mo m)) := by
  refine PE.imp (pe_bm PySem.F.plainAttrs_list PySem.F.slot_list_append PySem.F.type_list_append mt_append ho (pa_cons he pa_nil hs) hbase hfew hline hs hplain) fun sg H Q ⟨ph, h, r, s, x⟩ => ?_
  refine ⟨ph, h, r, s, x.bind fun u h1 _ ph1 H1 b1 g1 R1 ⟨eb1, w1⟩ x1 => ?_⟩
  by_cases c : isLst u h1 = true
  · rw [if_pos c] at x1
    refine ⟨?_, ph1, h1, r, s.grow g1 R1, x1.bind fun y h2 _ ph2 H2 b2 g2 R2 ⟨eb2, w2⟩ x2 => ?_⟩
    · rw [eb1]
      cases u with
      | ref n =>
        simp only [isLst] at c
        cases e1 : h1[n]? with
        | none => rw [e1] at c; cases c
        | some cl =>
          rw [e1] at c
          cases cl with
          | lst xs => exact .inl ⟨rfl, _, .inl (.inl (R1.cells n _ e1).1)⟩
          | _ => cases c
      | _ => cases c
    · unfold app at x2
      cases u with
      | ref n =>
        simp only [] at x2
        cases e1 : h2[n]? with
        | none => rw [e1] at x2; exact x2.elim
        | some cl =>
          rw [e1] at x2
          cases cl with
          | lst xs =>
            simp only [] at x2
            by_cases c2 : xs.length < 10000000
            · rw [if_pos c2] at x2
              obtain ⟨z1, z2⟩ := R2.cells n _ e1
              refine ⟨ph2 n, xs.map (vW ph2), vW ph2 y, ?_, by rw [eb2], z1, by rw [List.length_map]; exact m_line1 c2, ?_⟩
              · rw [eb1]
                exact (g2.v w1).symm
              · have em : (xs ++ [y]).map (vW ph2) = xs.map (vW ph2) ++ [vW ph2 y] := by rw [List.map_append]; rfl
                have zw : ∀ x ∈ xs ++ [y], wf h2.length x := fun x hx => by
                  rcases (List.mem_append.mp hx : _ ∨ _) with hx | hx
                  · exact z2 x hx
                  · rw [List.mem_singleton.mp hx]; exact w2
                have R3 : HR X.K Ga ph2 (h2.set n (.lst (xs ++ [y]))) (upd H2 (ph2 n) (.lst (xs.map (vW ph2) ++ [vW ph2 y]))) := R2.set e1 trivial trivial ⟨by rw [em]; exact upd_same, zw⟩
                exact x2.ok1 ph2 _ _ Grow.set R3 ⟨rfl, trivial⟩
            · rw [if_neg c2] at x2
              exact x2.elim
          | _ => exact x2.elim
      | _ => exact x2.elim
  · rw [if_neg c] at x1
    exact x1.elim
/-! ### slices -/
def relO_ (_ : Nat → Addr) (_ : Nat) (x : Option Int) (y : Option Int) : Prop := y = x
def tO_ (K : PySem.W.Frag) (Ga : Nat → Addr) (pin : Pin) (Wd : WX) (m : Mini.Env → MH → Mini.R (Option Int)) : TO := fun sg H Q => ∃ ph h r, SR K Ga pin ph h r sg H ∧ rd K Ga Wd relO_ ph h sg (m r h) Q
theorem PO.imp {x : Option Expr} {t t' : TO} (p : PO X x t) (k : ∀ sg H Q, t' sg H Q → t sg H Q) : PO X x t' := ⟨fun pins s sg H Q I h => p.run pins s sg H Q I (k sg H Q h)⟩
theorem o_no : PO X none (tO_ X.K Ga pin Wd oNo) := PO.imp po_none fun sg H Q ⟨ph, h, r, s, x⟩ => x ph H _ (Grow.refl _ _) s.hr rfl
theorem o_so (he : PE X e (tE X.K Ga pin Wd m)) : PO X (some e) (tO_ X.K Ga pin Wd (oSo m)) := by
  refine PO.imp (po_some he) fun sg H Q ⟨ph, h, r, s, x⟩ => ?_
  refine ⟨ph, h, r, s, x.bind fun w h1 _ ph1 H1 b1 g1 R1 ⟨eb1, w1⟩ x1 => ?_⟩
  cases w with
  | int i => exact ⟨i, eb1, x1 ph1 H1 _ (Grow.refl _ _) R1 rfl⟩
  | _ => exact x1.elim
theorem sIx_eq {n d : Nat} {o : Option Int} : Mini.sIx n d o = HT.sIx n d o := by cases o <;> rfl
theorem cut_eq {xs : List Mini.W} {l u : Option Int} : (cut xs l u).map (vW ph) = cutV (xs.map (vW ph)) l u := by
  unfold cut cutV
  rw [List.map_take, List.map_drop, List.length_map, sIx_eq, sIx_eq]
theorem cut_wf {n : Nat} {xs : List Mini.W} {l u : Option Int} (q : ∀ x ∈ xs, wf n x) : ∀ x ∈ cut xs l u, wf n x := fun x hx => q x (List.mem_of_mem_drop (List.mem_of_mem_take hx))
def rSlA (K : PySem.W.Frag) : V → Option Int → Option Int → Hp → VK → Prop := fun x lo hi H Q => rSlL K x lo hi H Q ∨ rSlT K x lo hi H Q
theorem slice_ok {K : PySem.W.Frag} {w : Mini.W} {l u : Option Int} {Q : VK} (R : HR K Ga ph h H) (x : rd K Ga Wd relW ph h sg (slice w l u h) Q) : rSlA K (vW ph w) l u H Q := by
  unfold slice at x
  cases w with
  | ref n =>
    simp only [] at x
    cases e1 : h[n]? with
    | none => rw [e1] at x; exact x.elim
    | some cl =>
      have y := R.cells n cl e1
      rw [e1] at x
      cases cl with
      | lst xs => exact .inl ⟨ph n, _, rfl, .inl (.inl y.1), fun p hp => by rw [← cut_eq]; exact rd_new (o := fun _ => .lst ((cut xs l u).map (vW ph))) x R hp (at_lst (cut_wf y.2))⟩
      | fz xs => obtain ⟨⟨o, y1⟩, y2⟩ := y; exact .inl ⟨ph n, _, rfl, .inl (.inr ⟨o, y1⟩), fun p hp => by rw [← cut_eq]; exact rd_new (o := fun _ => .lst ((cut xs l u).map (vW ph))) x R hp (at_lst (cut_wf y2))⟩
      | cl xs => exact .inl ⟨ph n, _, rfl, .inr y.1, fun p hp => by rw [← cut_eq]; exact rd_new (o := fun _ => .lst ((cut xs l u).map (vW ph))) x R hp (at_lst (cut_wf y.2))⟩
      | tup xs =>
        simp only [] at x
        by_cases c : Mini.sIx xs.length 0 l = 0 ∧ Mini.sIx xs.length xs.length u = xs.length
        · rw [if_pos c] at x; exact x.elim
        · rw [if_neg c] at x
          exact .inr ⟨ph n, _, rfl, .inl (.inl y.1), by rw [List.length_map, ← sIx_eq, ← sIx_eq]; exact c, fun p hp => by rw [← cut_eq]; exact rd_new (o := fun _ => .tup ((cut xs l u).map (vW ph))) x R hp (at_tup (cut_wf y.2))⟩
      | ct xs =>
        simp only [] at x
        by_cases c : Mini.sIx xs.length 0 l = 0 ∧ Mini.sIx xs.length xs.length u = xs.length
        · rw [if_pos c] at x; exact x.elim
        · rw [if_neg c] at x
          exact .inr ⟨ph n, _, rfl, .inr y.1, by rw [List.length_map, ← sIx_eq, ← sIx_eq]; exact c, fun p hp => by rw [← cut_eq]; exact rd_new (o := fun _ => .tup ((cut xs l u).map (vW ph))) x R hp (at_tup (cut_wf y.2))⟩
      | _ => exact x.elim
  | _ => exact x.elim
theorem e_sl {lo hi : Option Expr} {p2 : Pos} {ml mu : Mini.Env → MH → Mini.R (Option Int)} (he : PE X e (tE X.K Ga pin Wd m)) (hl : PO X lo (tO_ X.K Ga pin Wd ml)) (hu : PO X hi (tO_ X.K Ga pin Wd mu)) :
    PE X (.Subscript e (.Slice lo hi none p2) pos) (tE X.K Ga pin Wd (eSl m ml mu)) := by
  refine PE.imp (pe_slice (SlR.or sl_list sl_tup) he hl hu) fun sg H Q ⟨ph, h, r, s, x⟩ => ?_
  refine ⟨ph, h, r, s, x.bind fun w h1 _ ph1 H1 b1 g1 R1 ⟨eb1, w1⟩ x1 => ?_⟩
  refine ⟨ph1, h1, r, s.grow g1 R1, x1.bind fun l h2 _ ph2 H2 b2 g2 R2 eb2 x2 => ?_⟩
  refine ⟨ph2, h2, r, (s.grow g1 R1).grow g2 R2, x2.bind fun u h3 _ ph3 H3 b3 g3 R3 eb3 x3 => ?_⟩
  rw [eb1, show b2 = l from eb2, show b3 = u from eb3, ← (g2.trans g3).v w1]
  exact slice_ok R3 x3
/-! ### d[k] = e -/
theorem putD_eq {kvs : List (Sum Int Str × Mini.W)} {k : Sum Int Str} {w : Mini.W} : kvV ph (putD kvs k w) = putK (kvV ph kvs) k (vW ph w) := by
  unfold putD putK
  have e : ((kvV ph kvs).any fun kv => decide (kv.1 = k)) = (kvs.any fun kv => decide (kv.1 = k)) := by
    unfold kvV
    rw [List.any_map]
    rfl
  rw [e]
  by_cases c : (kvs.any fun kv => decide (kv.1 = k)) = true
  · rw [if_pos c, if_pos c]
    unfold kvV
    rw [List.map_map]
    rw [List.map_map]
    refine List.map_congr_left (fun x _ => ?_)
    show (((if x.1 = k then (x.1, w) else x) : Sum Int Str × Mini.W).1, vW ph ((if x.1 = k then (x.1, w) else x) : Sum Int Str × Mini.W).2) = if x.1 = k then (x.1, vW ph w) else (x.1, vW ph x.2)
    by_cases c2 : x.1 = k
    · rw [if_pos c2, if_pos c2]
    · rw [if_neg c2, if_neg c2]
  · rw [if_neg c, if_neg c]
    unfold kvV
    rw [List.map_append]
    rfl
theorem putD_wf {n : Nat} {kvs : List (Sum Int Str × Mini.W)} {k : Sum Int Str} {w : Mini.W} (q : ∀ x ∈ kvs, wf n x.2) (hw : wf n w) : ∀ x ∈ putD kvs k w, wf n x.2 := fun x hx => by
  unfold putD at hx
  split at hx
  · obtain ⟨y, hy, rfl⟩ := List.mem_map.mp hx
    by_cases c : y.1 = k
    · rw [if_pos c]; exact hw
    · rw [if_neg c]; exact q y hy
  · rcases (List.mem_append.mp hx : _ ∨ _) with hx | hx
    · exact q x hx
    · rw [List.mem_singleton.mp hx]; exact hw
theorem keyOf_ok {w : Mini.W} {q : Sum Int Str} (e : keyOf w = some q) : vW ph w = kV q := by
  cases w <;> first | (cases e; done) | (cases e; rfl)
theorem s_dput {d k : Expr} {md mk me : Mini.E} {pos' : Pos} (hu : X.A.units + 1 < cLine) (hd : PE X d (tE X.K Ga pin Wd md)) (hk : PE X k (tE X.K Ga pin Wd mk)) (he : PE X e (tE X.K Ga pin Wd me)) (hs : swapsWith e (some (.Subscript d k pos')) pos.line X.env = pure false := by rfl) :
    PS X (.Assign [.Subscript d k pos'] e pos) (tS X.K Ga pin Wd (sDput md mk me)) := by
  refine PS.imp (ps_dput hu hd hk he hs) fun D sg H ⟨ph, h, r, s, x⟩ => ?_
  have y : rd X.K Ga Wd (fun _ _ (_ : Unit) (_ : Unit) => True) ph h sg ((me r h).bind fun w h1 => (md r h1).bind fun x h2 => (mk r h2).bind fun y h3 => Mini.dput w x y h3) (fun _ H' => D.nx sg H') := by
    refine st_of (k := fun _ h1 => .ok .nx r h1) (D := D) s ?_ fun _ h1 ph1 H1 b g S rl x1 => x1 ph1 sg H1 (Grow.refl _ _) S
    unfold sDput at x
    cases e : ((me r h).bind fun w h1 => (md r h1).bind fun x h2 => (mk r h2).bind fun y h3 => Mini.dput w x y h3) <;> (rw [e] at x; exact x)
  refine ⟨ph, h, r, s, y.bind fun w h1 _ ph1 H1 b1 g1 R1 ⟨eb1, w1⟩ x1 => ?_⟩
  refine ⟨ph1, h1, r, s.grow g1 R1, x1.bind fun u h2 _ ph2 H2 b2 g2 R2 ⟨eb2, w2⟩ x2 => ?_⟩
  refine ⟨ph2, h2, r, (s.grow g1 R1).grow g2 R2, x2.bind fun k h3 _ ph3 H3 b3 g3 R3 ⟨eb3, w3⟩ x3 => ?_⟩
  unfold Mini.dput at x3
  cases u with
  | ref n =>
    simp only [] at x3
    cases e1 : h3[n]? with
    | none => rw [e1] at x3; exact x3.elim
    | some cl =>
      rw [e1] at x3
      cases cl with
      | dic kvs =>
        simp only [] at x3
        cases e2 : keyOf k with
        | none => rw [e2] at x3; exact x3.elim
        | some q =>
          rw [e2] at x3
          simp only [] at x3
          by_cases c : kvs.length < 1000000
          · rw [if_pos c] at x3
            obtain ⟨z1, z2⟩ := R3.cells n _ e1
            have w1' : wf h3.length w := w1.mono (g2.trans g3).le
            have R4 : HR X.K Ga ph3 (h3.set n (.dic (putD kvs q w))) (upd H3 (ph3 n) (.dK (putK (kvV ph3 kvs) q (vW ph3 w)))) := R3.set e1 trivial trivial ⟨by rw [putD_eq]; exact upd_same, putD_wf z2 w1'⟩
            refine ⟨ph3 n, _, ?_, .inl ⟨kvV ph3 kvs, q, z1, ?_, ?_, rfl⟩, ?_⟩
            · rw [eb2]; exact (g3.v w2).symm
            · rw [eb3]; exact keyOf_ok e2
            · show (kvV ph3 kvs).length < sizeLine
              unfold kvV
              rw [List.length_map]
              exact m_line1 (Nat.lt_of_lt_of_le c (by decide))
            · rw [eb1, ← (g2.trans g3).v w1]
              exact x3.ok1 ph3 _ () Grow.set R4 trivial
          · rw [if_neg c] at x3; exact x3.elim
      | _ => exact x3.elim
  | _ => exact x3.elim
end
end Br
set_option Elab.async false
set_option autoImplicit false
set_option linter.all false
set_option maxRecDepth 100000
set_option maxHeartbeats 1100000
namespace Br
open PySem PySem.Spec PyProof.Rows L2 Mini
section
variable {X : Cx} {Ga : Nat → Addr} {pin : Pin} {Wd : WX} {ph : Nat → Addr} {h : MH} {r : Mini.Env} {sg : L2.St} {H : Hp} {a b c e tg iter o i : Expr} {es rest : List Expr} {pos : Pos} {ma mb mc m mo : Mini.E} {ta tb : Mini.T} {ms : Mini.A} {st : Stmt} {sts body orelse : List Stmt} {sa sb : Mini.S} {α β : Type}
/-! ### list comprehensions -/
theorem rd_quiet {K : PySem.W.Frag} {rel : (Nat → Addr) → Nat → α → β → Prop} {q : Mini.R α} {Q : β → Hp → Prop} {sg' : L2.St} (x : rd K Ga Wd rel ph h sg q.quiet Q) : rd K Ga W0 rel ph h sg' q Q := by
  cases q with
  | ok a h' => exact x
  | exc c d h' => exact x.elim
  | bad => exact x.elim
theorem wipe_get {r : Mini.Env} {i : Nat} {w : Mini.W} : ∀ {vs : List Nat}, (Mini.wipe r vs)[i]? = some (some w) → r[i]? = some (some w) ∧ i ∉ vs
  | [], e => ⟨e, fun q => nomatch q⟩
  | v :: vs, e => by
    have e' : ((Mini.wipe r vs).set v none)[i]? = some (some w) := e
    by_cases c : v = i
    · subst c
      by_cases l : v < (Mini.wipe r vs).length
      · rw [List.getElem?_set_self l] at e'; cases e'
      · rw [List.getElem?_eq_none (by rw [List.length_set]; omega)] at e'; cases e'
    · rw [List.getElem?_set_ne c] at e'
      obtain ⟨z1, z2⟩ := wipe_get e'
      exact ⟨z1, fun q => by
        rcases List.mem_cons.mp q with q | q
        · exact c q.symm
        · exact z2 q⟩
theorem wipe_len {r : Mini.Env} : ∀ {vs : List Nat}, (Mini.wipe r vs).length = r.length
  | [] => rfl
  | v :: vs => by show ((Mini.wipe r vs).set v none).length = _; rw [List.length_set, wipe_len]
theorem SR.wipe {K : PySem.W.Frag} (s : SR K Ga none ph h r sg H) (vs : List Nat) : SR K Ga none ph h (Mini.wipe r vs) (L2.wipe sg vs) H :=
  ⟨s.hr, by rw [wipe_length, wipe_len, s.len], fun i w e => by
    obtain ⟨z1, z2⟩ := wipe_get e
    rw [wipe_out z2]
    exact s.val i w z1, fun q e => nomatch e⟩
theorem get_wipe {sg : L2.St} {i : Nat} : ∀ {vs : List Nat}, i ∈ vs → i < sg.length → (L2.wipe sg vs)[i]? = some none
  | v :: vs, hi, hl => by
    show ((L2.wipe sg vs).set v none)[i]? = some none
    by_cases c : v = i
    · subst c
      rw [List.getElem?_set_self (by rw [wipe_length]; exact hl)]
    · rw [List.getElem?_set_ne c]
      rcases List.mem_cons.mp hi with q | q
      · exact absurd q.symm c
      · exact get_wipe q hl
theorem wipe_same {sg sg2 : L2.St} {is vs : List Nat} (f : Fr_ is sg sg2) (hs : ∀ i ∈ is, i ∈ vs) : L2.wipe sg2 vs = L2.wipe sg vs := by
  refine List.ext_getElem? fun i => ?_
  by_cases c : i ∈ vs
  · by_cases l : i < sg.length
    · rw [get_wipe c l, get_wipe c (by rw [f.1]; exact l)]
    · rw [List.getElem?_eq_none (by rw [wipe_length, f.1]; omega), List.getElem?_eq_none (by rw [wipe_length]; omega)]
  · rw [wipe_out c, wipe_out c]
    exact f.2 i fun z => c (hs i z)
theorem wipe_wipe {sg : L2.St} {vs : List Nat} : L2.wipe (L2.wipe sg vs) vs = L2.wipe sg vs := by
  refine wipe_same (is := vs) ⟨wipe_length _ _, fun j hj => wipe_out hj⟩ fun i hi => hi
/-- the tests of a comprehension -/
theorem ts_nil : PTs X [] (tT X.K Ga pin Wd Mini.tYes) := ⟨fun pins s sg H Q I ⟨ph, h, r, s', x⟩ => pts_nil.run pins s sg H Q I (rd_okB x s'.hr)⟩
theorem ts_one (hc : PT X c (tT X.K Ga pin Wd ta)) : PTs X [c] (tT X.K Ga pin Wd ta) := pts_one hc
theorem lc_of {is vs : List Nat} {mi : Mini.I} {g : Mini.G} {t : TG} (ho : ∀ j ∈ is, j ∈ vs) (hz : TgS X Ga none is g t) (sg : L2.St) (H : Hp) (Q : VK) (x : tE X.K Ga none Wd (eLc vs mi g ta m) sg H Q) :
    tLc (tI X.K Ga none Wd mi) t (tT X.K Ga none W0 ta) (tE X.K Ga none W0 m) vs sg H Q := by
  obtain ⟨ph, h, r, s, x⟩ := x
  refine ⟨ph, h, r, s, x.bind fun q h1 _ ph1 H1 J g1 R1 rl x1 => fun D hD => ?_⟩
  obtain ⟨src, k⟩ := q
  have x2 := rd_quiet (sg' := sg) x1
  -- the new list
  let ph2 := ext ph1 h1.length D
  have g2 : Grow ph1 h1 ph2 (h1 ++ [Cell.lst []]) := Grow.ext
  have R2 : HR X.K Ga ph2 (h1 ++ [Cell.lst []]) (upd H1 D (.lst [])) := R1.push hD ⟨upd_same, fun _ hx => nomatch hx⟩
  have eD : ph2 h1.length = D := ext_at
  have s2 : SR X.K Ga none ph2 (h1 ++ [Cell.lst []]) r sg (upd H1 D (.lst [])) := (s.grow g1 R1).grow g2 R2
  have sr2 : SrcAt X.K J src ph2 (h1 ++ [Cell.lst []]).length := SrcAt.grow g2 rl
  refine ⟨fun i n H => ∃ ph h, SR X.K Ga none ph h r sg H ∧ SrcAt X.K J src ph h.length ∧ h1.length < h.length ∧ ph h1.length = D ∧ rd X.K Ga W0 relW ph h sg (lcTurns src g ta m (Mini.wipe r vs) h1.length n i h) Q,
    ⟨k, ph2, _, s2, sr2, by rw [List.length_append]; exact Nat.lt_succ_self _, eD, rd.base g2 x2⟩, fun i n H ⟨ph, h, s, sr, hl, eD, x⟩ => ?_⟩
  cases n with
  | zero => exact x.elim
  | succ n =>
    simp only [lcTurns] at x
    cases e : src.at i h with
    | none => rw [e] at x; exact x.elim
    | some q =>
      rw [e] at x
      cases q with
      | none =>
        refine .inl ⟨src_stop s.hr sr e, ?_⟩
        have q := x.ok1 ph H _ (Grow.refl _ _) s.hr ⟨rfl, hl⟩
        rw [show vW ph (.ref h1.length) = .ref D from congrArg V.ref eD] at q
        exact q
      | some w =>
        obtain ⟨y1, y2, y3⟩ := src_go s.hr sr e
        refine .inr ⟨y1, fun H => ∃ ph h, SR X.K Ga none ph h r sg H ∧ SrcAt X.K J src ph h.length ∧ h1.length < h.length ∧ ph h1.length = D ∧ rd X.K Ga W0 relW ph h sg (lcTurns src g ta m (Mini.wipe r vs) h1.length n (i + 1) h) Q,
          fun H' y => ⟨n, Nat.lt_succ_self n, y⟩, fun v H' y => ?_⟩
        obtain ⟨rfl, rfl⟩ := y3 v H' y
        simp only [] at x
        refine hz ph h (Mini.wipe r vs) (L2.wipe sg vs) H' w _ (s.wipe vs) y2 ?_
        cases e2 : g w (Mini.wipe r vs) h with
        | exc cc d h2 => rw [e2] at x; exact x.elim
        | bad => rw [e2] at x; exact x.elim
        | ok r1 h3 =>
          rw [e2] at x
          intro ph3 sg3 H3 g3 S3 f3
          have ew : L2.wipe sg3 vs = L2.wipe sg vs := (wipe_same f3 ho).trans wipe_wipe
          refine ⟨ew, ?_⟩
          have x3 : rd X.K Ga W0 relW ph3 h3 sg ((ta r1 h3).bind fun c h2 => if c = true then (m r1 h2).bind fun x h3 => lcAdd h1.length x (lcTurns src g ta m (Mini.wipe r vs) h1.length n (i + 1)) h3
            else lcTurns src g ta m (Mini.wipe r vs) h1.length n (i + 1) h2) Q := rd.base g3 x
          -- the state of the def stands
          have back : ∀ {ph4 : Nat → Addr} {h4 : MH} {H4 : Hp}, Grow ph h ph4 h4 → HR X.K Ga ph4 h4 H4 → SR X.K Ga none ph4 h4 r sg H4 := fun g R => s.grow g R
          refine ⟨ph3, h3, r1, S3, ?_⟩
          have x4 : rd X.K Ga W0 relW ph3 h3 sg3 ((ta r1 h3).bind fun c h2 => if c = true then (m r1 h2).bind fun x h3 => lcAdd h1.length x (lcTurns src g ta m (Mini.wipe r vs) h1.length n (i + 1)) h3
            else lcTurns src g ta m (Mini.wipe r vs) h1.length n (i + 1) h2) Q := by
            revert x3
            generalize ((ta r1 h3).bind fun c h2 => if c = true then (m r1 h2).bind fun x h3 => lcAdd h1.length x (lcTurns src g ta m (Mini.wipe r vs) h1.length n (i + 1)) h3
            else lcTurns src g ta m (Mini.wipe r vs) h1.length n (i + 1) h2) = qq
            intro x3
            cases qq with
            | ok a h' => exact x3
            | exc cc d h' => exact fun ph' H' g R z => x3 ph' H' g R z
            | bad => exact x3
          refine x4.bind fun k2 h4 _ ph4 H4 b4 g4 R4 eb4 x5 => ?_
          rw [show b4 = k2 from eb4]
          have gg4 := g3.trans g4
          cases k2 with
          | false =>
            rw [if_neg (fun z => nomatch z)]
            rw [if_neg (fun z => nomatch z)] at x5
            refine ⟨ph4, h4, back gg4 R4, sr.grow gg4, Nat.lt_of_lt_of_le hl gg4.le, (gg4.eq _ hl).trans eD, ?_⟩
            revert x5
            generalize lcTurns src g ta m (Mini.wipe r vs) h1.length n (i + 1) h4 = qq
            intro x5
            cases qq with
            | ok a h' => exact x5
            | exc cc d h' => exact fun ph' H' g R z => x5 ph' H' g R z
            | bad => exact x5
          | true =>
            rw [if_pos rfl]
            rw [if_pos rfl] at x5
            refine ⟨ph4, h4, r1, S3.grow g4 R4, x5.bind fun y h5 _ ph5 H5 b5 g5 R5 ⟨eb5, w5⟩ x6 => ?_⟩
            have gg5 := gg4.trans g5
            have eD5 : ph5 h1.length = D := (gg5.eq _ hl).trans eD
            unfold lcAdd at x6
            cases e6 : h5[h1.length]? with
            | none => rw [e6] at x6; exact x6.elim
            | some cl =>
              rw [e6] at x6
              cases cl with
              | lst acc =>
                simp only [] at x6
                by_cases c6 : acc.length < 10000000
                · rw [if_pos c6] at x6
                  obtain ⟨z1, z2⟩ := R5.cells _ _ e6
                  rw [eD5] at z1
                  refine ⟨acc.map (vW ph5), z1, by rw [List.length_map]; exact m_line1 c6, ?_⟩
                  have em : (acc ++ [y]).map (vW ph5) = acc.map (vW ph5) ++ [vW ph5 y] := by rw [List.map_append]; rfl
                  have zw : ∀ x ∈ acc ++ [y], wf h5.length x := fun x hx => by
                    rcases (List.mem_append.mp hx : _ ∨ _) with hx | hx
                    · exact z2 x hx
                    · rw [List.mem_singleton.mp hx]; exact w5
                  have R6 : HR X.K Ga ph5 (h5.set h1.length (.lst (acc ++ [y]))) (upd H5 (ph5 h1.length) (.lst (acc.map (vW ph5) ++ [vW ph5 y]))) := R5.set e6 trivial trivial ⟨by rw [em]; exact upd_same, zw⟩
                  rw [eD5] at R6
                  rw [eb5]
                  have g6 : Grow ph5 h5 ph5 (h5.set h1.length (.lst (acc ++ [y]))) := Grow.set
                  have gg6 := gg5.trans g6
                  refine ⟨ph5, _, back gg6 R6, sr.grow gg6, Nat.lt_of_lt_of_le hl gg6.le, eD5, rd.base g6 ?_⟩
                  revert x6
                  generalize lcTurns src g ta m (Mini.wipe r vs) h1.length n (i + 1) (h5.set h1.length (.lst (acc ++ [y]))) = qq
                  intro x6
                  cases qq with
                  | ok a h' => exact x6
                  | exc cc d h' => exact fun ph' H' g R z => x6 ph' H' g R z
                  | bad => exact x6
                · rw [if_neg c6] at x6; exact x6.elim
              | _ => exact x6.elim
theorem e_lc {is : List Nat} {ifs : List Expr} {scope : Scope} {own : List (Str × Nat)} {mi : Mini.I} {g : Mini.G} {t : TG} {elt : Expr} (hc : X.calm = true) (hN : X.N.Nodup) (hi : PI X tg iter (tI X.K Ga none Wd mi)) (ok : BlkOk X.N X.env.scope scope own) (ho : ∀ j ∈ is, j ∈ own.map (·.2))
    (hz : TgS X Ga none is g t)
    (hg : ∀ (s : Shared) (H : Hp) (C : Addr) (cl : List (Str × Addr)) (fp : List Addr), PG (X.blk s H scope (compEnvC scope cl C X.env) fp) tg t)
    (ht : ∀ (s : Shared) (H : Hp) (C : Addr) (cl : List (Str × Addr)) (fp : List Addr), PTs (X.blk s H scope (compEnvC scope cl C X.env) fp) ifs (tT X.K Ga none W0 ta))
    (he : ∀ (s : Shared) (H : Hp) (C : Addr) (cl : List (Str × Addr)) (fp : List Addr), PE (X.blk s H scope (compEnvC scope cl C X.env) fp) elt (tE X.K Ga none W0 m)) (hs : ∀ x, foldedSetIterable iter X.env x = pure x := by intro _; rfl) :
    PE X (.ListComp elt [⟨tg, iter, ifs, 0⟩] scope pos) (tE X.K Ga none Wd (eLc (own.map (·.2)) mi g ta m)) :=
  PE.imp (pe_lc hc hN hi ok hg ht he hs) (lc_of ho hz)
theorem s_setLc {is : List Nat} {i : Nat} {y : Str} {py spos : Pos} {ifs : List Expr} {scope : Scope} {own : List (Str × Nat)} {mi : Mini.I} {g : Mini.G} {t : TG} {elt : Expr} (hc : X.calm = true) (hN : X.N.Nodup) (hy : X.N[i]? = some y) (hyl : X.env.scope.names.lookup y = some .local)
    (hsw : swapsWith (.ListComp elt [⟨tg, iter, ifs, 0⟩] scope pos) (some (.Name y py)) spos.line X.env = pure true) (hi : PI X tg iter (tI X.K Ga none Wd mi)) (ok : BlkOk X.N X.env.scope scope own) (ho : ∀ j ∈ is, j ∈ own.map (·.2))
    (hz : TgS X Ga none is g t)
    (hg : ∀ (s : Shared) (H : Hp) (C : Addr) (cl : List (Str × Addr)) (fp : List Addr), PG (X.blk s H scope (compEnvC scope cl C X.env) fp) tg t)
    (ht : ∀ (s : Shared) (H : Hp) (C : Addr) (cl : List (Str × Addr)) (fp : List Addr), PTs (X.blk s H scope (compEnvC scope cl C X.env) fp) ifs (tT X.K Ga none W0 ta))
    (he : ∀ (s : Shared) (H : Hp) (C : Addr) (cl : List (Str × Addr)) (fp : List Addr), PE (X.blk s H scope (compEnvC scope cl C X.env) fp) elt (tE X.K Ga none W0 m)) (hs : ∀ x, foldedSetIterable iter X.env x = pure x := by intro _; rfl) :
    PS X (.Assign [.Name y py] (.ListComp elt [⟨tg, iter, ifs, 0⟩] scope pos) spos) (tS X.K Ga none Wd (sSet i (eLc (own.map (·.2)) mi g ta m))) := by
  refine PS.imp (ps_setLc hc hN hy hyl hsw hi ok hg ht he hs) fun D sg H ⟨ph, h, r, s, x⟩ => ?_
  refine lc_of ho hz sg H _ ⟨ph, h, r, s, ?_⟩
  refine st_of (k := fun w h1 => .ok .nx (r.set i (some w)) h1) (D := D) s ?_ fun w h1 ph1 H1 b g1 S rl x1 => ?_
  · unfold sSet sAsg at x
    cases e : eLc (own.map (·.2)) mi g ta m r h <;> (rw [e] at x; exact x)
  · rw [rl.1]
    exact x1 ph1 _ H1 (Grow.refl _ _) (S.put rl.2 lets0)
end
end Br
set_option Elab.async false
set_option autoImplicit false
set_option linter.all false
set_option maxRecDepth 100000
set_option maxHeartbeats 1100000
namespace Br
open PySem PySem.Spec PyProof.Rows L2 Mini
/-! ### several except clauses, some with a name -/
structure Cls_ where
  c : Value
  i : Option Nat
  ts : Addr → Value → Option Addr → TS
def offI (i : Option Nat) (sg : L2.St) : L2.St := match i with
  | some i => sg.set i none
  | none => sg
def onI (i : Option Nat) (a : Addr) (sg : L2.St) : L2.St := match i with
  | some i => sg.set i (some (.ref a))
  | none => sg
def offD (i : Option Nat) (D : Ends) : Ends := { nx := fun sg H => D.nx (offI i sg) H, rt := D.rt, bk := fun sg H => D.bk (offI i sg) H, ct := fun sg H => D.ct (offI i sg) H }
def wAll (K : PySem.W.Frag) (Wout : WX) (D : Ends) : List Cls_ → WX
  | [] => Wout
  | k :: ks => fun cls d sg H => ∃ q, PySem.W.exmOne K cls k.c = some q ∧ (q = true → ∀ a, H a = none → k.ts a cls d (offD k.i D) (onI k.i a sg) H) ∧ (q = false → wAll K Wout D ks cls d sg H)
/-- the name of a clause -/
def NameOk (X : Cx) : Option Str → Option Nat → Prop
  | none, none => True
  | some n, some i => X.N[i]? = some n ∧ X.env.kindOf n = some .local
  | _, _ => False
inductive Hds (X : Cx) : List ExceptHandler → List Cls_ → Prop
  | nil : Hds X [] []
  | cons {x : Str} {k : Cls_} {n : Option Str} {b : Stmt} {suite : List Stmt} {np p : Pos} {hds : List ExceptHandler} {ks : List Cls_} (hc : Names X x k.c) (hn : NameOk X n k.i)
      (hsu : ∀ (a : Addr) (oe : Obj) (cls : Value) (d : Option Addr) (pn : List (Addr × Obj)), Zc cls d oe → (∃ vs, oe.data = .fields vs) → PSs (X.suite a ((a, oe) :: pn)) (b :: suite) (k.ts a cls d)) (r : Hds X hds ks) :
      Hds X (.ExceptHandler (some (.Name x np)) n (b :: suite) p :: hds) (k :: ks)
section
variable {X : Cx} {body : List Stmt} {h0 : ExceptHandler} {hds : List ExceptHandler} {ks : List Cls_} {pos : Pos} {tb : WX → TS} {Wout : WX}
theorem sp_back {M : Type} {pins : List (Addr × Obj)} {D : Ends} {X' : Cx} {f : Flow} {s : Shared} (back : ∀ {sg : L2.St} {H : Hp}, Inv X' [] sg H s → Inv X pins sg H s) (z : SP X' [] D f s) : SP X pins D f s := by
  cases f with
  | next => obtain ⟨sg, H, J, q⟩ := z; exact ⟨sg, H, back J, q⟩
  | brk => obtain ⟨sg, H, J, q⟩ := z; exact ⟨sg, H, back J, q⟩
  | cont => obtain ⟨sg, H, J, q⟩ := z; exact ⟨sg, H, back J, q⟩
  | ret u => obtain ⟨v, sg, H, J, rv, q⟩ := z; exact ⟨v, sg, H, back J, rv, q⟩
theorem try_all (hs : X.stack = X.env :: X.outer) (hf : X.env.frame = some X.env.locals) (hN : X.N.Nodup) (tk : Takes X Wout)
    (hb : ∀ (W : WX) (pn : List (Addr × Obj)) (xe : Value → Shared → Prop),
      Takes (X.tr pn xe) W → PassesOwn (model X.prog X.w) X.A X.env xe → PSs (X.tr pn xe) body (tb W))
    (hh : Hds X (h0 :: hds) ks) : PS X (.Try body (h0 :: hds) [] [] pos) (fun D sg H => tb (wAll X.K Wout D ks) D sg H) := by
  constructor
  intro pins s sg H D I want
  have ok := I.ok
  have hfr : X.A.frames = some (X.env :: X.outer) := by rw [ok.frames]; rw [hs]
  refine wpAny_Try_except (wpAny_mono ((hb (wAll X.K Wout D ks) (X.pn ++ pins) (fun u t => wpAny (model X.prog X.w) X.A (noteFrame u X.env) (fun _ t2 => wpAny (model X.prog X.w) X.A (setFlight u none) (fun _ t3 =>
    wpAny (model X.prog X.w) X.A (handleBy u X.env (h0 :: hds)) (SP X pins D) X.xe t3) X.xe t2) X.xe t) (fun u t xx => ?_) PassesOwn.looking).run [] s sg H D (I.toTry _) want) (fun f t z => ?_) (fun _ _ z => z))
  · obtain ⟨a, B, sI, pins2, sg2, H2, cls, d, rfl, J0, nb, up, sky, na, os, ag, w⟩ := xx
    have J : Inv X pins sg2 H2 sI := J0.ofTry ok
    refine Sky.land (Q := fun _ t3 => wpAny (model X.prog X.w) X.A (handleBy (.ref a) X.env (h0 :: hds)) (SP X pins D) X.xe t3) Zc.steady hfr hf (show Sky B (X.env :: X.outer) a (Zc cls d) X.env.locals t.heap by rw [← hs]; exact sky) fun g3 fl3 up3 => ?_
    have J3 : Inv X pins sg2 H2 { t with heap := g3 } := J.landed nb fl3.1 (up.trans up3) os ag
    obtain ⟨oe3, vs3, he3, (hz3 : _), hd3⟩ := fl3.there
    have nfr : a ∉ frs (X.env :: X.outer) := fun hm => by
      obtain ⟨_, o2, e2, hnf⟩ := fl3.2.2.1.mem hm
      rw [he3] at e2
      cases e2
      exact hnf _ hd3
    have nL : a ≠ X.env.locals := fun z =>
      nfr (List.mem_filterMap.mpr ⟨X.env, List.mem_cons_self, by rw [hf, z]⟩)
    have nF : a ∉ X.fs := by
      intro hm
      obtain ⟨u, hu, q⟩ := List.mem_filterMap.mp hm
      exact nfr (List.mem_filterMap.mpr ⟨u, List.mem_cons_of_mem _ hu, q⟩)
    have S3 := Inv.suite J3 he3 hd3 na nL nF
    have go : ∀ {l : List ExceptHandler} {kl : List Cls_}, Hds X l kl → wAll X.K Wout D kl cls d sg2 H2 → wpAny (model X.prog X.w) X.A (handleBy (.ref a) X.env l) (SP X pins D) X.xe { t with heap := g3 } := by
      intro l kl hk
      induction hk with
      | nil =>
        intro w
        refine wpAny_handleBy_nil ?_
        obtain ⟨_, _, _, oe, vs, T, oT, ts2, he, hz, hd, h1, hr⟩ := id fl3
        unfold PySem.passOn
        refine (wpAny_bind (wpAny_field he hd h1 ?_))
        rw [if_neg (show ¬ ((Value.ref T == Value.none) = true) by simp)]
        have out : wpAny (model X.prog X.w) X.A (setFlight (.ref a) X.env.frame) (fun _ t4 => wpAny (model X.prog X.w) X.A (throw (.ref a) : Sem Flow) (SP X pins D) X.xe t4) X.xe { t with heap := g3 } := by
          rw [hf]
          refine HandSPX.setFlight_upZ fl3 fun g4 hh4 up4 => wpAny_throw (tk _ _ ⟨a, B, sI, pins, sg2, H2, cls, d, rfl, J, nb, (up.trans up3).trans up4, .inr (.inr (by rw [hs]; exact hh4)), na, os, ag, w⟩)
        first
          | exact wpAny_bind (wpAny_pure (wpAny_bind out))
          | exact wpAny_bind out
      | @cons x k n b suite np p l2 kl2 hc hn hsu r ih =>
        intro w
        obtain ⟨q, hq, yes, no⟩ := w
        refine wpAny_handleBy_cons (codeAny_handlers_test ?_) (by intro z; cases z)
        have LT : PySem.W.Looks (model X.prog X.w) g3 (typeOf (.ref a)) cls := fun A Q E s2 kk z => wpAny_typeOf_ref (kk _ _ he3) (by rw [hz3.1]; exact z)
        have LM := PySem.W.exm_one (M := model X.prog X.w) J3.kIn LT hq
        have test : ∀ {Q : Value → Shared → Prop} {E : Value → Shared → Prop}, Q k.c { t with heap := g3 } → wpAny (model X.prog X.w) (X.A.mark (some (.ref a))) (eval (.Name x np) X.env) Q E { t with heap := g3 } := fun {Q E} z => by
          obtain ⟨hg, hdb, hm | ⟨hm, hv, hnn⟩⟩ := hc
          · exact ld_glob (X := X.suite a ((a, oe3) :: (X.pn ++ pins))) S3 hg hm z hdb
          · exact ld_blt (X := X.suite a ((a, oe3) :: (X.pn ++ pins))) S3 hg hm hv z hnn hdb
        refine test (LM.here ?_)
        cases q with
        | false => exact ih (no rfl)
        | true =>
          have yes2 := yes rfl a na
          cases n with
          | none =>
            cases ki : k.i with
            | some i => rw [ki] at hn; exact hn.elim
            | none =>
              rw [ki] at yes2
              refine codeAny_handlers_suite (HandSPX.lands_againZ fl3 fun g4 fl4 up4 => ?_)
              have J4 : Inv X pins sg2 H2 { t with heap := g4 } := J.landed nb fl4.1 ((up.trans up3).trans up4) os ag
              obtain ⟨oe4, vs4, he4, (hz4 : _), hd4⟩ := fl4.there
              refine wpAny_mono ((hsu a oe4 cls d (X.pn ++ pins) hz4 ⟨_, hd4⟩).run [] _ _ H2 _ (J4.suite he4 hd4 na nL nF) yes2) (fun f t6 z => ?_) (fun _ _ z => False.elim z)
              have z2 : SP (X.suite a ((a, oe4) :: (X.pn ++ pins))) [] D f t6 := by cases f <;> exact z
              exact sp_back (M := Unit) (fun S6 => S6.unsuite ok) z2
          | some nm =>
            cases ki : k.i with
            | none => rw [ki] at hn; exact hn.elim
            | some i =>
              rw [ki] at yes2 hn
              obtain ⟨hi, hln⟩ := hn
              refine codeAny_handlers_suite_as (HandSPX.lands_againZ fl3 fun g4 fl4 up4 => ?_)
              have J4 : Inv X pins sg2 H2 { t with heap := g4 } := J.landed nb fl4.1 ((up.trans up3).trans up4) os ag
              obtain ⟨oe4, vs4, he4, (hz4 : _), hd4⟩ := fl4.there
              refine store_ok (X := X.suite a ((a, oe4) :: (X.pn ++ pins))) (v := .ref a) (J4.suite he4 hd4 na nL nF) hN hi (.inl hln) rfl (fun t5 S5 => ?_) (.inr hln)
              refine wpAny_mono ((hsu a oe4 cls d (X.pn ++ pins) hz4 ⟨_, hd4⟩).run [] t5 _ H2 _ S5 yes2) (fun f t6 z => ?_) (fun _ _ z => False.elim z)
              have gone : ∀ {sg6 : L2.St} {H6 : Hp} {Q : Shared → Prop}, Inv (X.suite a ((a, oe4) :: (X.pn ++ pins))) [] sg6 H6 t6 → (∀ t7, Inv X pins (sg6.set i none) H6 t7 → Q t7) →
                  wpAny (model X.prog X.w) X.A (do bindName X.env nm .none; unbindBehindTheSuite X.env nm p) (fun _ t7 => Q t7) X.xe t6 := fun {sg6 H6 Q} S6 hq => gone_ok (S6.unsuite ok) hN hi hln hq
              cases f with
              | next => obtain ⟨sg6, H6, S6, q6⟩ := z; exact gone S6 fun t7 J7 => ⟨_, _, J7, q6⟩
              | brk => obtain ⟨sg6, H6, S6, q6⟩ := z; exact gone S6 fun t7 J7 => ⟨_, _, J7, q6⟩
              | cont => obtain ⟨sg6, H6, S6, q6⟩ := z; exact gone S6 fun t7 J7 => ⟨_, _, J7, q6⟩
              | ret u => obtain ⟨v6, sg6, H6, S6, r6, q6⟩ := z; exact gone S6 fun t7 J7 => ⟨_, _, _, J7, r6, q6⟩
    exact go hh w
  · cases f with
    | next => obtain ⟨sg2, H2, J, q⟩ := z; exact wpAny_execs_nil ⟨sg2, H2, J.ofTry ok, q⟩
    | brk => obtain ⟨sg2, H2, J, q⟩ := z; exact ⟨sg2, H2, J.ofTry ok, q⟩
    | cont => obtain ⟨sg2, H2, J, q⟩ := z; exact ⟨sg2, H2, J.ofTry ok, q⟩
    | ret u => obtain ⟨v, sg2, H2, J, rv, q⟩ := z; exact ⟨v, sg2, H2, J.ofTry ok, rv, q⟩
end
end Br
set_option Elab.async false
set_option autoImplicit false
set_option linter.all false
set_option maxRecDepth 100000
set_option maxHeartbeats 1100000
namespace Br
open PySem PySem.Spec PyProof.Rows L2 Mini
section
variable {X : Cx} {Ga : Nat → Addr} {pin : Pin} {Wd : WX} {ph : Nat → Addr} {h : MH} {r : Mini.Env} {sg : L2.St} {H : Hp} {a b c e : Expr} {es rest : List Expr} {pos : Pos} {m : Mini.E} {ms mk : Mini.A} {body : List Stmt} {sb : Mini.S}
/-! ### try -/
def pinOf (i : Option Nat) (a : Addr) (d : Option Addr) (n : Option Nat) : Pin := i.map fun i => ⟨i, a, d, n⟩
def tsOf (K : PySem.W.Frag) (Ga : Nat → Addr) (k : Mini.Hd) : Addr → Value → Option Addr → TS := fun a cls d D sg H => ∃ (n : Option Nat) (q : Nat), cls = .ref (Ga q) ∧ k.m q = true ∧ tS K Ga (pinOf k.i a d n) W0 (k.s n) D sg H
inductive HdM (X : Cx) (Ga : Nat → Addr) (n : Nat) : List ExceptHandler → List Mini.Hd → Prop
  | nil : HdM X Ga n [] []
  | cons {x : Str} {cv : Value} {k : Mini.Hd} {nm : Option Str} {b : Stmt} {suite : List Stmt} {np p : Pos} {hds : List ExceptHandler} {ks : List Mini.Hd} (hc : Names X x cv) (hn : NameOk X nm k.i)
      (hx : ∀ q, q < n → PySem.W.exmOne X.K (.ref (Ga q)) cv = some (k.m q))
      (hsu : ∀ (a : Addr) (oe : Obj) (cls : Value) (d : Option Addr) (pn : List (Addr × Obj)) (dn : Option Nat) (q : Nat), Zc cls d oe → (∃ vs, oe.data = .fields vs) → cls = .ref (Ga q) → k.m q = true →
        PSs (X.suite a ((a, oe) :: pn)) (b :: suite) (tS X.K Ga (pinOf k.i a d dn) W0 (k.s dn))) (r : HdM X Ga n hds ks) :
      HdM X Ga n (.ExceptHandler (some (.Name x np)) nm (b :: suite) p :: hds) (k :: ks)
theorem SR.off {K : PySem.W.Frag} {pin' : Pin} (s : SR K Ga pin' ph h r sg H) (i : Option Nat) : SR K Ga none ph h (noSlot i r) (offI i sg) H := by
  cases i with
  | none => exact ⟨s.hr, s.len, s.val, fun _ e => nomatch e⟩
  | some i =>
    refine ⟨s.hr, by show (sg.set i none).length = (r.set i none).length; rw [List.length_set, List.length_set, s.len], fun j w e => ?_, fun _ e => nomatch e⟩
    have e' : (r.set i none)[j]? = some (some w) := e
    show (sg.set i none)[j]? = _ ∧ _
    by_cases c : i = j
    · subst c
      by_cases l : i < r.length
      · rw [List.getElem?_set_self l] at e'; cases e'
      · rw [List.getElem?_eq_none (by rw [List.length_set]; omega)] at e'; cases e'
    · rw [List.getElem?_set_ne c] at e'
      rw [List.getElem?_set_ne c]
      exact s.val j w e'
theorem SR.on {K : PySem.W.Frag} (s : SR K Ga none ph h r sg H) (i : Option Nat) (a : Addr) (n : Option Nat) (hn : ∀ k, n = some k → k < h.length) (hi : ∀ j, i = some j → j < r.length) : SR K Ga (pinOf i a (n.map ph) n) ph h (noSlot i r) (onI i a sg) H := by
  cases i with
  | none => exact ⟨s.hr, s.len, s.val, fun _ e => nomatch e⟩
  | some i =>
    refine ⟨s.hr, by show (sg.set i (some (.ref a))).length = (r.set i none).length; rw [List.length_set, List.length_set, s.len], fun j w e => ?_, fun q e => ?_⟩
    · have e' : (r.set i none)[j]? = some (some w) := e
      show (sg.set i (some (.ref a)))[j]? = _ ∧ _
      by_cases c : i = j
      · subst c
        rw [List.getElem?_set_self (hi i rfl)] at e'
        cases e'
      · rw [List.getElem?_set_ne c] at e'
        rw [List.getElem?_set_ne c]
        exact s.val j w e'
    · have e' : q = ⟨i, a, n.map ph, n⟩ := (Option.some.inj e).symm
      subst e'
      exact ⟨List.getElem?_set_self (by rw [s.len]; exact hi i rfl), rfl, hn⟩
theorem hd_split {n : Nat} {hds : List ExceptHandler} {ks : List Mini.Hd} (hh : HdM X Ga n hds ks) : ∃ kl : List Cls_, Hds X hds kl ∧ ∀ (D : Ends) (c : Nat) (d : Option Nat) (ph : Nat → Addr) (h : MH) (r : Mini.Env) (sg : L2.St) (H : Hp), r.length = X.N.length →
    SR X.K Ga none ph h r sg H → (∀ k, d = some k → k < h.length) → rdS X.K Ga none Wd ph h (hRun n c d ks r h) D → wAll X.K Wd D kl (.ref (Ga c)) (d.map ph) sg H := by
  induction hh with
  | nil => exact ⟨[], .nil, fun D c d ph h r sg H _ s hd x => x ph sg H (Grow.refl _ _) s hd⟩
  | @cons x cv k nm b suite np p hds2 ks2 hc hn hx hsu rr ih =>
    obtain ⟨kl, h1, h2⟩ := ih
    refine ⟨⟨cv, k.i, tsOf X.K Ga k⟩ :: kl, .cons hc hn (fun a oe cls d pn hz hf => ?_) h1, fun D c d ph h r sg H hl s hd x => ?_⟩
    · refine ⟨fun pins s sg H D I want => ?_⟩
      obtain ⟨dn, q, e1, e2, z⟩ := want
      exact (hsu a oe cls d pn dn q hz hf e1 e2).run pins s sg H D I z
    · simp only [hRun] at x
      by_cases cn : c < n
      · rw [if_pos cn] at x
        refine ⟨k.m c, hx c cn, fun em a na => ?_, fun em => ?_⟩
        · rw [if_pos em] at x
          refine ⟨d, c, rfl, em, ph, h, noSlot k.i r, s.on k.i a d hd (fun j ej => ?_), ?_⟩
          · rw [ej] at hn
            cases nm with
            | none => exact hn.elim
            | some nm => rw [hl]; exact (List.getElem?_eq_some_iff.mp hn.1).1
          · cases e : k.s d (noSlot k.i r) h with
            | ok f r2 h3 =>
              rw [e] at x
              cases f with
              | nx => exact fun ph2 sg2 H2 g S => x ph2 _ H2 g (S.off k.i)
              | bk => exact fun ph2 sg2 H2 g S => x ph2 _ H2 g (S.off k.i)
              | ct => exact fun ph2 sg2 H2 g S => x ph2 _ H2 g (S.off k.i)
              | rt w => exact x
            | exc c2 d2 r2 h3 => rw [e] at x; exact x.elim
            | bad => rw [e] at x; exact x.elim
        · rw [if_neg (by rw [em]; exact Bool.false_ne_true)] at x
          exact h2 D c d ph h r sg H hl s hd x
      · rw [if_neg cn] at x
        exact x.elim
theorem s_try {n len : Nat} {h0 : ExceptHandler} {hds : List ExceptHandler} {ks : List Mini.Hd} (hs : X.stack = X.env :: X.outer) (hf : X.env.frame = some X.env.locals) (hN : X.N.Nodup) (hl : X.N.length = len) (tk : Takes X Wd)
    (hb : ∀ (W : WX) (pn : List (Addr × Obj)) (xe : Value → Shared → Prop), Takes (X.tr pn xe) W → PassesOwn (model X.prog X.w) X.A X.env xe → PSs (X.tr pn xe) body (tS X.K Ga none W sb))
    (hh : HdM X Ga n (h0 :: hds) ks) : PS X (.Try body (h0 :: hds) [] [] pos) (tS X.K Ga none Wd (sTry n len sb ks)) := by
  obtain ⟨kl, h1, h2⟩ := hd_split (Wd := Wd) hh
  refine PS.imp (try_all (tb := fun W => tS X.K Ga none W sb) hs hf hN tk hb h1) fun D sg H ⟨ph, h, r, s, x⟩ => ⟨ph, h, r, s, ?_⟩
  unfold sTry at x
  cases e : sb r h with
  | ok f r1 h1 => rw [e] at x; cases f <;> exact x
  | bad => rw [e] at x; exact x.elim
  | exc c d r1 h1 =>
    rw [e] at x
    intro ph2 sg2 H2 g S dw
    simp only [] at x
    by_cases c1 : r1.length = len
    · rw [if_pos c1] at x
      exact h2 D c d ph2 h1 r1 sg2 H2 (c1.trans hl.symm) S dw (rdS.base g x)
    · rw [if_neg c1] at x
      exact x.elim
/-- err.f, err the exception that the suite holds -/
theorem e_xf {q i : Nat} {f en : Str} {av : Addr} {oe : Obj} {cls : Value} {d : Option Addr} {dn : Option Nat} {pn : List (Addr × Obj)} {p : Pos} (T : XfC X.K (Ga q)) (hno : PySem.W.findIn X.K (.ref (Ga q)) f = some none) (hz : Zc cls d oe) (hf : ∃ vs, oe.data = .fields vs) (hc : cls = .ref (Ga q))
    (hN : X.N[i]? = some en) (hv : Vis X.env.scope en) (hd : (en == ("__debug__" : Str)) = false := by decide) (hcd : (en == ("__classdict__" : Str)) = false := by decide)
    (hb : attributeBase (.Name en p) f X.env (eval (.Name en p) X.env) = eval (.Name en p) X.env := by rfl) :
    PE (X.suite av ((av, oe) :: pn)) (.Attribute (.Name en p) f pos) (tE X.K Ga (some ⟨i, av, d, dn⟩) Wd (eXf dn f)) := by
  refine PE.imp (pe_xf T hno hz hf (pe_var (X := X.suite av ((av, oe) :: pn)) hN hv hd hcd) hb) fun sg H Q ⟨ph, h, r, s, x⟩ => ?_
  obtain ⟨p1, p2, p3⟩ := s.pin _ rfl
  refine ⟨_, p1, rfl, hc, ?_⟩
  unfold eXf at x
  cases dn with
  | none => exact x.elim
  | some n =>
    simp only [] at x
    cases e1 : h[n]? with
    | none => rw [e1] at x; exact x.elim
    | some cl =>
      rw [e1] at x
      cases cl with
      | xd fs =>
        simp only [] at x
        obtain ⟨z1, z2⟩ := s.hr.cells n _ e1
        cases e2 : fs.lookup f with
        | none => rw [e2] at x; exact x.elim
        | some w =>
          rw [e2] at x
          have hw : wf h.length w := by
            have : ∀ {fs : List (Str × Mini.W)}, fs.lookup f = some w → ∃ p ∈ fs, p.2 = w := by
              intro fs
              induction fs with
              | nil => intro e; cases e
              | cons y ys ih =>
                intro e
                obtain ⟨k, v⟩ := y
                rw [List.lookup_cons] at e
                cases c : f == k with
                | true => rw [c] at e; cases e; exact ⟨_, List.mem_cons_self, rfl⟩
                | false => rw [c] at e; obtain ⟨p, hp, q⟩ := ih e; exact ⟨p, List.mem_cons_of_mem _ hp, q⟩
            obtain ⟨p, hp, rfl⟩ := this e2
            exact z2 p hp
          have lk : (fsV ph fs).lookup f = some (vW ph w) := by
            have : ∀ {fs : List (Str × Mini.W)}, (fsV ph fs).lookup f = (fs.lookup f).map (vW ph) := by
              intro fs
              induction fs with
              | nil => rfl
              | cons y ys ih =>
                obtain ⟨k, v⟩ := y
                show ((k, vW ph v) :: fsV ph ys).lookup f = _
                rw [List.lookup_cons, List.lookup_cons]
                cases c : f == k with
                | true => rfl
                | false => exact ih
            rw [this, e2] <;> rfl
          exact ⟨ph n, _, _, p2, z1, lk, rd_ok x s.hr hw⟩
      | _ => exact x.elim
/-! ### raise -/
/-- what __init__ of an error's class does: it keeps its argument under f -/
def spI (f : Str) (C : Addr) : Sp := fun vs H Q _ => ∃ (a : Addr) (v : V), vs = [.ref a, v] ∧ H a = some (exo a C none) ∧ ∀ dx, H dx = none → dx ≠ a → Q .non (upd (upd H dx (exd dx [(f, v)])) a (exo a C (some dx)))
theorem upd_del {H : Hp} {a d : Addr} {o1 o2 o3 o4 : HO} (ha : H a = none) (hd : d ≠ a) : upd (del (upd (upd (upd H a o1) d o2) a o3) a) d o4 = upd H d o4 := by
  funext b
  unfold upd del
  by_cases c : b = d
  · rw [if_pos c, if_pos c]
  · rw [if_neg c, if_neg c]
    by_cases c2 : b = a
    · rw [if_pos c2, c2, ha]
    · rw [if_neg c2]
      show (if b = a then some o3 else if b = d then some o2 else if b = a then some o1 else H b) = H b
      rw [if_neg c2, if_neg c, if_neg c2]
/-- an error's class -/
structure ErrC (K : PySem.W.Frag) (mg : Str → Option Value) (P : Program) (w : World) (base : Heap) (x f : Str) (C : Addr) : Prop where
  g : mg x = some (.ref C)
  o : OexC K C
  init : ∃ (fI : Addr) (fd : FuncData) (ps : List Str), PySem.W.findIn K (.ref C) "__init__" = some (some (.ref fI)) ∧ PySem.W.typeIn K (.ref fI) = some (.type "function") ∧ FnOk P w K mg base CX0 1 fI fd ps (spI f C) ∧ Binds K fd ps []
theorem s_raise {x f : Str} {ci : Nat} {p pos2 : Pos} (hc : X.calm = true) (tk : Takes X Wd) (T : ErrC X.K X.mg X.prog X.w X.base x f (Ga ci)) (hr : Room 2 X.A) (hg : Gl X x) (he : PE X e (tE X.K Ga pin Wd m)) (hdb : (x == ("__debug__" : Str)) = false := by decide)
    (hst : starEach (e :: []) X.env = (false, eval e X.env) :: starEach [] X.env := by rfl) (hpl : (backTo pos (starEach [] X.env)).any (·.1) = false := by rfl) :
    PS X (.Raise (some (.Call (.Name x p) [e] [] pos)) none pos2) (tS X.K Ga pin Wd (sRaise ci f m)) := by
  obtain ⟨fI, fd, ps, i1, i2, i3, i4⟩ := T.init
  refine PS.imp (ps_raise hc tk (pmk_oex T.o i1 i2 i3 hr i4 .nil (fun _ _ _ _ _ _ _ z => z.elim) hg T.g (pa_cons he pa_nil hst) hdb hst hpl)) fun D sg H ⟨ph, h, r, s, x⟩ => ⟨ph, h, r, s, ?_⟩
  refine st_of (k := fun w h1 => .exc ci (some h1.length) r (h1 ++ [.xd [(f, w)]])) (D := D) s ?_ fun w h1 ph1 H1 b g S rl x1 => ?_
  · unfold sRaise at x
    cases e : m r h <;> (rw [e] at x; exact x)
  · refine ⟨by show 1 ≤ 1000; decide, fun a ha => ⟨a, b, rfl, upd_same, fun dx hdx ne => ⟨rfl, dx, [(f, b)], upd_same, ?_, ?_, ?_⟩⟩⟩
    · rw [upd_ne ne, upd_same]
    · rw [upd_ne ne] at hdx; exact hdx
    · rw [upd_del ha ne]
      have hdx' : H1 dx = none := by rw [upd_ne ne] at hdx; exact hdx
      have wfu : ∀ p ∈ [(f, w)], wf (h1.length + 1) p.2 := fun p hp => by
        rw [List.mem_singleton.mp hp]
        exact rl.2.mono (Nat.le_succ _)
      have R2 : HR X.K Ga (ext ph1 h1.length dx) (h1 ++ [.xd [(f, w)]]) (upd H1 dx (.xd [(f, b)])) := S.hr.push hdx' ⟨by
        rw [show fsV (ext ph1 h1.length dx) [(f, w)] = [(f, b)] by show [(f, vW (ext ph1 h1.length dx) w)] = _; rw [(Grow.ext (c := Cell.lst [])).v rl.2, rl.1]]
        exact upd_same, wfu⟩
      have q := x1 _ sg _ Grow.ext (S.grow Grow.ext R2) (fun k e => by cases e; rw [List.length_append]; exact Nat.lt_succ_self _)
      rw [show (some h1.length).map (ext ph1 h1.length dx) = some dx from congrArg some ext_at] at q
      exact q
/-! ### repr -/
theorem fx_repr {K : PySem.W.Frag} : True := trivial
end
end Br
set_option Elab.async false
set_option autoImplicit false
set_option linter.all false
set_option maxRecDepth 100000
set_option maxHeartbeats 1100000
namespace Br
open PySem PySem.Spec PyProof.Rows L2 Mini
/-! ### repr -/
section
variable {K : PySem.W.Frag} {H : Hp}
mutual
theorem dp_nodict : ∀ {d : PyData} {v : V}, Dp K H v d → d.hasDict = false
  | .none, _, _ => by simp only [PyData.hasDict]
  | .bool _, _, _ => by simp only [PyData.hasDict]
  | .int _, _, _ => by simp only [PyData.hasDict]
  | .str _, _, _ => by simp only [PyData.hasDict]
  | .list xs, _, h => by
    cases h with
    | lst _ q => simp only [PyData.hasDict]; exact dps_nodict q
  | .tuple xs, _, h => by
    cases h with
    | tup _ q => simp only [PyData.hasDict]; exact dps_nodict q
  | .dict _, _, h => nomatch h
theorem dps_nodict : ∀ {ds : List PyData} {vs : List V}, DpAll K H vs ds → PyData.hasDictAll ds = false
  | [], _, _ => by simp only [PyData.hasDictAll]
  | d :: ds, _, .cons h r => by simp only [PyData.hasDictAll, dp_nodict h, dps_nodict r, Bool.or_self]
end
end
def SclV : V → PyData → Prop
  | .non, d => d = .none
  | .bl b, d => d = .bool b
  | .int i, d => d = .int i
  | .str s, d => d = .str s
  | _, _ => False
theorem scl_reads {h : Heap} {v : V} {u : Value} {d : PyData} (s : SclV v d) (r : RelV v u) : Reads h u d [] := by
  cases v with
  | non => cases s; cases r; exact .none
  | bl b => cases s; cases r; exact .bool b
  | int i => cases s; obtain ⟨t, rfl⟩ := r; exact .int i t
  | str x => cases s; obtain ⟨t, rfl⟩ := r; exact .str x t
  | _ => exact s.elim
inductive KvD : List (Key × V) → List (PyData × PyData) → Prop
  | nil : KvD [] []
  | cons {k : Key} {v : V} {d : PyData} {kvs : List (Key × V)} {D : List (PyData × PyData)} : SclV v d → KvD kvs D → KvD ((k, v) :: kvs) ((keyData k, d) :: D)
theorem kvd_reads {h : Heap} {kvs : List (Key × V)} {D : List (PyData × PyData)} (q : KvD kvs D) : ∀ {vs : List (Key × Value)}, KV kvs vs → PyProof.V.PairsRead h keyData vs D [] := by
  induction q with
  | nil => intro vs r; cases r; exact .nil
  | @cons k v d kvs D s q ih =>
    intro vs r
    cases r with
    | @cons _ y _ ys r1 r2 =>
      obtain ⟨k', u⟩ := y
      obtain ⟨e, rv⟩ := r1
      have e' : k = k' := e
      subst e'
      exact .cons (as := []) (scl_reads s rv) (ih r2)
/-- what repr tells of a value -/
def DpR (K : PySem.W.Frag) (H : Hp) (x : V) (d : PyData) : Prop := Dp K H x d ∨ ∃ a kvs D, x = .ref a ∧ H a = some (.dK kvs) ∧ d = .dict D ∧ KvD kvs D
def rRep (K : PySem.W.Frag) : List V → Hp → VK → Prop := fun xs H Q => ∃ x d, xs = [x] ∧ DpR K H x d ∧ d.showable = true ∧ d.depth ≤ 64 ∧ d.shown.length ≤ sizeLine ∧ Q (.str d.shown) H
section
variable {X : Cx}
theorem call_rep (hg : X.A.guards = some []) (hu : X.A.units + 70 < cLine) : CallR X (.builtin "repr") (rRep X.K) := by
  intro pins s sg H xs us Q I rs q
  obtain ⟨x, d, rfl, dp, hs, hd, hz, q⟩ := q
  obtain ⟨u, rfl, ru⟩ := vals1 rs
  have fin : ∀ h' t tk, (∀ b o, s.heap.get? b = some o → h'.get? b = some o) → EP X pins sg Q (.str d.shown t) { s with heap := h', toks := tk } := fun h' t tk k => ⟨.str d.shown, H, I.kept k, ⟨t, rfl⟩, q⟩
  have big : ∀ {a : Addr} {as : List Addr}, Reads s.heap (.ref a) d as → (d.hasDict = true → sysModules ∉ as) → wpAny (model X.prog X.w) X.A (call (.builtin "repr") [.ref a]) (EP X pins sg Q) X.xe s := fun r n =>
    repr_of_reads' r hs n hg (by omega) (fun b o e => e) fin hz
  rcases dp with dp | ⟨a, kvs, D, rfl, ha, rfl, kd⟩
  · obtain ⟨as, rd⟩ := Dp.reads I d x u dp ru
    have nd := dp_nodict dp
    cases dp with
    | non =>
      cases ru
      exact P.repr_of_none (fin s.heap _ _ fun _ _ e => e)
    | bl b =>
      cases ru
      exact P.repr_of_bool (fin s.heap _ _ fun _ _ e => e)
    | int i =>
      obtain ⟨t, rfl⟩ := ru
      exact P.repr_of_int (by simpa [PyData.showable] using hs) (fin s.heap _ _ fun _ _ e => e)
    | str z =>
      obtain ⟨t, rfl⟩ := ru
      exact P.repr_of_str (fin s.heap _ _ fun _ _ e => e) hz
    | lst h1 h2 =>
      cases ru
      exact big rd (PyData.noDict_hsm nd)
    | tup h1 h2 =>
      cases ru
      exact big rd (PyData.noDict_hsm nd)
  · cases ru
    obtain ⟨_, hd2, vs, rel, dd⟩ := dk_of I.hok ha
    have rd : Reads s.heap (.ref a) (.dict D) (a :: []) := PyProof.V.reads_dictOf (enc := keyData) (knd := mixKind X.prog X.w) (fun k key e => by
      rcases keyIs_shape (k := k) (v := key) e with ⟨i, t, rfl, rfl⟩ | ⟨z, t, rfl, rfl⟩
      · exact .int i t
      · exact .str z t) dd (kvd_reads kd rel)
    refine big rd fun _ hm => ?_
    rw [List.mem_singleton] at hm
    rw [hm] at hd2
    simp at hd2
end
section
variable {X : Cx} {Ga : Nat → Addr} {pin : Pin} {Wd : WX} {ph : Nat → Addr} {h : MH} {r : Mini.Env} {sg : L2.St} {H : Hp} {a b c e : Expr} {es rest : List Expr} {kws : List Keyword} {pos : Pos} {m : Mini.E} {ms mk : Mini.A} {body : List Stmt} {sb : Mini.S}
theorem sclData_ok {w : Mini.W} {d : PyData} (e : sclData w = some d) : SclV (vW ph w) d := by
  cases w <;> first | (cases e; rfl) | (cases e; done)
theorem kvData_ok : ∀ {kvs : List (Sum Int Str × Mini.W)} {D : List (PyData × PyData)}, kvData kvs = some D → KvD (kvV ph kvs) D
  | [], D, e => by cases e; exact .nil
  | p :: r, D, e => by
    simp only [kvData] at e
    cases e1 : sclData p.2 with
    | none => rw [e1] at e; cases e
    | some d =>
      cases e2 : kvData r with
      | none => rw [e1, e2] at e; cases e
      | some ds => rw [e1, e2] at e; cases e; exact .cons (sclData_ok e1) (kvData_ok e2)
theorem f_repr : FnS X Ga fRepr (rRep X.K) := by
  intro Wd ph h H sg xs Q R wx q
  match xs, q with
  | [w], q =>
    simp only [fRepr] at q
    cases e : dataR h w with
    | none => rw [e] at q; exact q.elim
    | some d =>
      rw [e] at q
      simp only [] at q
      by_cases c : d.showable = true ∧ d.depth ≤ 64 ∧ d.shown.length ≤ 10000000
      · rw [if_pos c] at q
        refine ⟨vW ph w, d, rfl, ?_, c.1, c.2.1, m_line c.2.2, rd_ok (w := .str d.shown) q R trivial⟩
        unfold dataR at e
        cases e1 : dicAt h w with
        | none =>
          rw [e1] at e
          exact .inl (dataOf_ok R _ _ _ (wx w List.mem_cons_self) e)
        | some kvs =>
          rw [e1] at e
          simp only [] at e
          cases e2 : kvData kvs with
          | none => rw [e2] at e; cases e
          | some D =>
            rw [e2] at e
            cases e
            cases w with
            | ref n =>
              simp only [dicAt] at e1
              cases e3 : h[n]? with
              | none => rw [e3] at e1; cases e1
              | some cl =>
                rw [e3] at e1
                cases cl with
                | dic kvs2 => cases e1; exact .inr ⟨ph n, _, D, rfl, (R.cells n _ e3).1, rfl, kvData_ok e2⟩
                | _ => cases e1
            | _ => cases e1
      · rw [if_neg c] at q
        exact q.elim
theorem e_repr {p : Pos} (hgu : X.A.guards = some []) (hu : X.A.units + 70 < cLine) (hgl : Gl X "repr") (hm : X.mg "repr" = none) (ha : PE X a (tE X.K Ga pin Wd m)) (he : starEach (a :: []) X.env = (false, eval a X.env) :: starEach [] X.env := by rfl) (hpl : (backTo pos (starEach [] X.env)).any (·.1) = false := by rfl) :
    PE X (.Call (.Name "repr" p) [a] [] pos) (tE X.K Ga pin Wd (eFn fRepr (aCons m aNil))) :=
  e_fnB (call_rep hgu hu) f_repr hgl hm (by decide +kernel) (a_cons ha a_nil he) (by decide) (by decide) he hpl
/-! ### defs -/
structure RoomG (k : Nat) (A : Around) : Prop where
  room : Room k A
  g : A.guards = some []
theorem RoomG.deeper {k : Nat} {A : Around} (q : RoomG (k + 1) A) (env : PySem.Env) : RoomG k (A.deeper env) := ⟨q.room.deeper env, q.g⟩
theorem RoomG.mono {j k : Nat} {A : Around} (q : RoomG k A) (l : j ≤ k) : RoomG j A := ⟨q.room.mono l, q.g⟩
/-- the promise of a def that Mini's function m tells -/
def spM (K : PySem.W.Frag) (Ga : Nat → Addr) (m : Mini.F) : Sp := fun vs H Q E => ∃ ph h ws, HR K Ga ph h H ∧ vs = ws.map (vW ph) ∧ (∀ w ∈ ws, wf h.length w) ∧ rd K Ga (fun c d _ H => E c d H) relW ph h [] (m ws h) Q
structure FnM (P : Program) (w : World) (K : PySem.W.Frag) (mg : Str → Option Value) (base : Heap) (Ga : Nat → Addr) (k : Nat) (f : Addr) (fd : FuncData) (ps : List Str) (m : Mini.F) : Prop where
  len : ∀ ws h, ws.length ≠ ps.length → m ws h = .bad
  run : ∀ (A : Around) (outer : List PySem.Env) (s : Shared) (H : Hp) (args : Args) (us : List Value) (vs : List V) (Q : VK) (E : XK), RoomG k A → Env0 P w K mg base A outer s H → BindsTo s fd args (ps.zip us) → Vals vs us → spM K Ga m vs H Q E →
    codeAny (model P w) A (.call (.ref f) args) (CR (L2.CX P w) outer P w H s Q E) s
theorem FnM.mono {P : Program} {w : World} {K : PySem.W.Frag} {mg : Str → Option Value} {base : Heap} {j k : Nat} {f : Addr} {fd : FuncData} {ps : List Str} {m : Mini.F} (F : FnM P w K mg base Ga j f fd ps m) (l : j ≤ k) : FnM P w K mg base Ga k f fd ps m :=
  ⟨F.len, fun A outer s H args us vs Q E hr => F.run A outer s H args us vs Q E (hr.mono l)⟩
theorem fnOf_len {n p : Nat} {b : Mini.S} {ws : List Mini.W} {h : MH} (c : ws.length ≠ p) : fnOf n p b ws h = .bad := by
  unfold fnOf
  rw [if_neg c]
theorem sr_start {K : PySem.W.Frag} {ws : List Mini.W} {N : List Str} (R : HR K Ga ph h H) (hw : ∀ w ∈ ws, wf h.length w) : SR K Ga none ph h (begin_ N.length ws) (L2.start N (ws.map (vW ph))) H := by
  refine ⟨R, ?_, fun i w e => ?_, fun _ e => nomatch e⟩
  · unfold begin_ L2.start
    simp only [List.length_append, List.length_map, List.length_replicate]
  · unfold begin_ at e
    unfold L2.start
    by_cases c : i < (ws.map some).length
    · rw [List.getElem?_append_left c, List.getElem?_map] at e
      rw [List.getElem?_append_left (by rw [List.length_map, List.length_map]; rw [List.length_map] at c; exact c), List.getElem?_map, List.getElem?_map]
      cases e1 : ws[i]? with
      | none => rw [e1] at e; cases e
      | some u =>
        rw [e1] at e
        cases e
        exact ⟨rfl, hw _ (List.mem_of_getElem? e1)⟩
    · rw [List.getElem?_append_right (by omega)] at e
      have := List.mem_replicate.mp (List.mem_of_getElem? e)
      exact nomatch this.2
/-- THE RULE for a def: its body does what Mini's statement does -/
theorem fnm_of {P : Program} {w : World} {K : PySem.W.Frag} {mg : Str → Option Value} {base : Heap} {k : Nat} {f : Addr} {name qual : Str} {params : Arguments} {bd : List Stmt} {scope : Scope} {dV kV doc pm cdv ct oc : Value} {an od : Option Addr} {osl : Array (Option Value)} {N ps : List Str}
    (lk : K.lookup f = some ⟨oc, od, .func (PySem.W.fnOf name qual params bd scope dV kV doc pm an cdv ct), osl⟩) (hcd : PySem.W.codeIn K cdv qual = true) (S : FnScope N ps scope)
    (hbody : ∀ (A : Around) (outer : List PySem.Env) (s : Shared) (H : Hp) (E : XK), RoomG k (A.deeper (envOfC qual scope s.heap.objs.size f cdv)) →
      PSs (cxOf (L2.CX P w) P w K mg base N qual scope f cdv A outer s H E) bd (tS K Ga none (fun c d _ H => E c d H) sb)) :
    FnM P w K mg base Ga (k + 1) f (PySem.W.fnOf name qual params bd scope dV kV doc pm an cdv ct) ps (fnOf N.length ps.length sb) := by
  refine ⟨fun ws h c => fnOf_len c, fun A outer s H args us vs Q E hr e0 hb rv hsp => ?_⟩
  obtain ⟨ph, h, ws, R, rfl, hw, x⟩ := hsp
  have hl : ws.length = ps.length := by
    by_cases c : ws.length = ps.length
    · exact c
    · rw [fnOf_len c] at x; exact x.elim
  have hl2 : (ws.map (vW ph)).length = ps.length := by rw [List.length_map]; exact hl
  have KX : K.In s.heap := e0.mod.kin.keeps (fun b o e => (e0.bs b o e).1)
  have lim : s.heap.NoLimit := e0.mod.nolimit.keeps (fun b o e => (e0.bs b o e).1)
  refine codeAny_call_function hr.room.depth (KX _ _ lk) rfl S.co S.gen rfl (PySem.W.codeRec_of KX hcd) (hb _ _ _ _ ?_)
  refine wpAny_newFunctionEnv_cells S.kind (fun ⟨n, v⟩ hy => ?_) fun env he s1 z => ?_
  · rcases S.par n (List.of_mem_zip hy).1 with q | q
    · exact .inl q
    · exact Or.inr ⟨q, PySem.W.cellsFrom_some _ _ _ (.inl q)⟩
  subst he
  refine ⟨lim.keeps z.toInCall.keep, codeAny_func ?_⟩
  have I : Inv (cxOf (L2.CX P w) P w K mg base N qual scope f cdv A outer s H E) [] (L2.start N (ws.map (vW ph))) H s1 := inv_start S hr.room.hd e0 hl2 rv z
  have body := hbody A outer s H E (hr.deeper _)
  have want : tS K Ga none (fun c d _ H => E c d H) sb { nx := fun _ H' => Q .non H', rt := Q } (L2.start N (ws.map (vW ph))) H := by
    refine ⟨ph, h, begin_ N.length ws, sr_start R hw, ?_⟩
    unfold fnOf at x
    rw [if_pos hl] at x
    cases e : sb (begin_ N.length ws) h with
    | ok fl r1 h1 =>
      rw [e] at x
      cases fl with
      | nx => exact fun ph' sg' H' g S' => x ph' H' .non g S'.hr ⟨rfl, trivial⟩
      | rt u => exact fun ph' H' g R' wu => x ph' H' _ g R' ⟨rfl, wu⟩
      | bk => exact x.elim
      | ct => exact x.elim
    | exc c d r1 h1 =>
      rw [e] at x
      exact fun ph' sg' H' g S' hd => x ph' H' g S'.hr hd
    | bad => rw [e] at x; exact x.elim
  refine wpAny_mono (body.run [] s1 _ H _ I want) (fun fl s' q => ?_) fun e s' q => q
  have fin : ∀ {sg' : L2.St} {H' : Hp} {v : V} {u : Value}, Inv (cxOf (L2.CX P w) P w K mg base N qual scope f cdv A outer s H E) [] sg' H' s' → RelV v u → Q v H' → CE outer P w H s Q u s' :=
    fun {sg' H' v u} J rv q => ⟨v, H', J.os, J.bare, J.base, J.hok, rv, q⟩
  cases fl with
  | ret u => obtain ⟨v, sg', H', J, rv, q⟩ := q; exact fin J rv q
  | next => obtain ⟨sg', H', J, q⟩ := q; exact fin (v := .non) (u := .none) J rfl q
  | brk => obtain ⟨_, _, _, q⟩ := q; exact q.elim
  | cont => obtain ⟨_, _, _, q⟩ := q; exact q.elim
/-! ### calls -/
theorem run_m {k : Nat} {f : Addr} {fd : FuncData} {ps : List Str} {mf : Mini.F} {pins : List (Addr × Obj)} {s : Shared} {Q : VK} {us : List Value} {args : Args} {ws : List Mini.W} (F : FnM X.prog X.w X.K X.mg X.base Ga k f fd ps mf) (hr : RoomG k X.A) (tk : Takes X Wd)
    (hb : ws.length = ps.length → BindsTo s fd args (ps.zip us)) (I : Inv X pins sg H s) (R : HR X.K Ga ph h H) (hw : ∀ w ∈ ws, wf h.length w) (rv : Vals (ws.map (vW ph)) us) (x : rd X.K Ga Wd relW ph h sg (mf ws h) Q) :
    codeAny (model X.prog X.w) X.A (.call (.ref f) args) (fun rr s' => match rr with | .ok (.ret u) => EP X pins sg Q u s' | .ok _ => False | .error e => X.xe e s') s := by
  have hl : ws.length = ps.length := by
    by_cases c : ws.length = ps.length
    · exact c
    · rw [F.len ws h c] at x; exact x.elim
  have x2 : rd X.K Ga (fun c d _ H => Wd c d sg H) relW ph h [] (mf ws h) Q := by
    revert x
    generalize mf ws h = qq
    intro x
    cases qq with
    | ok a h' => exact x
    | exc c d h' => exact x
    | bad => exact x
  refine codeAny_mono (F.run X.A X.stack s H args us _ Q (fun c d H => Wd c d sg H) hr I.env0 (hb hl) rv ⟨ph, h, ws, R, rfl, hw, x2⟩) fun rr s' q => ?_
  cases rr with
  | error e => exact passAt tk sg pins H s e s' I q
  | ok fl => cases fl with
    | ret u => exact I.after q
    | next => exact False.elim q
    | brk => exact False.elim q
    | cont => exact False.elim q
theorem e_call {x : Str} {p : Pos} {k : Nat} {f : Addr} {fd : FuncData} {ps : List Str} {mf : Mini.F} (F : FnM X.prog X.w X.K X.mg X.base Ga k f fd ps mf) (hr : RoomG k X.A) (hg : Gl X x) (hm : X.mg x = some (.ref f)) (hk : PySem.W.keepIn X.K (.ref f) = true) (hb : Binds X.K fd ps []) (tk : Takes X Wd)
    (ha : PA X (e :: es) (tA X.K Ga pin Wd ms)) (hdb : (x == ("__debug__" : Str)) = false := by decide) (he : starEach (e :: es) X.env = (false, eval e X.env) :: starEach es X.env := by rfl) (hpl : (backTo pos (starEach es X.env)).any (·.1) = false := by rfl) :
    PE X (.Call (.Name x p) (e :: es) [] pos) (tE X.K Ga pin Wd (Mini.eCall mf ms)) := by
  refine ⟨fun pins s sg H Q I ⟨ph, h, r, S, x⟩ => ?_⟩
  refine wpAny_Call_Name_kw (ld_glob I hg hm (?_ : _) hdb)
  have y : tA X.K Ga pin Wd ms sg H (fun vs H1 => ∃ ph1 h1 ws, HR X.K Ga ph1 h1 H1 ∧ vs = ws.map (vW ph1) ∧ (∀ w ∈ ws, wf h1.length w) ∧ rd X.K Ga Wd relW ph1 h1 sg (mf ws h1) Q) :=
    ⟨ph, h, r, S, x.bind fun ws h1 _ ph1 H1 b1 g1 R1 ⟨eb1, w1⟩ x1 => ⟨ph1, h1, ws, R1, eb1, w1, x1⟩⟩
  refine PySem.W.callWith_K (h₀ := X.base) I.ok.mod.kin hk (thn (ha.run pos pins s sg H _ I y) fun us s1 ⟨vs, H1, I1, rv, ph1, h1, ws, R1, ev, w1, x1⟩ => ⟨I1.kIn, ?_⟩) he hpl
  subst ev
  refine wpAny_call (codeAny_mono (run_m F hr tk (fun hl => ?_) I1 R1 w1 rv x1) fun rr s' q => ?_)
  · have b := hb s1 us I1.kIn (by rw [List.append_nil, ← rv.length, List.length_map]; exact hl)
    rw [List.append_nil] at b
    exact b
  · cases rr with
    | error e => exact q
    | ok fl => cases fl <;> first | exact q | exact q.elim
theorem e_call0 {x : Str} {p : Pos} {k : Nat} {f : Addr} {fd : FuncData} {ps : List Str} {mf : Mini.F} (F : FnM X.prog X.w X.K X.mg X.base Ga k f fd ps mf) (hr : RoomG k X.A) (hg : Gl X x) (hm : X.mg x = some (.ref f)) (hk : PySem.W.keepIn X.K (.ref f) = true) (hb : Binds X.K fd ps []) (tk : Takes X Wd)
    (hdb : (x == ("__debug__" : Str)) = false := by decide) : PE X (.Call (.Name x p) [] [] pos) (tE X.K Ga pin Wd (Mini.eCall mf aNil)) := by
  refine ⟨fun pins s sg H Q I ⟨ph, h, r, S, x⟩ => ?_⟩
  refine wpAny_Call_Name_kw (ld_glob I hg hm (?_ : _) hdb)
  refine PySem.W.callWith_KW0 (h₀ := X.base) I.ok.mod.kin hk rfl ?_ rfl
  have x2 : rd X.K Ga Wd relW ph h sg (mf [] h) Q := x
  refine thn ((pk_nil (X := X)).run pos pins s sg H (fun zs H1 => zs = [] ∧ H1 = H) I ⟨rfl, rfl⟩) fun us s1 ⟨vs, H1, I1, rv, e1, e2⟩ => ⟨I1.kIn, ?_⟩
  subst e1
  subst e2
  cases rv
  refine wpAny_call (codeAny_mono (run_m (ws := []) (us := []) F hr tk (fun hl => ?_) I1 S.hr (fun _ hx => nomatch hx) .nil x2) fun rr s' q => ?_)
  · have b := hb s1 [] I1.kIn (by rw [List.append_nil]; exact hl)
    rw [List.append_nil] at b
    exact b
  · cases rr with
    | error e => exact q
    | ok fl => cases fl <;> first | exact q | exact q.elim
end
end Br
set_option Elab.async false
set_option autoImplicit false
set_option linter.all false
set_option maxRecDepth 100000
set_option maxHeartbeats 1100000
namespace Br
open PySem PySem.Spec PyProof.Rows L2 Mini
/-! ### the end of a law -/
/-- the cell of the script -/
def Script (ns : List Int) (c : Cell) : Prop := c = .fz (ns.map .int) ∨ c = .cl (ns.map .int)
theorem map_ints {ph : Nat → Addr} {ns : List Int} : (ns.map Mini.W.int).map (vW ph) = ns.map V.int := by rw [List.map_map]; rfl
theorem wf_ints {n : Nat} {ns : List Int} : ∀ x ∈ ns.map Mini.W.int, wf n x := fun x hx => by
  obtain ⟨i, _, rfl⟩ := List.mem_map.mp hx
  trivial
theorem one_cell {K : PySem.W.Frag} {Ga : Nat → Addr} {a : Addr} {c : Cell} {H : Hp} (q : CellAt K Ga (fun _ => a) 1 H a c) : HR K Ga (fun _ => a) [c] H := by
  constructor
  · intro i x e
    cases i with
    | zero => cases e; exact q
    | succ i => simp at e
  · intro i j ci cj ne ei ej _ _
    cases i with
    | zero => cases j with
      | zero => exact absurd rfl ne
      | succ j => simp at ej
    | succ i => simp at ei
theorem law_run {P : Program} {w : World} {K : PySem.W.Frag} {mg mb : Str → Option Value} {Ga : Nat → Addr} {k : Nat} {fa a : Addr} {fd : FuncData} {x : Str} {m : Mini.F} {s1 : Shared} {vs : List Value} {ns : List Int}
    (KX : K.In s1.heap) (hns : s1.heap.Ns mainGlobals mg) (hb : s1.heap.Ns builtinsNs mb) (hbb : ∀ x : Str, x ≠ "__name__" → mb x = bootBuiltins x) (hlim : s1.heap.NoLimit) (hg : s1.gens = #[])
    (ha : s1.heap.get? a = some { cls := .type "list", data := .seq vs.toArray }) (hi : IntsAre vs ns) (hl : ns.length ≤ sizeLine) (hr : RoomG k callerA)
    (F : ∀ base : Heap, K.In base → base.Ns mainGlobals mg → FnM P w K mg base Ga k fa fd [x] m) (hbind : ∀ (s : Shared) (u : Value), BindsTo s fd ⟨[u], []⟩ [(x, u)])
    (hm : ∀ c, Script ns c → ∃ h, m [.ref 0] [c] = .ok (.bl true) h) :
    codeAny (model P w) callerA (.call (.ref fa) ⟨[.ref a], []⟩) (fun r s' => r = .ok (.ret (.bool true)) ∧ OldK s1.heap s'.heap ∧ s'.os = s1.os ∧ AllBare s'.gens) s1 := by
  have rv := vals_ints hi
  have lenV := hi.length
  have core : ∀ (H : Hp) (c : Cell), Only H → Script ns c → CellAt K Ga (fun _ => a) 1 H a c → HOk P w H s1.heap → (∀ b, H b ≠ none → b = a) → (H a ≠ none → K.lookup a = none) →
      codeAny (model P w) callerA (.call (.ref fa) ⟨[.ref a], []⟩) (fun r s' => r = .ok (.ret (.bool true)) ∧ OldK s1.heap s'.heap ∧ s'.os = s1.os ∧ AllBare s'.gens) s1 := by
    intro H c hO hc hcell hok only free
    have none_at : ∀ {b : Addr} {o : Obj}, s1.heap.get? b = some o → (b = a → False) → H b = none := fun {b o} _ ne => by
      cases q : H b with
      | none => rfl
      | some u => exact (ne (only b (by rw [q]; simp))).elim
    have dict_none : ∀ {b : Addr} {o : Obj} {es : Array DictEntry} {ep : Nat}, s1.heap.get? b = some o → o.data = .dict es ep → H b = none := fun {b o es ep} e d => none_at e fun z => by
      subst z
      rw [ha] at e
      cases e
      exact nomatch (show Data.seq vs.toArray _ = Data.dict es ep from d)
    have ns_of : ∀ {b : Addr} {mm : Str → Option Value}, s1.heap.Ns b mm → (hidT s1.heap H).Ns b mm := fun {b mm} ⟨o, es, ep, e, d, rr⟩ => ⟨o, es, ep, hidT_get e (dict_none e d), d, rr⟩
    have hKb : K.In (hidT s1.heap H) := fun b o e => hidT_get (KX b o e) (by
      cases q : H b with
      | none => rfl
      | some u =>
        have z := only b (by rw [q]; simp)
        subst z
        rw [free (by rw [q]; simp)] at e
        cases e)
    obtain ⟨mc, l1, l2⟩ := hlim
    have hM : Mod K mg (hidT s1.heap H) := ⟨hKb, ns_of hns, ⟨mb, ns_of hb, hbb⟩, ⟨mc, ns_of l1, l2⟩⟩
    have e0 : Env0 P w K mg (hidT s1.heap H) callerA [] s1 H := ⟨rfl, hM, fun b o e => of_hidT e, Nat.le_of_eq (hidT_size _ _), trivial, fun b hb => (nomatch (show b ∈ ([] : List Addr) from hb)), hok, .of_eq hg⟩
    obtain ⟨hh, hrun⟩ := hm c hc
    have want : spM K Ga m [.ref a] H (fun v _ => v = .bl true) (fun _ _ _ => False) := by
      refine ⟨fun _ => a, [c], [.ref 0], one_cell hcell, rfl, fun y hy => by rw [List.mem_singleton.mp hy]; exact Nat.lt_succ_self 0, ?_⟩
      rw [hrun]
      exact fun _ _ b _ _ rl => rl.1
    refine codeAny_mono ((F _ hKb (ns_of hns)).run callerA [] s1 H ⟨[.ref a], []⟩ [.ref a] [.ref a] _ _ hr e0 (hbind s1 (.ref a)) (.cons rfl .nil) want) fun rr s' q => ?_
    cases rr with
    | error e =>
      obtain ⟨_, _, _, _, _, _, _, _, _, _, _, _, z⟩ := (show L2.CX P w [] H s1 (fun _ _ _ => False) e s' from q)
      exact z.elim
    | ok fl =>
      cases fl with
      | ret u =>
        obtain ⟨v, H', os, bare, un, hok2, r2, q2⟩ := q
        have q3 : v = .bl true := q2
        subst q3
        obtain rfl : u = Value.bool true := r2
        refine ⟨rfl, OldK.of_keep (fun b o e => ?_), os, bare⟩
        rcases (hO b) with z | ⟨ob, xs, z⟩
        · exact un.keep b o e z (fun y => nomatch (show b ∈ ([] : List Addr) from y)) (by simp)
        · obtain ⟨e1, _⟩ := hok b _ z
          obtain ⟨e2, _⟩ := hok2 b _ (un.frzs b ob _ z)
          rw [e] at e1
          cases e1
          exact e2
      | next => exact False.elim q
      | brk => exact False.elim q
      | cont => exact False.elim q
  cases hk : K.lookup a with
  | some o =>
    have e := KX a o hk
    rw [ha] at e
    cases e
    exact core (fun _ => none) (.cl (ns.map .int)) (fun _ => .inl rfl) (.inr rfl) ⟨⟨_, vs.toArray, _, hk, rfl, rfl, rfl, by rw [List.size_toArray, lenV]; exact hl, by rw [map_ints]; simpa using rv⟩, wf_ints⟩
      (fun b u z => nomatch (show (none : Option HO) = some u from z)) (fun b z => absurd rfl z) fun z => absurd rfl z
  | none =>
    refine core (fun b => if b = a then some (.frz { cls := .type "list", data := .seq vs.toArray } (.lst (ns.map V.int))) else none) (.fz (ns.map .int)) (fun b => ?_) (.inl rfl) ⟨⟨{ cls := .type "list", data := .seq vs.toArray }, by rw [map_ints]; exact if_pos rfl⟩, wf_ints⟩ (fun b u z => ?_) (fun b z => ?_) fun _ => hk
    · by_cases hb : b = a
      · exact Or.inr ⟨_, _, if_pos hb⟩
      · exact .inl (if_neg hb)
    · by_cases hb : b = a
      · have z2 := (if_pos hb).symm.trans z
        cases z2
        subst hb
        exact ⟨ha, (by rw [List.length_map]; exact hl), vs, _, rv, ha⟩
      · exact nomatch (if_neg hb).symm.trans z
    · by_cases hb : b = a
      · exact hb
      · exact absurd (if_neg hb) z
theorem roomG_caller {k : Nat} (h : k ≤ 100) : RoomG k callerA :=
  ⟨(show Room 100 callerA from ⟨rfl, by decide, by decide⟩).mono h, rfl⟩
theorem walk_m {l : PySem.W.OpenLaw} {n k : Nat} {q : Program} {loose : List Str} {XP : (Str → Option Value) → Heap → Prop} {YP : World → Heap → Prop} {d : DefRec} {K : Params → PySem.W.Frag} {m : Mini.F} {x : Str}
    (hn : l.most = some n) (hn2 : n ≤ sizeLine) (hdf : d.params.defaults = []) (hk : k ≤ 100) (hY : ∀ (w : World) (h : Heap), YP w h → (K w.params).In h)
    (F : ∀ (w : World) (mg : Str → Option Value) (fa : Addr) (h : Heap),
      (K w.params).In h → h.Ns mainGlobals mg → mg d.name = some (.ref fa) →
      ∃ (fd : FuncData) (Ga : Nat → Addr), (∀ (s : Shared) (u : Value), BindsTo s fd ⟨[u], []⟩ [(x, u)]) ∧
        ∀ base : Heap, (K w.params).In base → base.Ns mainGlobals mg → FnM l.prog w (K w.params) mg base Ga k fa fd [x] m)
    (hm : ∀ (ns : List Int) (c : Cell), ns.length ≤ n → Script ns c → ∃ h, m [.ref 0] [c] = .ok (.bl true) h) :
    PySem.W.WalkO q loose XP YP l.row.toRowW d []
      (fun f vs => PySem.call f vs) := by
  refine Att.attach_call hn hdf fun w s0 s1 mg mb fa o pm cd doc a vs ns G Y ho hd hcd hmg hobj hints hlen hg => ?_
  have KX := hY w _ Y
  obtain ⟨fd, Ga, hb, hF⟩ := F w mg fa _ KX G.T.g hmg
  exact law_run KX G.T.g G.T.b G.T.builtins G.T.nolimit hg hobj hints (Nat.le_trans hlen hn2) (roomG_caller hk) hF hb fun c hc => hm ns c hlen hc
section
variable {X : Cx} {Ga : Nat → Addr} {pin : Pin} {Wd : WX} {ph : Nat → Addr} {h : MH} {r : Mini.Env} {sg : L2.St} {H : Hp} {a b c e : Expr} {es rest : List Expr} {kws : List Keyword} {pos : Pos} {m : Mini.E} {ms mk : Mini.A} {body : List Stmt} {sb : Mini.S}
/-! ### calls by keywords -/
theorem k_nil : PK X [] (tA X.K Ga pin Wd aNil) := ⟨fun pos pins s sg H Q I ⟨ph, h, r, S, x⟩ => pk_nil.run pos pins s sg H Q I (rd_okA (ws := []) x S.hr (fun _ hx => nomatch hx))⟩
theorem k_cons {nm : Option Str} {kpos : Pos} (ha : PE X e (tE X.K Ga pin Wd m)) (hr : PK X kws (tA X.K Ga pin Wd mk)) : PK X (⟨nm, e, kpos⟩ :: kws) (tA X.K Ga pin Wd (aCons m mk)) := by
  refine ⟨fun pos pins s sg H Q I ⟨ph, h, r, S, x⟩ => (pk_cons ha hr).run pos pins s sg H Q I ?_⟩
  refine ⟨ph, h, r, S, x.bind fun u h1 _ ph1 H1 b1 g1 R1 ⟨eb1, w1⟩ x1 => ?_⟩
  refine ⟨ph1, h1, r, S.grow g1 R1, x1.bind fun us h2 _ ph2 H2 b2 g2 R2 ⟨eb2, w2⟩ x2 => ?_⟩
  rw [eb1, eb2, ← g2.v w1]
  refine rd_okA (ws := u :: us) x2 R2 fun w hw => ?_
  rcases List.mem_cons.mp hw with hw | hw
  · rw [hw]; exact w1.mono g2.le
  · exact w2 w hw
theorem pick_map {α β : Type} (f : α → β) (is : List Nat) (l : List α) : pick is (l.map f) = (pick is l).map f := by
  unfold pick
  induction is with
  | nil => rfl
  | cons i is ih =>
    rw [List.filterMap_cons, List.filterMap_cons, List.getElem?_map]
    cases l[i]? with
    | none => exact ih
    | some x => show f x :: _ = f x :: _; rw [ih]
theorem pick_mem {α : Type} {is : List Nat} {l : List α} {x : α} (h : x ∈ pick is l) : x ∈ l := by
  unfold pick at h
  obtain ⟨i, _, e⟩ := List.mem_filterMap.mp h
  exact List.mem_of_getElem? e
theorem pick_vals {is : List Nat} {xs : List V} {us : List Value} (rv : Vals xs us) : Vals (pick is xs) (pick is us) := by
  unfold pick
  induction is with
  | nil => exact .nil
  | cons i is ih =>
    rw [List.filterMap_cons, List.filterMap_cons]
    cases e : xs[i]? with
    | none => rw [rv.none_of e]; exact ih
    | some x =>
      obtain ⟨u, e2, ru⟩ := rv.get e
      rw [e2]
      exact .cons ru ih
/-- how the arguments of such a call bind -/
def KB (fd : FuncData) (ps : List Str) (n : Nat) (ks : List Str) (is : List Nat) : Prop := ∀ (s : Shared) (us ws : List Value), us.length = n → ws.length = ks.length → BindsTo s fd ⟨us, ks.zip ws⟩ (ps.zip (pick is (us ++ ws)))
/-- f(k = b, ..) -/
theorem e_callK0 {x : Str} {p : Pos} {k n : Nat} {is : List Nat} {f : Addr} {fd : FuncData} {ps ks : List Str} {mf : Mini.F} (F : FnM X.prog X.w X.K X.mg X.base Ga k f fd ps mf) (hr : RoomG k X.A) (hg : Gl X x) (hm : X.mg x = some (.ref f)) (hk : PySem.W.keepIn X.K (.ref f) = true) (hb : KB fd ps 0 ks is) (tk : Takes X Wd)
    (hkw : PK X kws (tA X.K Ga pin Wd mk)) (hn : ks.length = n) (hall : (backToKw pos (keywordEach kws X.env)).all (·.1.isSome) = true := by rfl) (hks : (backToKw pos (keywordEach kws X.env)).filterMap (·.1) = ks := by rfl) (hdb : (x == ("__debug__" : Str)) = false := by decide)
    (hpl : ((backTo pos (starEach [] X.env)).any (·.1) || (backToKw pos (keywordEach kws X.env)).any (·.1.isNone))
      = false := by rfl) :
    PE X (.Call (.Name x p) [] kws pos) (tE X.K Ga pin Wd (Mini.eCallK mf is aNil (aN n mk))) := by
  refine ⟨fun pins s sg H Q I ⟨ph, h, r, S, x⟩ => ?_⟩
  refine wpAny_Call_Name_kw (ld_glob I hg hm (?_ : _) hdb)
  have x0 : rd X.K Ga Wd relW ph h sg ((aN n mk r h).bind fun ys h2 => mf (pick is ([] ++ ys)) h2) Q := x
  have y : tA X.K Ga pin Wd mk sg H (fun vs H1 => ∃ ph1 h1 ws, ws.length = n ∧ HR X.K Ga ph1 h1 H1 ∧ vs = ws.map (vW ph1) ∧ (∀ w ∈ ws, wf h1.length w) ∧ rd X.K Ga Wd relW ph1 h1 sg (mf (pick is ws) h1) Q) := by
    refine ⟨ph, h, r, S, ?_⟩
    unfold aN at x0
    cases e : mk r h with
    | ok ws h1 =>
      rw [e] at x0
      have x1 : rd X.K Ga Wd relW ph h sg ((if ws.length = n then Mini.R.ok ws h1 else .bad).bind fun ys h2 => mf (pick is ([] ++ ys)) h2) Q := x0
      by_cases c : ws.length = n
      · rw [if_pos c] at x1
        intro ph1 H1 b1 g1 R1 rl
        exact ⟨ph1, h1, ws, c, R1, rl.1, rl.2, rd.base g1 x1⟩
      · rw [if_neg c] at x1; exact x1.elim
    | exc cc d h1 => rw [e] at x0; exact x0
    | bad => rw [e] at x0; exact x0.elim
  refine PySem.W.callWith_KW0 (h₀ := X.base) I.ok.mod.kin hk hall ?_ hpl
  refine thn (hkw.run pos pins s sg H _ I y) fun us s1 ⟨vs, H1, I1, rv, ph1, h1, ws, lw, R1, ev, w1, x1⟩ => ⟨I1.kIn, ?_⟩
  rw [hks]
  subst ev
  have rv2 : Vals ((pick is ws).map (vW ph1)) (pick is us) := by rw [← pick_map]; exact pick_vals rv
  refine wpAny_call (codeAny_mono (run_m F hr tk (fun hl => ?_) I1 R1 (fun w hw => w1 w (pick_mem hw)) rv2 x1) fun rr s' q => ?_)
  · exact hb s1 [] us rfl (by rw [hn, ← rv.length, List.length_map]; exact lw)
  · cases rr with
    | error e => exact q
    | ok fl => cases fl <;> first | exact q | exact q.elim
/-- isinstance(x, (T, U)) -/
theorem e_isi2 {x T U : Str} {ty tu : Mini.Ty} {p p2 p3 p4 : Pos} {k4 : Nat} (hx : x = "isinstance") (hgl : Gl X x) (hm : X.mg x = none) (hgl2 : Gl X T) (hm2 : X.mg T = none) (hv2 : bootBuiltins T = some (.type (tyName ty))) (hgl3 : Gl X U) (hm3 : X.mg U = none) (hv3 : bootBuiltins U = some (.type (tyName tu)))
    (ha : PE X a (tE X.K Ga pin Wd m)) (hn2 : T ≠ "__name__" := by decide) (hd2 : (T == ("__debug__" : Str)) = false := by decide) (hn3 : U ≠ "__name__" := by decide) (hd3 : (U == ("__debug__" : Str)) = false := by decide)
    (he : starEach (a :: [.Tuple [.Name T p2, .Name U p3] k4 p4]) X.env = (false, eval a X.env) :: starEach [.Tuple [.Name T p2, .Name U p3] k4 p4] X.env := by rfl)
    (he2 : starEach (.Tuple [.Name T p2, .Name U p3] k4 p4 :: []) X.env = (false, eval (.Tuple [.Name T p2, .Name U p3] k4 p4) X.env) :: starEach [] X.env := by rfl)
    (he3 : starEach (.Name T p2 :: [.Name U p3]) X.env = (false, eval (.Name T p2) X.env) :: starEach [.Name U p3] X.env := by rfl) (he4 : starEach (.Name U p3 :: []) X.env = (false, eval (.Name U p3) X.env) :: starEach [] X.env := by rfl)
    (hpl : (backTo pos (starEach [.Tuple [.Name T p2, .Name U p3] k4 p4] X.env)).any (·.1) = false := by rfl) :
    PE X (.Call (.Name x p) [a, .Tuple [.Name T p2, .Name U p3] k4 p4] [] pos) (tE X.K Ga pin Wd (eUn (gIsi2 ty tu) m)) := by
  subst hx
  have ht : PE X (.Name T p2) (tC (.ty (tyName ty))) := pe_bltn hgl2 hm2 hv2 rfl hn2 hd2
  have hu : PE X (.Name U p3) (tC (.ty (tyName tu))) := pe_bltn hgl3 hm3 hv3 rfl hn3 hd3
  refine PE.imp (pe_callB call_isiT hgl hm (by decide +kernel) (pa_cons ha (pa_cons (pe_tup (pa_cons ht (pa_cons hu pa_nil he4) he3)) pa_nil he2) he) (by decide) (by decide) he hpl) fun sg H Q ⟨ph, h, r, s, x⟩ => ?_
  refine ⟨ph, h, r, s, x.bind fun u h1 _ ph1 H1 b1 g1 R1 ⟨eb1, w1⟩ x1 => ?_⟩
  unfold gIsi2 at x1
  by_cases kn : known u h1 = true
  · rw [if_pos kn] at x1
    rw [eb1]
    refine ⟨by show 2 ≤ sizeLine; exact m_line3 (by decide), fun tp htp => ?_⟩
    -- the tuple of types, laid beside: a cell that Mini has not
    have R2 : HR X.K Ga ph1 h1 (upd H1 tp (.tup [V.ty (tyName ty), V.ty (tyName tu)])) := by
      refine ⟨fun i c e => (R1.cells i c e).to (Nat.le_refl _) (fun _ _ => rfl) fun t => ?_, R1.inj⟩
      obtain ⟨o, ho⟩ := (R1.cells i c e).some t
      exact upd_ne fun z => by rw [z, htp] at ho; cases ho
    have q := x1.ok1 ph1 _ _ (Grow.refl _ _) R2 ⟨rfl, trivial⟩
    refine ⟨_, tp, [V.ty (tyName ty), V.ty (tyName tu)], .type (kindName (Mini.kindOf u h1)), [.type (tyName ty), .type (tyName tu)], isTy (Mini.kindOf u h1) ty || isTy (Mini.kindOf u h1) tu, rfl, upd_same, .cons (.ty _) (.cons (.ty _) .nil), tyx_of R2 kn, ?_, q⟩
    refine kitAny_cons (kit_kind _ _) (fun z => ?_) fun z => by rw [z]; rfl
    rw [z]
    refine kitAny_cons (kit_kind _ _) (fun z => ?_) fun z => by rw [z]; rfl
    rw [z]
    exact kitAny_nil
  · rw [if_neg kn] at x1
    exact x1.elim
end
/-! ### short words -/
section
variable {X : Cx} {Ga : Nat → Addr} {pin : Pin} {Wd : WX}
theorem v_ (i : Nat) {x : Str} {pos : Pos} (hN : X.N[i]? = some x := by rfl) (hv : Vis X.env.scope x := by first | exact Or.inl rfl | exact Or.inr (Or.inl rfl) | exact Or.inr (Or.inr rfl)) (hd : (x == ("__debug__" : Str)) = false := by decide)
    (hcd : (x == ("__classdict__" : Str)) = false := by decide) : PE X (.Name x pos) (tE X.K Ga pin Wd (eVar i)) := e_var hN hv hd hcd
theorem g_ (i : Nat) {x : Str} {pos : Pos} (hN : X.N.Nodup) (hl : pin.lets i) (hi : X.N[i]? = some x := by rfl) (hx : Loc X.env.scope x := by first | exact Or.inl rfl | exact Or.inr rfl) (hf : X.fn x = true ∨ X.env.scope.names.lookup x = some .local := by first | exact .inl rfl | exact .inr rfl) : Tg X Ga pin [i] (.Name x pos) (gSet i) := g_name hN hi hx hl hf
/-- a comprehension's own names -/
theorem b_ (i : Nat) {x : Str} (X : Cx) (Ga : Nat → Addr) : TgS X Ga none [i] (gSet i) (gName i) := fun ph h r sg H w Q s hw q => q ph _ H (Grow.refl _ _) (s.put hw lets0) ⟨List.length_set, fun j hj => List.getElem?_set_ne (fun z => hj (by rw [← z]; exact List.mem_cons_self))⟩
theorem bs_nil (X : Cx) (Ga : Nat → Addr) : TgsS X Ga none [] [] gNil := fun ph h r sg H ws Q s hw q => by
  cases ws with
  | nil => exact ⟨rfl, q ph sg H (Grow.refl _ _) s (Fr_.refl _ _)⟩
  | cons w ws => exact q.elim
theorem bs_cons {X : Cx} {Ga : Nat → Addr} {is js : List Nat} {g : Mini.G} {gs : List Mini.G} {t : TG} {ts : TGs} (z1 : TgS X Ga none is g t) (z2 : TgsS X Ga none js gs ts) : TgsS X Ga none (is ++ js) (g :: gs) (gCons t ts) := fun ph h r sg H ws Q s hw q => by
  cases ws with
  | nil => exact q.elim
  | cons w ws =>
    refine ⟨vW ph w, ws.map (vW ph), rfl, z1 ph h r sg H w _ s (hw w List.mem_cons_self) ?_⟩
    have q' : rdG X.K Ga none (is ++ js) ph h sg ((g w r h).bind fun r1 h1 => gAll gs ws r1 h1) Q := q
    cases e : g w r h with
    | ok r1 h1 =>
      rw [e] at q'
      intro ph' sg' H' g' S' f'
      have hw' : ∀ x ∈ ws, wf h.length x := fun x hx => hw x (List.mem_cons_of_mem _ hx)
      rw [← g'.vs hw']
      refine z2 ph' h1 r1 sg' H' ws _ S' (fun x hx => (hw' x hx).mono g'.le) ?_
      have q2 : rdG X.K Ga none (is ++ js) ph h sg (gAll gs ws r1 h1) Q := q'
      cases e2 : gAll gs ws r1 h1 with
      | ok r2 h2 =>
        rw [e2] at q2
        exact fun ph2 sg2 H2 g2 S2 f2 => q2 ph2 sg2 H2 (g'.trans g2) S2 ⟨f2.1.trans f'.1, fun j hj => (f2.2 j (fun z => hj (List.mem_append_right _ z))).trans (f'.2 j (fun z => hj (List.mem_append_left _ z)))⟩
      | exc c d h2 => rw [e2] at q2; exact q2.elim
      | bad => rw [e2] at q2; exact q2.elim
    | exc c d h1 => rw [e] at q'; exact q'.elim
    | bad => rw [e] at q'; exact q'.elim
theorem b_tup {X : Cx} {Ga : Nat → Addr} {is : List Nat} {n : Nat} {gs : List Mini.G} {ts : TGs} (hl : gs.length = n) (z : TgsS X Ga none is gs ts) : TgS X Ga none is (gTupT gs) (gTup X.K n ts) := fun ph h r sg H w Q s hw q => by
  cases w with
  | ref a =>
    unfold gTupT at q
    simp only [] at q
    have go : ∀ {xs : List Mini.W}, rdG X.K Ga none is ph h sg (gAll gs xs r h) Q → SqT X.K H (ph a) (xs.map (vW ph)) → (∀ x ∈ xs, wf h.length x) → gTup X.K n ts (vW ph (.ref a)) sg H Q := fun {xs} q1 q2 q3 => by
      refine ⟨ph a, xs.map (vW ph), rfl, q2, ?_, z ph h r sg H xs Q s q3 q1⟩
      cases e : gAll gs xs r h with
      | ok r1 h1 => rw [List.length_map, gAll_len e, hl]
      | exc c d h1 => rw [e] at q1; exact q1.elim
      | bad => rw [e] at q1; exact q1.elim
    cases e1 : h[a]? with
    | none => rw [e1] at q; exact q.elim
    | some cl =>
      have y := s.hr.cells a cl e1
      rw [e1] at q
      cases cl with
      | tup xs => exact go q (.inl (.inl y.1)) y.2
      | ct xs => exact go q (.inr y.1) y.2
      | _ => exact q.elim
  | _ => exact q.elim
end
theorem gi_ {X : Cx} {Ga : Nat → Addr} {pin : Pin} {Wd : WX} {x : Str} {pos : Pos} {i : Int} (hm : ∃ t, X.mg x = some (.int i t)) (hg : Gl X x := by rfl) (hd : (x == ("__debug__" : Str)) = false := by decide) : PE X (.Name x pos) (tE X.K Ga pin Wd (eC (.int i))) := by
  obtain ⟨t, ht⟩ := hm
  exact e_gint hg ht hd
theorem names_ {X : Cx} {x f : Str} {C : Addr} (T : ErrC X.K X.mg X.prog X.w X.base x f C) (hg : Gl X x := by rfl) (hd : (x == ("__debug__" : Str)) = false := by decide) : Names X x (.ref C) := ⟨hg, hd, .inl T.g⟩
theorem hu64 {k : Nat} {A : Around} (r : RoomG k A) : A.units + 64 < cLine := r.room.units
theorem hu70 {k : Nat} {A : Around} (r : RoomG k A) : A.units + 70 < cLine := by have := r.room.un; omega
theorem hu1 {k : Nat} {A : Around} (r : RoomG k A) : A.units + 1 < cLine := by have := r.room.un; omega
/-- which errors an except clause takes -/
theorem exm_of {K : PySem.W.Frag} {q S : Addr} {b : Bool} (h1 : PySem.W.subIn K (.ref S) (.type "BaseException") = some true) (h2 : PySem.W.isClsIn K S = true) (h3 : PySem.W.typeIn K (.ref S) = some (.type "type")) (h4 : PySem.W.subIn K (.ref q) (.ref S) = some b) : PySem.W.exmOne K (.ref q) (.ref S) = some b := by
  have e1 : (PySem.W.subIn K (.ref S) (.type "BaseException") == some true) = true := by rw [h1] <;> rfl
  have e2 : ((PySem.W.clsIn K S).isSome && PySem.W.typeIn K (.ref S) == some (.type "type")) = true := by
    have h2' : (PySem.W.clsIn K S).isSome = true := h2
    rw [h2', h3] <;> rfl
  show (if (PySem.W.subIn K (.ref S) (.type "BaseException") == some true) = true then (if ((PySem.W.clsIn K S).isSome && PySem.W.typeIn K (.ref S) == some (.type "type")) = true then PySem.W.subIn K (.ref q) (.ref S) else none) else none) = some b
  rw [if_pos e1, if_pos e2]
  exact h4
theorem _root_.L2.Fun.fd_eq {K : PySem.W.Frag} {x qual : Str} {st : Stmt} {f : Addr} {fd fd2 : FuncData} (F : L2.Fun K x qual st f fd) (F2 : L2.Fun K x qual st f fd2) : fd = fd2 := by
  obtain ⟨oc, od, kV, doc, pm, an, cdv, ct, sl, rfl, lk, hcd⟩ := F.ex
  obtain ⟨oc2, od2, kV2, doc2, pm2, an2, cdv2, ct2, osl2, rfl, lk2, hcd2⟩ := F2.ex
  rw [lk] at lk2
  cases lk2
  rfl
/-- a def of the text -/
structure Def (P : Program) (w : World) (K : PySem.W.Frag) (mg : Str → Option Value) (base : Heap) (Ga : Nat → Addr) (k : Nat) (x : Str) (st : Stmt) (ps : List Str) (m : Mini.F) : Prop where
  ex : ∃ (f : Addr) (fd : FuncData), mg x = some (.ref f) ∧ Fun K x x st f fd ∧ Binds K fd ps [] ∧ FnM P w K mg base Ga k f fd ps m
/-- what the top has written of a def -/
structure Src_ (K : PySem.W.Frag) (mg : Str → Option Value) (x : Str) (st : Stmt) (ps : List Str) : Prop where
  ex : ∃ (f : Addr) (fd : FuncData), mg x = some (.ref f) ∧ Fun K x x st f fd ∧ Binds K fd ps []
theorem def_of {P : Program} {w : World} {K : PySem.W.Frag} {mg : Str → Option Value} {base : Heap} {Ga : Nat → Addr} {k : Nat} {x : Str} {st : Stmt} {N ps : List Str} {sb : Mini.S} (Y : Src_ K mg x st ps) (S : FnScope N ps (defScope st))
    (hbody : ∀ (f : Addr) (cdv : Value) (A : Around) (outer : List PySem.Env) (s : Shared) (H : Hp) (E : XK), RoomG k (A.deeper (envOfC x (defScope st) s.heap.objs.size f cdv)) →
      PSs (cxOf (L2.CX P w) P w K mg base N x (defScope st) f cdv A outer s H E) (defBody st) (tS K Ga none (fun c d _ H => E c d H) sb)) :
    Def P w K mg base Ga (k + 1) x st ps (fnOf N.length ps.length sb) := by
  obtain ⟨f, fd, h1, F, h2⟩ := Y.ex
  obtain ⟨oc, od, kV, doc, pm, an, cdv, ct, sl, rfl, lk, hcd⟩ := F.ex
  exact ⟨f, _, h1, F, h2, fnm_of lk hcd S fun A outer s H E hr => hbody f cdv A outer s H E hr⟩
section
variable {X : Cx} {Ga : Nat → Addr} {pin : Pin} {Wd : WX} {e : Expr} {es : List Expr} {kws : List Keyword} {ms mk : Mini.A} {pos p : Pos} {k j : Nat} {x : Str} {st : Stmt} {ps ks : List Str} {mf : Mini.F}
theorem c_ (D : Def X.prog X.w X.K X.mg X.base Ga k x st ps mf) (hr : RoomG j X.A) (tk : Takes X Wd) (ha : PA X (e :: es) (tA X.K Ga pin Wd ms)) (hk : k ≤ j := by decide) (hg : Gl X x := by rfl) (hdb : (x == ("__debug__" : Str)) = false := by decide) (he : starEach (e :: es) X.env = (false, eval e X.env) :: starEach es X.env := by rfl) (hpl : (backTo pos (starEach es X.env)).any (·.1) = false := by rfl) :
    PE X (.Call (.Name x p) (e :: es) [] pos) (tE X.K Ga pin Wd (Mini.eCall mf ms)) := by
  obtain ⟨f, fd, h1, F, h2, M⟩ := D.ex
  exact e_call M (hr.mono hk) hg h1 F.kp h2 tk ha hdb he hpl
theorem c0_ (D : Def X.prog X.w X.K X.mg X.base Ga k x st ps mf) (hr : RoomG j X.A) (tk : Takes X Wd) (hk : k ≤ j := by decide) (hg : Gl X x := by rfl) (hdb : (x == ("__debug__" : Str)) = false := by decide) :
    PE X (.Call (.Name x p) [] [] pos) (tE X.K Ga pin Wd (Mini.eCall mf aNil)) := by
  obtain ⟨f, fd, h1, F, h2, M⟩ := D.ex
  exact e_call0 M (hr.mono hk) hg h1 F.kp h2 tk hdb
theorem kb_of {K : PySem.W.Frag} {f : Addr} {fd : FuncData} {n : Nat} {is : List Nat} (F : Fun K x x st f fd)
    (h : ∀ (kV doc pm : Value) (an : Option Addr) (cdv ct : Value) (us ws : List Value), us.length = n → ws.length = ks.length → bindArgs (PySem.W.fnOf x x (defArgs st) (defBody st) (defScope st) .none kV doc pm an cdv ct) ⟨us, ks.zip ws⟩ = pure (ps.zip (pick is (us ++ ws)))) : KB fd ps n ks is := by
  obtain ⟨oc, od, kV, doc, pm, an, cdv, ct, sl, rfl, lk, hcd⟩ := F.ex
  exact fun s us ws h1 h2 => .of_eq (h kV doc pm an cdv ct us ws h1 h2)
theorem ck0_ {n : Nat} {is : List Nat} (D : Def X.prog X.w X.K X.mg X.base Ga k x st ps mf) (hr : RoomG j X.A) (tk : Takes X Wd)
    (hb : ∀ (kV doc pm : Value) (an : Option Addr) (cdv ct : Value) (us ws : List Value), us.length = 0 → ws.length = ks.length → bindArgs (PySem.W.fnOf x x (defArgs st) (defBody st) (defScope st) .none kV doc pm an cdv ct) ⟨us, ks.zip ws⟩ = pure (ps.zip (pick is (us ++ ws))))
    (hkw : PK X kws (tA X.K Ga pin Wd mk)) (hn : ks.length = n := by rfl) (hk : k ≤ j := by decide) (hg : Gl X x := by rfl) (hall : (backToKw pos (keywordEach kws X.env)).all (·.1.isSome) = true := by rfl) (hks : (backToKw pos (keywordEach kws X.env)).filterMap (·.1) = ks := by rfl) (hdb : (x == ("__debug__" : Str)) = false := by decide)
    (hpl : ((backTo pos (starEach [] X.env)).any (·.1) || (backToKw pos (keywordEach kws X.env)).any (·.1.isNone))
      = false := by rfl) :
    PE X (.Call (.Name x p) [] kws pos) (tE X.K Ga pin Wd (Mini.eCallK mf is aNil (aN n mk))) := by
  obtain ⟨f, fd, h1, F, h2, M⟩ := D.ex
  exact e_callK0 M (hr.mono hk) hg h1 F.kp (kb_of F hb) tk hkw hn hall hks hdb hpl
end
end Br
set_option Elab.async false
set_option autoImplicit false
set_option linter.all false
set_option maxRecDepth 100000
/-! Rules for Mini's runs: what holds behind a run. Plain Lean. -/
namespace Mini
open PySem (Str PyData)
section
variable {α β : Type}
abbrev XQ := Nat → Option Nat → MH → Prop
abbrev XS := Nat → Option Nat → Env → MH → Prop
def R.wq (r : R α) (Q : α → MH → Prop) (X : XQ) : Prop := match r with
  | .ok a h => Q a h
  | .exc c d h => X c d h
  | .bad => False
def RS.wq (r : RS) (Q : Fl → Env → MH → Prop) (X : XS) : Prop := match r with
  | .ok f r h => Q f r h
  | .exc c d r h => X c d r h
  | .bad => False
/-- the same, closed: no unfolding passes it -/
structure R.wp (r : R α) (Q : α → MH → Prop) (X : XQ) : Prop where
  run : r.wq Q X
structure RS.wp (r : RS) (Q : Fl → Env → MH → Prop) (X : XS) : Prop where
  run : r.wq Q X
theorem R.wp_eq (r : R α) (Q : α → MH → Prop) (X : XQ) : r.wp Q X = r.wq Q X := propext ⟨fun x => x.run, fun x => ⟨x⟩⟩
theorem RS.wp_eq (r : RS) (Q : Fl → Env → MH → Prop) (X : XS) : r.wp Q X = r.wq Q X := propext ⟨fun x => x.run, fun x => ⟨x⟩⟩
variable {Q : α → MH → Prop} {X : XQ} {QS : Fl → Env → MH → Prop} {XX : XS} {r : Env} {h : MH}
@[simp] theorem wp_ok (a : α) : (R.ok a h).wp Q X = Q a h := by simp only [R.wp_eq, RS.wp_eq]; rfl
@[simp] theorem wp_exc (c : Nat) (d : Option Nat) : (R.exc c d h : R α).wp Q X = X c d h := by simp only [R.wp_eq, RS.wp_eq]; rfl
@[simp] theorem wp_bad : (R.bad : R α).wp Q X = False := by simp only [R.wp_eq, RS.wp_eq]; rfl
@[simp] theorem wp_bind {Q : β → MH → Prop} (x : R α) (f : α → MH → R β) : (x.bind f).wp Q X = x.wp (fun a h => (f a h).wp Q X) X := by simp only [R.wp_eq, RS.wp_eq]; cases x <;> rfl
theorem R.wp.imp {x : R α} {Q' : α → MH → Prop} {X' : XQ} (q : x.wp Q X) (hq : ∀ a h, Q a h → Q' a h) (hx : ∀ c d h, X c d h → X' c d h) : x.wp Q' X' := by
  rw [R.wp_eq] at *
  cases x with
  | ok a h => exact hq a h q
  | exc c d h => exact hx c d h q
  | bad => exact q
theorem RS.wp.imp {x : RS} {Q' : Fl → Env → MH → Prop} {X' : XS} (q : x.wp QS XX) (hq : ∀ f r h, QS f r h → Q' f r h) (hx : ∀ c d r h, XX c d r h → X' c d r h) : x.wp Q' X' := by
  rw [RS.wp_eq] at *
  cases x with
  | ok a r h => exact hq a r h q
  | exc c d r h => exact hx c d r h q
  | bad => exact q
theorem R.wp.toOk {x : R α} (q : x.wp Q (fun _ _ _ => False)) : ∃ a h, x = .ok a h ∧ Q a h := by
  rw [R.wp_eq] at q
  cases x with
  | ok a h => exact ⟨a, h, rfl, q⟩
  | exc c d h => exact q.elim
  | bad => exact q.elim
theorem wp_of_eq {x : R α} {a : α} (e : x = .ok a h) (q : Q a h) : x.wp Q X := by simp only [R.wp_eq, RS.wp_eq]; rw [e]; exact q
@[simp] theorem wp_ite {c : Prop} [Decidable c] {x y : R α} : (if c then x else y).wp Q X = if c then x.wp Q X else y.wp Q X := by simp only [R.wp_eq, RS.wp_eq]; split <;> rfl
/-! statements -/
@[simp] theorem ws_ok (f : Fl) : (RS.ok f r h).wp QS XX = QS f r h := by simp only [R.wp_eq, RS.wp_eq]; rfl
@[simp] theorem ws_exc (c : Nat) (d : Option Nat) : (RS.exc c d r h).wp QS XX = XX c d r h := by simp only [R.wp_eq, RS.wp_eq]; rfl
@[simp] theorem ws_bad : (RS.bad).wp QS XX = False := by simp only [R.wp_eq, RS.wp_eq]; rfl
@[simp] theorem ws_nx : (sNx r h).wp QS XX = QS .nx r h := by simp only [R.wp_eq, RS.wp_eq]; rfl
@[simp] theorem ws_brk : (sBrk r h).wp QS XX = QS .bk r h := by simp only [R.wp_eq, RS.wp_eq]; rfl
@[simp] theorem ws_cnt : (sCnt r h).wp QS XX = QS .ct r h := by simp only [R.wp_eq, RS.wp_eq]; rfl
/-- on behind a statement -/
def thenS (k : Env → MH → Prop) (Q : Fl → Env → MH → Prop) : Fl → Env → MH → Prop
  | .nx, r, h => k r h
  | f, r, h => Q f r h
@[simp] theorem thenS_nx (k : Env → MH → Prop) : thenS k QS .nx r h = k r h := (rfl)
@[simp] theorem thenS_rt (k : Env → MH → Prop) (w : W) : thenS k QS (.rt w) r h = QS (.rt w) r h := (rfl)
@[simp] theorem thenS_bk (k : Env → MH → Prop) : thenS k QS .bk r h = QS .bk r h := (rfl)
@[simp] theorem thenS_ct (k : Env → MH → Prop) : thenS k QS .ct r h = QS .ct r h := (rfl)
@[simp] theorem ws_seq (a b : S) : (sSeq a b r h).wp QS XX = (a r h).wp (thenS (fun r1 h1 => (b r1 h1).wp QS XX) QS) XX := by
  simp only [R.wp_eq, RS.wp_eq]
  unfold sSeq
  cases a r h with
  | ok f r h => cases f <;> rfl
  | exc c d r h => rfl
  | bad => rfl
@[simp] theorem ws_expr (e : E) : (sExpr e r h).wp QS XX = (e r h).wp (fun _ h1 => QS .nx r h1) (fun c d h1 => XX c d r h1) := by simp only [R.wp_eq, RS.wp_eq]; unfold sExpr; cases e r h <;> rfl
@[simp] theorem ws_ret (e : E) : (sRet e r h).wp QS XX = (e r h).wp (fun w h1 => QS (.rt w) r h1) (fun c d h1 => XX c d r h1) := by simp only [R.wp_eq, RS.wp_eq]; unfold sRet; cases e r h <;> rfl
@[simp] theorem ws_if (t : T) (a b : S) : (sIf t a b r h).wp QS XX = (t r h).wp (fun c h1 => if c = true then (a r h1).wp QS XX else (b r h1).wp QS XX) (fun c d h1 => XX c d r h1) := by
  simp only [R.wp_eq, RS.wp_eq]
  unfold sIf
  cases t r h with
  | ok c h1 => cases c <;> rfl
  | exc c d h => rfl
  | bad => rfl
@[simp] theorem ws_asg (e : E) (g : G) : (sAsg e g r h).wp QS XX = (e r h).wp (fun w h1 => (g w r h1).wp (fun r1 h2 => QS .nx r1 h2) (fun _ _ _ => False)) (fun c d h1 => XX c d r h1) := by
  simp only [R.wp_eq, RS.wp_eq]
  unfold sAsg
  cases e r h with
  | ok w h1 => show RS.wq (match g w r h1 with | .ok r1 h2 => RS.ok .nx r1 h2 | _ => .bad) _ _ = (g w r h1).wq _ _; cases g w r h1 <;> rfl
  | exc c d h => rfl
  | bad => rfl
@[simp] theorem ws_set (i : Nat) (e : E) : (sSet i e r h).wp QS XX = (e r h).wp (fun w h1 => QS .nx (r.set i (some w)) h1) (fun c d h1 => XX c d r h1) := by
  unfold sSet
  rw [ws_asg]
  simp only [R.wp_eq]
  rfl
@[simp] theorem ws_par (is : List Nat) (a : A) : (sPar is a r h).wp QS XX = (a r h).wp (fun ws h1 => match setAll is ws r with | some r1 => QS .nx r1 h1 | none => False) (fun c d h1 => XX c d r h1) := by
  simp only [R.wp_eq, RS.wp_eq]
  unfold sPar
  cases a r h with
  | ok ws h1 => simp only [R.wq]; cases setAll is ws r <;> rfl
  | exc c d h => rfl
  | bad => rfl
@[simp] theorem ws_asg2 (e : E) (i j : Nat) : (sAsg2 e i j r h).wp QS XX = (e r h).wp (fun w h1 => QS .nx ((r.set i (some w)).set j (some w)) h1) (fun c d h1 => XX c d r h1) := by simp only [R.wp_eq, RS.wp_eq]; unfold sAsg2; cases e r h <;> rfl
@[simp] theorem ws_aug {i : Nat} {g : W → W → MH → R W} {e : E} : (sAug i g e r h).wp QS XX = match r[i]? with | some (some x) => (e r h).wp (fun y h1 => (g x y h1).wp (fun z h2 => QS .nx (r.set i (some z)) h2) (fun _ _ _ => False)) (fun c d h1 => XX c d r h1) | _ => False := by
  simp only [R.wp_eq, RS.wp_eq]
  unfold sAug
  cases r[i]? with
  | none => rfl
  | some o => cases o with
    | none => rfl
    | some x =>
      simp only []
      cases e r h with
      | ok y h1 => simp only [R.wq]; cases g x y h1 <;> rfl
      | exc c d h => rfl
      | bad => rfl
@[simp] theorem ws_dput (d k e : E) : (sDput d k e r h).wp QS XX = (e r h).wp (fun w h1 => (d r h1).wp (fun x h2 => (k r h2).wp (fun y h3 => (dput w x y h3).wp (fun _ h4 => QS .nx r h4) (fun c d h1 => XX c d r h1)) (fun c d h1 => XX c d r h1)) (fun c d h1 => XX c d r h1)) (fun c d h1 => XX c d r h1) := by
  have key : ∀ x : R Unit, (match x with | .ok _ h1 => RS.ok .nx r h1 | .exc c d h1 => RS.exc c d r h1 | .bad => RS.bad).wp QS XX = x.wp (fun _ h4 => QS .nx r h4) (fun c d h1 => XX c d r h1) := fun x => by rw [RS.wp_eq, R.wp_eq]; cases x <;> rfl
  unfold sDput
  refine (key _).trans ?_
  simp only [wp_bind]
@[simp] theorem ws_raise (c : Nat) (f : Str) (e : E) : (sRaise c f e r h).wp QS XX = (e r h).wp (fun w h1 => XX c (some h1.length) r (h1 ++ [.xd [(f, w)]])) (fun c d h1 => XX c d r h1) := by simp only [R.wp_eq, RS.wp_eq]; unfold sRaise; cases e r h <;> rfl
@[simp] theorem ws_try (n len : Nat) (b : S) (hs : List Hd) : (sTry n len b hs r h).wp QS XX = (b r h).wp QS (fun c d r1 h1 => r1.length = len ∧ (hRun n c d hs r1 h1).wp QS XX) := by
  simp only [R.wp_eq, RS.wp_eq]
  unfold sTry
  cases b r h with
  | ok f r h => rfl
  | exc c d r1 h1 =>
    show RS.wq (if r1.length = len then _ else _) _ _ = (r1.length = len ∧ _)
    by_cases e : r1.length = len
    · rw [if_pos e]; simp [e, RS.wq]
    · rw [if_neg e]; simp [e, RS.wq]
  | bad => rfl
@[simp] theorem ws_hEnd (i : Option Nat) (x : RS) : (hEnd i x).wp QS XX = x.wp (fun f r h => QS f (noSlot i r) h) (fun _ _ _ _ => False) := by simp only [R.wp_eq, RS.wp_eq]; cases x <;> rfl
/-- a def's end -/
def retS (Q : W → MH → Prop) : Fl → Env → MH → Prop
  | .rt w, _, h => Q w h
  | .nx, _, h => Q .non h
  | _, _, _ => False
@[simp] theorem retS_rt {Q : W → MH → Prop} (w : W) : retS Q (.rt w) r h = Q w h := (rfl)
@[simp] theorem retS_nx {Q : W → MH → Prop} : retS Q .nx r h = Q .non h := (rfl)
theorem wp_fn {Q : W → MH → Prop} {n p : Nat} {b : S} {ws : List W} (hp : ws.length = p := by rfl) : (fnOf n p b ws h).wp Q X = (b (begin_ n ws) h).wp (retS Q) (fun c d _ h1 => X c d h1) := by
  simp only [R.wp_eq, RS.wp_eq]
  unfold fnOf
  rw [if_pos hp]
  cases b (begin_ n ws) h with
  | ok f r h => cases f <;> rfl
  | exc c d r h => rfl
  | bad => rfl
/-! ### loops -/
/-- the end of one turn: on, or out -/
def turnS (k : Env → MH → Prop) (Q : Fl → Env → MH → Prop) : Fl → Env → MH → Prop
  | .nx, r, h => k r h
  | .ct, r, h => k r h
  | .bk, r, h => Q .nx r h
  | .rt w, r, h => Q (.rt w) r h
@[simp] theorem turnS_nx (k : Env → MH → Prop) : turnS k QS .nx r h = k r h := (rfl)
@[simp] theorem turnS_ct (k : Env → MH → Prop) : turnS k QS .ct r h = k r h := (rfl)
@[simp] theorem turnS_bk (k : Env → MH → Prop) : turnS k QS .bk r h = QS .nx r h := (rfl)
@[simp] theorem turnS_rt (k : Env → MH → Prop) (w : W) : turnS k QS (.rt w) r h = QS (.rt w) r h := (rfl)
theorem wqs_while {t : T} {b : S} (I : Nat → Env → MH → Prop) (hI : ∀ v r h, I v r h → (t r h).wq (fun c h1 => if c = true then (b r h1).wq (turnS (fun r2 h2 => ∃ v', v' < v ∧ I v' r2 h2) QS) XX else QS .nx r h1) (fun c d h1 => XX c d r h1)) :
    ∀ n v r h, I v r h → v < n → (sWhile t b n r h).wq QS XX := by
  intro n
  induction n with
  | zero => intro v r h _ hv; exact absurd hv (Nat.not_lt_zero _)
  | succ n ih =>
    intro v r h i hv
    have q := hI v r h i
    unfold sWhile
    cases e : t r h with
    | ok c h1 =>
      rw [e] at q
      cases c with
      | false => exact q
      | true =>
        have q2 : (b r h1).wq (turnS (fun r2 h2 => ∃ v', v' < v ∧ I v' r2 h2) QS) XX := q
        show RS.wq (match b r h1 with | .ok .nx r2 h2 => sWhile t b n r2 h2 | .ok .ct r2 h2 => sWhile t b n r2 h2 | .ok .bk r2 h2 => .ok .nx r2 h2 | x => x) _ _
        cases e2 : b r h1 with
        | ok f r2 h2 =>
          rw [e2] at q2
          cases f with
          | nx => obtain ⟨v', l, i'⟩ := q2; exact ih v' r2 h2 i' (by omega)
          | ct => obtain ⟨v', l, i'⟩ := q2; exact ih v' r2 h2 i' (by omega)
          | bk => exact q2
          | rt w => exact q2
        | exc c d r2 h2 => rw [e2] at q2; exact q2
        | bad => rw [e2] at q2; exact q2
    | exc c d h1 => rw [e] at q; exact q
    | bad => rw [e] at q; exact q
/-- turns over known items -/
theorem wqs_turns {src : Src} {g : G} {b : S} (xs : List W) (I : Nat → Env → MH → Prop) (hat : ∀ i r h, I i r h → src.at i h = some xs[i]?)
    (hb : ∀ i x r h, xs[i]? = some x → I i r h → (g x r h).wq (fun r1 h1 => (b r1 h1).wq (turnS (fun r2 h2 => I (i + 1) r2 h2) QS) XX) (fun _ _ _ => False)) (hend : ∀ r h, I xs.length r h → QS .nx r h) :
    ∀ k i r h, I i r h → i ≤ xs.length → xs.length < k + i → (sTurns src g b k i r h).wq QS XX := by
  intro k
  induction k with
  | zero => intro i r h _ h1 h2; omega
  | succ k ih =>
    intro i r h hi hl hk
    unfold sTurns
    rw [hat i r h hi]
    cases e : xs[i]? with
    | none =>
      have : i = xs.length := by
        have := List.getElem?_eq_none_iff.mp e
        omega
      subst this
      exact hend r h hi
    | some x =>
      have q := hb i x r h e hi
      have hlt : i < xs.length := (List.getElem?_eq_some_iff.mp e).1
      show RS.wq (match g x r h with | .ok r1 h1 => _ | _ => _) _ _
      cases e1 : g x r h with
      | ok r1 h1 =>
        rw [e1] at q
        have q2 : (b r1 h1).wq _ _ := q
        show RS.wq (match b r1 h1 with | .ok .nx r2 h2 => sTurns src g b k (i + 1) r2 h2 | .ok .ct r2 h2 => sTurns src g b k (i + 1) r2 h2 | .ok .bk r2 h2 => .ok .nx r2 h2 | x => x) _ _
        cases e2 : b r1 h1 with
        | ok f r2 h2 =>
          rw [e2] at q2
          cases f with
          | nx => exact ih (i + 1) r2 h2 q2 hlt (by omega)
          | ct => exact ih (i + 1) r2 h2 q2 hlt (by omega)
          | bk => exact q2
          | rt w => exact q2
        | exc c d r2 h2 => rw [e2] at q2; exact q2
        | bad => rw [e2] at q2; exact q2
      | exc c d h1 => rw [e1] at q; exact q
      | bad => rw [e1] at q; exact q
theorem ws_while {t : T} {b : S} (I : Nat → Env → MH → Prop) (hI : ∀ v r h, I v r h → (t r h).wp (fun c h1 => if c = true then (b r h1).wp (turnS (fun r2 h2 => ∃ v', v' < v ∧ I v' r2 h2) QS) XX else QS .nx r h1) (fun c d h1 => XX c d r h1))
    (n v : Nat) (r : Env) (h : MH) (i : I v r h) (hv : v < n) : (sWhile t b n r h).wp QS XX := by
  rw [RS.wp_eq]
  refine wqs_while I (fun v r h i => ?_) n v r h i hv
  have q := hI v r h i
  simp only [R.wp_eq, RS.wp_eq] at q
  exact q
theorem ws_turns {src : Src} {g : G} {b : S} (xs : List W) (I : Nat → Env → MH → Prop) (hat : ∀ i r h, I i r h → src.at i h = some xs[i]?)
    (hb : ∀ i x r h, xs[i]? = some x → I i r h → (g x r h).wp (fun r1 h1 => (b r1 h1).wp (turnS (fun r2 h2 => I (i + 1) r2 h2) QS) XX) (fun _ _ _ => False)) (hend : ∀ r h, I xs.length r h → QS .nx r h)
    (k i : Nat) (r : Env) (h : MH) (hi : I i r h) (hl : i ≤ xs.length) (hk : xs.length < k + i) : (sTurns src g b k i r h).wp QS XX := by
  rw [RS.wp_eq]
  refine wqs_turns xs I hat (fun i x r h e q => ?_) hend k i r h hi hl hk
  have q := hb i x r h e q
  simp only [R.wp_eq, RS.wp_eq] at q
  exact q
theorem ws_for {it : I} {g : G} {b : S} : (sFor it g b r h).wp QS XX = (it r h).wp (fun q h1 => (sTurns q.1 g b q.2 0 r h1).wp QS XX) (fun c d h1 => XX c d r h1) := by
  simp only [R.wp_eq, RS.wp_eq]
  unfold sFor
  cases it r h with
  | ok q h1 => rfl
  | exc c d h => rfl
  | bad => rfl
/-- the turns of a range -/
theorem ws_rng {g : G} {b : S} {lo : Int} {n : Nat} (I : Nat → Env → MH → Prop) (h0 : I 0 r h)
    (hb : ∀ i r h, i < n → I i r h → (g (.int (lo + i)) r h).wp (fun r1 h1 => (b r1 h1).wp (turnS (fun r2 h2 => I (i + 1) r2 h2) QS) XX) (fun _ _ _ => False)) (hend : ∀ r h, I n r h → QS .nx r h) :
    (sTurns (.rng lo n) g b (n + 1) 0 r h).wp QS XX := by
  have hl : ((List.range n).map fun (i : Nat) => W.int (lo + i)).length = n := by simp
  refine ws_turns ((List.range n).map fun (i : Nat) => W.int (lo + i)) I (fun i r h _ => ?_) (fun i x r h e q => ?_) (fun r h q => hend r h (by rw [hl] at q; exact q)) _ _ _ _ h0 (Nat.zero_le _) (by rw [hl]; omega)
  · show some (if i < n then _ else _) = _
    by_cases c : i < n
    · simp [c]
    · simp [c]
  · simp only [List.getElem?_map, List.getElem?_range] at e
    by_cases c : i < n
    · simp [List.getElem?_range, c] at e
      rw [← e]
      exact hb i r h c q
    · simp [List.getElem?_range, c] at e
end
end Mini
/-! ### for simp -/
namespace Mini
open PySem (Str PyData)
section
variable {h : MH} {i j : Int} {x y : W} {Q : W → MH → Prop} {X : XQ} {r : Env} {n m : Nat} {xs : List W} {s t : Str} {b c : Bool}
@[simp] theorem o_add : gAdd (.int i) (.int j) h = .ok (.int (i + j)) h := (rfl)
@[simp] theorem o_sub : gSub (.int i) (.int j) h = .ok (.int (i - j)) h := (rfl)
@[simp] theorem o_mul : (gMul (.int i) (.int j) h).wp Q X = (mulOk i j = true ∧ Q (.int (i * j)) h) := by
  simp only [R.wp_eq]
  show R.wq (if mulOk i j = true then _ else _) _ _ = _
  by_cases c : mulOk i j = true <;> simp [c, R.wq]
@[simp] theorem o_div : (gDiv (.int i) (.int j) h).wp Q X = (divOk i j = true ∧ Q (.int (i / j)) h) := by
  simp only [R.wp_eq]
  show R.wq (if divOk i j = true then _ else _) _ _ = _
  by_cases c : divOk i j = true <;> simp [c, R.wq]
@[simp] theorem o_mod : (gMod (.int i) (.int j) h).wp Q X = (0 < j ∧ Q (.int (i % j)) h) := by
  simp only [R.wp_eq]
  show R.wq (if modOk i j = true then _ else _) _ _ = _
  by_cases c : modOk i j = true
  · have c' : 0 < j := of_decide_eq_true c
    simp [c, c', R.wq]
  · have c' : ¬ 0 < j := fun z => c (decide_eq_true z)
    simp [c, c', R.wq]
@[simp] theorem o_pow : (gPow (.int i) (.int j) h).wp Q X = (powOk i j = true ∧ Q (.int (i ^ j.toNat)) h) := by
  simp only [R.wp_eq]
  show R.wq (if powOk i j = true then _ else _) _ _ = _
  by_cases c : powOk i j = true <;> simp [c, R.wq]
@[simp] theorem o_lt : gLt (.int i) (.int j) h = .ok (.bl (decide (i < j))) h := (rfl)
@[simp] theorem o_le : gLe (.int i) (.int j) h = .ok (.bl (decide (i ≤ j))) h := (rfl)
@[simp] theorem o_gt : gGt (.int i) (.int j) h = .ok (.bl (decide (j < i))) h := (rfl)
@[simp] theorem o_ge : gGe (.int i) (.int j) h = .ok (.bl (decide (j ≤ i))) h := (rfl)
@[simp] theorem o_neg : gNeg (.int i) h = .ok (.int (-i)) h := (rfl)
@[simp] theorem o_intOp (f : Int → Int → Int) : intOp f (.int i) (.int j) h = .ok (.int (f i j)) h := (rfl)
@[simp] theorem o_abs : fAbs [.int i] h = .ok (.int (if i < 0 then -i else i)) h := (rfl)
@[simp] theorem o_int : fInt [.int i] h = .ok (.int i) h := (rfl)
@[simp] theorem o_max : fMax2 [.int i, .int j] h = .ok (.int (if j > i then j else i)) h := (rfl)
@[simp] theorem o_min : fMin2 [.int i, .int j] h = .ok (.int (if j < i then j else i)) h := (rfl)
@[simp] theorem o_eqI : gEq (.int i) (.int j) h = .ok (.bl (decide (i = j))) h := by unfold gEq eqB; simp [scl]
@[simp] theorem o_neI : gNe (.int i) (.int j) h = .ok (.bl (!decide (i = j))) h := by unfold gNe eqB; simp [scl]
@[simp] theorem o_eqB : gEq (.bl b) (.bl c) h = .ok (.bl (decide (b = c))) h := by unfold gEq eqB; simp [scl]
@[simp] theorem o_neB : gNe (.bl b) (.bl c) h = .ok (.bl (!decide (b = c))) h := by unfold gNe eqB; simp [scl]
@[simp] theorem o_eqS : gEq (.str s) (.str t) h = .ok (.bl (decide (s = t))) h := by unfold gEq eqB; simp [scl]
@[simp] theorem o_neS : gNe (.str s) (.str t) h = .ok (.bl (!decide (s = t))) h := by unfold gNe eqB; simp [scl]
@[simp] theorem o_isN : gIsN x .non h = .ok (.bl (decide (x = .non))) h := (rfl)
@[simp] theorem o_notN : gNotN x .non h = .ok (.bl (!decide (x = .non))) h := (rfl)
@[simp] theorem tru_bl : tru (.bl b) h = some b := (rfl)
@[simp] theorem tru_int : tru (.int i) h = some (i != 0) := (rfl)
@[simp] theorem tru_non : tru .non h = some false := (rfl)
theorem seq_lst (e : h[n]? = some (.lst xs)) : seqAt h n = some xs := by unfold seqAt; rw [e]
theorem seq_tup (e : h[n]? = some (.tup xs)) : seqAt h n = some xs := by unfold seqAt; rw [e]
theorem seq_fz (e : h[n]? = some (.fz xs)) : seqAt h n = some xs := by unfold seqAt; rw [e]
theorem seq_cl (e : h[n]? = some (.cl xs)) : seqAt h n = some xs := by unfold seqAt; rw [e]
theorem seq_ct (e : h[n]? = some (.ct xs)) : seqAt h n = some xs := by unfold seqAt; rw [e]
/-- an item -/
def itemAt (xs : List W) (i : Int) (P : W → Prop) : Prop := match (ixOf xs.length i).bind fun j => xs[j]? with
  | some w => P w
  | none => False
theorem o_ix (e : seqAt h n = some xs) : (gIx (.ref n) (.int i) h).wp Q X = itemAt xs i (fun w => Q w h) := by
  simp only [R.wp_eq]
  show R.wq (match seqAt h n with | some xs => _ | none => _) _ _ = _
  rw [e]
  unfold itemAt
  simp only [R.wp_eq]
  show R.wq (match (ixOf xs.length i).bind fun j => xs[j]? with | some w => R.ok w h | none => .bad) _ _ = _
  cases (ixOf xs.length i).bind fun j => xs[j]? <;> rfl
theorem item_nn {P : W → Prop} (k : Nat) {w : W} (e : xs[k]? = some w) : itemAt xs (k : Int) P = P w := by
  have hk : k < xs.length := (List.getElem?_eq_some_iff.mp e).1
  unfold itemAt ixOf
  rw [if_pos (by omega)]
  rw [if_pos (by omega)]
  show (match xs[((k : Int)).toNat]? with | some w => P w | none => False) = _
  rw [Int.toNat_natCast, e]
@[simp] theorem item0 {P : W → Prop} : itemAt (x :: xs) 0 P = P x := item_nn 0 rfl
@[simp] theorem item1 {a0 : W} {P : W → Prop} : itemAt (a0 :: x :: xs) 1 P = P x := item_nn 1 rfl
@[simp] theorem item2 {a0 a1 : W} {P : W → Prop} : itemAt (a0 :: a1 :: x :: xs) 2 P = P x := item_nn 2 rfl
@[simp] theorem item3 {a0 a1 a2 : W} {P : W → Prop} : itemAt (a0 :: a1 :: a2 :: x :: xs) 3 P = P x := item_nn 3 rfl
@[simp] theorem item4 {a0 a1 a2 a3 : W} {P : W → Prop} : itemAt (a0 :: a1 :: a2 :: a3 :: x :: xs) 4 P = P x := item_nn 4 rfl
@[simp] theorem item5 {a0 a1 a2 a3 a4 : W} {P : W → Prop} : itemAt (a0 :: a1 :: a2 :: a3 :: a4 :: x :: xs) 5 P = P x := item_nn 5 rfl
/-- any item: each holds -/
theorem item_all {P : W → Prop} {i : Int} (h0 : 0 ≤ i) (h1 : i < xs.length) (hp : ∀ (k : Nat) (w : W), xs[k]? = some w → (k : Int) = i → P w) : itemAt xs i P := by
  have hk : i.toNat < xs.length := by omega
  have e : xs[i.toNat]? = some xs[i.toNat] := by simp [hk]
  have z := item_nn (P := P) i.toNat e
  rw [Int.toNat_of_nonneg h0] at z
  rw [z]
  exact hp _ _ e (Int.toNat_of_nonneg h0)
@[simp] theorem o_tup {a : A} : (eTup a r h).wp Q X = (a r h).wp (fun xs h1 => xs.length ≤ 1000 ∧ Q (.ref h1.length) (h1 ++ [.tup xs])) X := by
  unfold eTup
  rw [wp_bind]
  congr; funext xs h1
  by_cases c : xs.length ≤ 1000 <;> simp [c]
@[simp] theorem o_lst {a : A} : (eLst a r h).wp Q X = (a r h).wp (fun xs h1 => xs.length ≤ 1000 ∧ Q (.ref h1.length) (h1 ++ [.lst xs])) X := by
  unfold eLst
  rw [wp_bind]
  congr; funext xs h1
  by_cases c : xs.length ≤ 1000 <;> simp [c]
@[simp] theorem o_dic0 : (eDic0 r h).wp Q X = Q (.ref h.length) (h ++ [.dic []]) := by rw [R.wp_eq]; rfl
theorem o_put {w : W} {R' : Env → MH → Prop} (e : h[n]? = some (.lst xs)) (h0 : 0 ≤ i) (hk : i < xs.length) : (putL w r (.ref n) (.int i) h).wp R' X = R' r (h.set n (.lst (xs.set i.toNat w))) := by
  simp only [R.wp_eq]
  show R.wq (match h[n]? with | some (.lst xs) => _ | _ => _) _ _ = _
  rw [e]
  simp only [R.wp_eq]
  show R.wq (match ixOf xs.length i with | some j => R.ok r (h.set n (.lst (xs.set j w))) | none => .bad) _ _ = _
  unfold ixOf
  rw [if_pos h0, if_pos hk]
  rfl
@[simp] theorem o_subL {w : W} {o i : E} {R' : Env → MH → Prop} : (gSubL o i w r h).wp R' X = (o r h).wp (fun x h1 => (i r h1).wp (fun y h2 => (putL w r x y h2).wp R' X) X) X := by
  unfold gSubL
  rw [wp_bind]
  congr; funext x h1
  rw [wp_bind]
theorem o_untup {gs : List G} {R' : Env → MH → Prop} (e : h[n]? = some (.tup xs)) : (gTupT gs (.ref n) r h).wp R' X = (gAll gs xs r h).wp R' X := by unfold gTupT; simp only [e]
theorem o_untupC {gs : List G} {R' : Env → MH → Prop} (e : h[n]? = some (.ct xs)) : (gTupT gs (.ref n) r h).wp R' X = (gAll gs xs r h).wp R' X := by unfold gTupT; simp only [e]
@[simp] theorem o_untupN {gs : List G} {R' : Env → MH → Prop} : (gTupT gs (.ref h.length) r (h ++ [.tup xs])).wp R' X = (gAll gs xs r (h ++ [.tup xs])).wp R' X := o_untup (by simp)
@[simp] theorem o_ixN : (gIx (.ref h.length) (.int i) (h ++ [.lst xs])).wp Q X = itemAt xs i (fun w => Q w (h ++ [.lst xs])) := o_ix (seq_lst (by simp))
theorem ite_and {a b P R : Prop} [Decidable a] [Decidable b] (h : ¬(a ∧ b)) : (if a then (if b then P else R) else R) = R := by
  by_cases ha : a
  · rw [if_pos ha, if_neg (fun z => h ⟨ha, z⟩)]
  · rw [if_neg ha]
theorem o_len (e : seqAt h n = some xs) : fLen [.ref n] h = .ok (.int xs.length) h := by unfold fLen; simp only [e]
theorem o_list (e : seqAt h n = some xs) : fList [.ref n] h = .ok (.ref h.length) (h ++ [.lst xs]) := by unfold fList; simp only [e]
theorem o_rng1 {e : E} {R' : Src × Nat → MH → Prop} : (iRng1 e r h).wp R' X = (e r h).wp (fun w h1 => match w with | .int n => rOk n = true ∧ R' (.rng 0 n.toNat, n.toNat + 1) h1 | _ => False) X := by
  unfold iRng1
  rw [wp_bind]
  congr; funext w h1
  cases w with
  | int n => by_cases c : rOk n = true <;> simp [c]
  | _ => simp
theorem o_rng2 {e f : E} {R' : Src × Nat → MH → Prop} : (iRng2 e f r h).wp R' X = (e r h).wp (fun x h1 => (f r h1).wp (fun y h2 => match x, y with | .int i, .int j => (rOk i = true ∧ rOk j = true) ∧ R' (.rng i (j - i).toNat, (j - i).toNat + 1) h2 | _, _ => False) X) X := by
  unfold iRng2
  rw [wp_bind]
  congr; funext w h1
  rw [wp_bind]
  congr; funext y h2
  cases w <;> cases y <;> first | (rename_i i j; by_cases c : rOk i = true ∧ rOk j = true <;> simp [c]; done) | simp
/-- kinds -/
@[simp] theorem k_non (t : Ty) : gIsi t .non h = .ok (.bl false) h := by cases t <;> rfl
@[simp] theorem k_int (t : Ty) : gIsi t (.int i) h = .ok (.bl (decide (t = .tInt))) h := by cases t <;> rfl
@[simp] theorem k_bl (t : Ty) : gIsi t (.bl b) h = .ok (.bl (decide (t = .tBool) || decide (t = .tInt))) h := by cases t <;> rfl
@[simp] theorem k_str (t : Ty) : gIsi t (.str s) h = .ok (.bl (decide (t = .tStr))) h := by cases t <;> rfl
theorem k_lst (t : Ty) (e : h[n]? = some (.lst xs)) : gIsi t (.ref n) h = .ok (.bl (decide (t = .tList))) h := by unfold gIsi known kindOf isTy; simp only [e]; cases t <;> rfl
theorem k_tup (t : Ty) (e : h[n]? = some (.tup xs)) : gIsi t (.ref n) h = .ok (.bl (decide (t = .tTuple))) h := by unfold gIsi known kindOf isTy; simp only [e]; cases t <;> rfl
theorem k_dic (t : Ty) {kvs : List (Sum Int Str × W)} (e : h[n]? = some (.dic kvs)) : gIsi t (.ref n) h = .ok (.bl (decide (t = .tDict))) h := by unfold gIsi known kindOf isTy; simp only [e]; cases t <;> rfl
theorem mul_ok (hi : i.natAbs < two64) : mulOk i j = true := by simp [mulOk, hi]
theorem mul_ok2 (hj : j.natAbs < two64) : mulOk i j = true := by simp [mulOk, hj]
theorem div_ok (h0 : 0 < j) (h1 : j.natAbs < 2 ^ 9000) : divOk i j = true := by
  unfold divOk
  have : j.natAbs.log2 < 9000 := by
    rw [Nat.log2_lt (by omega)]
    exact h1
  simp [h0, this]
theorem pow_ok (h0 : 0 ≤ j) (h1 : j ≤ 1000000) (h2 : i.natAbs < two64) : powOk i j = true := by simp [powOk, h0, h1, h2]
theorem set_at' {h : MH} {b : Nat} {c : Cell} (e : b < h.length) : (h.set b c)[b]? = some c := by rw [List.getElem?_set_self e]
end
/-- what stands in a cell stays: all but b -/
def Ch (b : Nat) (h h' : MH) : Prop := h.length ≤ h'.length ∧ ∀ i, i < h.length → i ≠ b → h'[i]? = h[i]?
/-- all stays -/
def Old (h h' : MH) : Prop := h.length ≤ h'.length ∧ ∀ i, i < h.length → h'[i]? = h[i]?
theorem Old.refl (h : MH) : Old h h := ⟨Nat.le_refl _, fun _ _ => rfl⟩
theorem Ch.refl (b : Nat) (h : MH) : Ch b h h := ⟨Nat.le_refl _, fun _ _ _ => rfl⟩
theorem Old.trans {a b c : MH} (x : Old a b) (y : Old b c) : Old a c := ⟨Nat.le_trans x.1 y.1, fun i hi => (y.2 i (Nat.lt_of_lt_of_le hi x.1)).trans (x.2 i hi)⟩
theorem Ch.trans {n : Nat} {a b c : MH} (x : Ch n a b) (y : Ch n b c) : Ch n a c := ⟨Nat.le_trans x.1 y.1, fun i hi hn => (y.2 i (Nat.lt_of_lt_of_le hi x.1) hn).trans (x.2 i hi hn)⟩
theorem Old.ch {a b : MH} (x : Old a b) (n : Nat) : Ch n a b := ⟨x.1, fun i hi _ => x.2 i hi⟩
theorem Old.app (h : MH) (t : List Cell) : Old h (h ++ t) := ⟨by simp, fun i hi => List.getElem?_append_left hi⟩
theorem Ch.app {b : Nat} {h h' : MH} (c : Ch b h h') (t : List Cell) : Ch b h (h' ++ t) := c.trans ((Old.app _ _).ch b)
theorem lt_of_at {h : MH} {i : Nat} {c : Cell} (e : h[i]? = some c) : i < h.length := (List.getElem?_eq_some_iff.mp e).1
theorem Old.at {a b : MH} (x : Old a b) {i : Nat} {c : Cell} (e : a[i]? = some c) : b[i]? = some c := (x.2 i (lt_of_at e)).trans e
theorem Ch.at {n : Nat} {a b : MH} (x : Ch n a b) {i : Nat} {c : Cell} (e : a[i]? = some c) (hn : i ≠ n) : b[i]? = some c := (x.2 i (lt_of_at e) hn).trans e
theorem Ch.set (h : MH) (b : Nat) (c : Cell) : Ch b h (h.set b c) := ⟨by simp, fun i _ hn => List.getElem?_set_ne (Ne.symm hn)⟩
theorem set_at {h : MH} {b : Nat} {c c' : Cell} (e : h[b]? = some c) : (h.set b c')[b]? = some c' := by rw [List.getElem?_set_self (lt_of_at e)]
theorem app_at {h : MH} {i : Nat} {c : Cell} (e : h[i]? = some c) (t : List Cell) : (h ++ t)[i]? = some c := (Old.app h t).at e
@[simp] theorem new_at (h : MH) (c : Cell) : (h ++ [c])[h.length]? = some c := by simp
theorem rOk_iff (i : Int) : (rOk i = true) = (-4611686018427387904 ≤ i ∧ i < 4611686018427387904) := by simp [rOk]
/-- what holds between two statements -/
theorem ws_cut {QS : Fl → Env → MH → Prop} {XX : XS} {r : Env} {h : MH} {a b : S} (P : Env → MH → Prop) (q1 : (a r h).wp (fun f r1 h1 => f = .nx ∧ P r1 h1) XX) (q2 : ∀ r1 h1, P r1 h1 → (b r1 h1).wp QS XX) : (sSeq a b r h).wp QS XX := by
  rw [ws_seq]
  refine q1.imp (fun f r1 h1 ⟨e, p⟩ => ?_) (fun _ _ _ _ x => x)
  subst e
  exact q2 r1 h1 p
theorem sSeq_assoc (a b c : S) : sSeq a (sSeq b c) = sSeq (sSeq a b) c := by
  funext r h
  unfold sSeq
  cases a r h with
  | ok f r h => cases f <;> rfl
  | exc c d r h => rfl
  | bad => rfl
theorem item_mem {xs : List W} {i : Int} {P : W → Prop} (h0 : 0 ≤ i) (h1 : i < xs.length) (hp : ∀ w, w ∈ xs → P w) : itemAt xs i P :=
  item_all h0 h1 fun k w e _ => hp w (List.mem_of_getElem? e)
/-- a for over what stands in a value -/
def forIn_ (w : W) (g : G) (b : S) : S := sFor (iSeq (eC w)) g b
section
variable {QS : Fl → Env → MH → Prop} {XX : XS} {r : Env} {h : MH} {g : G} {b : S} {α : Type}
@[simp] theorem ws_forL {e : E} : (sFor (iSeq e) g b r h).wp QS XX = (e r h).wp (fun w h1 => (forIn_ w g b r h1).wp QS XX) (fun c d h1 => XX c d r h1) := by
  unfold forIn_
  simp only [ws_for, iSeq, wp_bind, eC, wp_ok]
theorem ws_lst {a : Nat} {xs : List W} (e : h[a]? = some (.lst xs)) (I : Nat → Env → MH → Prop) (h0 : I 0 r h) (hat : ∀ i r h, I i r h → h[a]? = some (.lst xs))
    (hb : ∀ i x r h, xs[i]? = some x → I i r h → (g x r h).wp (fun r1 h1 => (b r1 h1).wp (turnS (fun r2 h2 => I (i + 1) r2 h2) QS) XX) (fun _ _ _ => False)) (hend : ∀ r h, I xs.length r h → QS .nx r h) : (forIn_ (.ref a) g b r h).wp QS XX := by
  unfold forIn_
  have l : lstAt h a = some xs := by unfold lstAt; rw [e]
  simp only [ws_for, iSeq, wp_bind, eC, wp_ok, l]
  exact ws_turns xs I (fun i r h q => by show (lstAt h a).map _ = _; unfold lstAt; rw [hat i r h q]; rfl) hb hend _ 0 r h h0 (Nat.zero_le _) (by omega)
/-- list comprehension -/
theorem wp_lcTurns {src : Src} {g : G} {t : T} {e : E} {D : Nat} {Q : W → MH → Prop} (xs : List W) (I : Nat → List W → MH → Prop) (hat : ∀ i acc h, I i acc h → src.at i h = some xs[i]?)
    (hb : ∀ i x acc h, xs[i]? = some x → h[D]? = some (.lst acc) → I i acc h → (g x r h).wp (fun r1 h1 => (t r1 h1).wp (fun c h2 => if c = true then (e r1 h2).wp (fun y h3 => h3[D]? = some (.lst acc) ∧ I (i + 1) (acc ++ [y]) (h3.set D (.lst (acc ++ [y])))) (fun _ _ _ => False)
      else h2[D]? = some (.lst acc) ∧ I (i + 1) acc h2) (fun _ _ _ => False)) (fun _ _ _ => False)) (hend : ∀ acc h, h[D]? = some (.lst acc) → I xs.length acc h → Q (.ref D) h) (hx : xs.length < 9999999) :
    ∀ k i acc h, acc.length ≤ i → h[D]? = some (.lst acc) → I i acc h → i ≤ xs.length → xs.length < k + i → (lcTurns src g t e r D k i h).wq Q (fun _ _ _ => False) := by
  intro k
  induction k with
  | zero => intro i acc h _ _ _ h1 h2; omega
  | succ k ih =>
    intro i acc h la hD hi hl hk
    unfold lcTurns
    rw [hat i acc h hi]
    cases ex : xs[i]? with
    | none =>
      have : i = xs.length := by
        have := List.getElem?_eq_none_iff.mp ex
        omega
      subst this
      exact hend acc h hD hi
    | some x =>
      have q := hb i x acc h ex hD hi
      have hlt : i < xs.length := (List.getElem?_eq_some_iff.mp ex).1
      simp only [R.wp_eq] at q
      show R.wq (match g x r h with | .ok r1 h1 => _ | _ => _) _ _
      cases e1 : g x r h with
      | ok r1 h1 =>
        rw [e1] at q
        have q2 : (t r1 h1).wq _ _ := q
        show R.wq ((t r1 h1).bind _) _ _
        cases e2 : t r1 h1 with
        | ok c h2 =>
          rw [e2] at q2
          cases c with
          | true =>
            have q3 : (e r1 h2).wq _ _ := q2
            show R.wq ((e r1 h2).bind _) _ _
            cases e3 : e r1 h2 with
            | ok y h3 =>
              rw [e3] at q3
              obtain ⟨z1, z2⟩ := q3
              show R.wq (lcAdd D y _ h3) _ _
              unfold lcAdd
              rw [z1]
              show R.wq (if acc.length < 10000000 then _ else _) _ _
              rw [if_pos (by omega)]
              exact ih (i + 1) (acc ++ [y]) _ (by simp; omega) (set_at z1) z2 hlt (by omega)
            | exc c d h => rw [e3] at q3; exact q3.elim
            | bad => rw [e3] at q3; exact q3.elim
          | false =>
            obtain ⟨z1, z2⟩ := (show h2[D]? = some (.lst acc) ∧ I (i + 1) acc h2 from q2)
            exact ih (i + 1) acc h2 (by omega) z1 z2 hlt (by omega)
        | exc c d h => rw [e2] at q2; exact q2.elim
        | bad => rw [e2] at q2; exact q2.elim
      | exc c d h1 => rw [e1] at q; exact q.elim
      | bad => rw [e1] at q; exact q.elim
theorem quiet_wq {x : R α} {Q : α → MH → Prop} {X : XQ} (q : x.wq Q (fun _ _ _ => False)) : x.quiet.wp Q X := by
  rw [R.wp_eq]
  cases x with
  | ok a h => exact q
  | exc c d h => exact q.elim
  | bad => exact q.elim
/-- over range(n), n a number -/
theorem wp_lc_rng {g : G} {t : T} {e : E} {Q : W → MH → Prop} {X : XQ} {vs : List Nat} {n : Nat} (hn : n < 9999999) (I : Nat → List W → MH → Prop) (h0 : I 0 [] (h ++ [.lst []]))
    (hb : ∀ i acc h1, i < n → h1[h.length]? = some (.lst acc) → I i acc h1 → (g (.int i) (wipe r vs) h1).wp (fun r1 h1 => (t r1 h1).wp (fun c h2 => if c = true then (e r1 h2).wp (fun y h3 => h3[h.length]? = some (.lst acc) ∧ I (i + 1) (acc ++ [y]) (h3.set h.length (.lst (acc ++ [y])))) (fun _ _ _ => False)
      else h2[h.length]? = some (.lst acc) ∧ I (i + 1) acc h2) (fun _ _ _ => False)) (fun _ _ _ => False)) (hend : ∀ acc h1, h1[h.length]? = some (.lst acc) → I n acc h1 → Q (.ref h.length) h1) :
    (eLc vs (iRng1 (eC (.int n))) g t e r h).wp Q X := by
  unfold eLc
  have ro : rOk (n : Int) = true := by simp [rOk]; omega
  simp only [wp_bind, o_rng1, eC, wp_ok, ro, true_and]
  have hl : ((List.range n).map fun (i : Nat) => W.int i).length = n := by simp
  refine quiet_wq (wp_lcTurns ((List.range n).map fun (i : Nat) => W.int i) I (fun i acc h1 _ => ?_) (fun i x acc h1 e hD q => ?_) (fun acc h1 hD q => hend acc h1 hD (by rw [hl] at q; exact q)) (by rw [hl]; exact hn) _ 0 [] _ (Nat.le_refl _) (by simp) h0 (Nat.zero_le _) (by rw [hl]; simp))
  · show some (if i < ((n : Int)).toNat then _ else _) = _
    by_cases c : i < n
    · simp [c]
    · simp [c]
  · simp only [List.getElem?_map] at e
    by_cases c : i < n
    · simp [List.getElem?_range, c] at e
      rw [← e]
      exact hb i acc h1 c hD q
    · simp [List.getElem?_range, c] at e
end
end Mini
set_option linter.all false
set_option autoImplicit false
set_option Elab.async false
set_option maxRecDepth 100000
namespace K31
open Mini
def b_is_whole : S :=
    (sRet (eAnd (eUn (gIsi .tInt) (eVar 0)) (eNot (eUn (gIsi .tBool) (eVar 0)))))
def m_is_whole : F := fnOf 1 1 b_is_whole
def b_is_between : S :=
    (sRet (eAnd (Mini.eCall m_is_whole (aCons (eVar 0) aNil)) (eChain gLe gLe (eVar 1) (eVar 0) (eVar 2))))
def m_is_between : F := fnOf 3 3 b_is_between
def b_choose : S :=
    (sSeq (sSet 2 (eC (.int 1)))
    (sSeq (Mini.sFor (Mini.iRng1 (eVar 1)) (gSet 3)
    (sSet 2 (eBin gDiv (eBin gMul (eVar 2) (eBin gSub (eVar 0) (eVar 3))) (eBin gAdd (eVar 3) (eC (.int 1))))))
    (sRet (eVar 2))))
def m_choose : F := fnOf 4 2 b_choose
def b_least_places : S :=
    (sSeq (sAsg (eTup (aCons (eC (.int 0)) (aCons (eC (.int 1)) aNil))) (gTupT [(gSet 2), (gSet 3)]))
    (sSeq (Mini.sWhile (tBl (eBin gLt (eVar 3) (eVar 0))) (sPar [2, 3] (aCons (eBin gAdd (eVar 2) (eC (.int 1))) (aCons (eBin gMul (eVar 3) (eVar 1)) aNil))) 1000000)
    (sRet (eVar 2))))
def m_least_places : F := fnOf 4 2 b_least_places
def b_count_wishes : S :=
    (sSeq (sSet 3 (eC (.int 0)))
    (sSeq (sAsg2 (eC (.int 1)) 4 5)
    (sSeq (Mini.sFor (Mini.iRng1 (eVar 1)) (gSet 6)
    (sSeq (sSet 4 (eBin gDiv (eBin gMul (eVar 4) (eBin gSub (eVar 0) (eVar 6))) (eBin gAdd (eVar 6) (eC (.int 1)))))
    (sSeq (sSet 5 (eBin gMul (eVar 5) (eBin gSub (eVar 2) (eC (.int 1)))))
    (Mini.sAug 3 (intOp (fun i j => i + j)) (eBin gMul (eVar 4) (eVar 5))))))
    (sRet (eVar 3)))))
def m_count_wishes : F := fnOf 7 3 b_count_wishes
def b_check_sizes : S :=
    (sSeq (Mini.sIf (Mini.tNot (tTru (Mini.eCall m_is_between (aCons (eVar 0) (aCons (eC (.int 1)) (aCons (eC (.int (1000))) aNil))))))
    (sRaise 1 ("given" : PySem.Str) (eVar 0))
    sNx)
    (sSeq (Mini.sIf (Mini.tNot (tTru (Mini.eCall m_is_between (aCons (eVar 1) (aCons (eC (.int 1)) (aCons (eVar 0) aNil))))))
    (sRaise 2 ("given" : PySem.Str) (eVar 1))
    sNx)
    (Mini.sIf (Mini.tNot (tTru (Mini.eCall m_is_between (aCons (eVar 2) (aCons (eC (.int 2)) (aCons (eC (.int (10000))) aNil))))))
    (sRaise 0 ("given" : PySem.Str) (eVar 2))
    sNx)))
def m_check_sizes : F := fnOf 3 3 b_check_sizes
def b_least_needed : S :=
    (sSeq (sExpr (Mini.eCall m_check_sizes (aCons (eVar 0) (aCons (eVar 1) (aCons (eVar 2) aNil)))))
    (sSeq (Mini.sIf (Mini.tAnd (tBl (eBin gEq (eVar 2) (eC (.int 2)))) (tBl (eBin gEq (eVar 1) (eC (.int 1)))))
    (sRet (eC (.int 0)))
    sNx)
    (sSeq (sSet 3 (Mini.eCall m_count_wishes (aCons (eVar 0) (aCons (eVar 1) (aCons (eVar 2) aNil)))))
    (sSeq (sAsg (eTup (aCons (eC (.int 1)) (aCons (eC (.int 1)) aNil))) (gTupT [(gSet 4), (gSet 5)]))
    (sSeq (Mini.sWhile (tBl (eBin gGt (eVar 3) (eBin gMul (eBin gMul (eC (.int 2)) (eBin gSub (eBin gAdd (eVar 0) (eVar 4)) (eC (.int 1)))) (eVar 5)))) (sPar [4, 5] (aCons (eBin gAdd (eVar 4) (eC (.int 1))) (aCons (eBin gMul (eVar 5) (eVar 2)) aNil))) 1000000)
    (sRet (eVar 4)))))))
def m_least_needed : F := fnOf 6 3 b_least_needed
def b_enough : S :=
    (sSeq (sExpr (Mini.eCall m_check_sizes (aCons (eVar 0) (aCons (eVar 1) (aCons (eVar 2) aNil)))))
    (sRet (eBin gAdd (eBin gAdd (eVar 1) (Mini.eCall m_least_places (aCons (Mini.eCall m_choose (aCons (eVar 0) (aCons (eVar 1) aNil))) (aCons (eVar 2) aNil)))) (eC (.int 1)))))
def m_enough : F := fnOf 3 3 b_enough
def b_is_above : S :=
    (sSeq (sExpr (Mini.eCall m_check_sizes (aCons (eVar 0) (aCons (eVar 1) (aCons (eVar 2) aNil)))))
    (sSeq (sSet 3 (Mini.eCall m_choose (aCons (eVar 0) (aCons (eVar 1) aNil))))
    (sRet (eBin gGt (eBin gMul (eVar 2) (eVar 3)) (eBin gAdd (eBin gMul (eVar 1) (eVar 3)) (eBin gMul (eC (.int 2)) (eBin gSub (eBin gAdd (eVar 0) (eVar 1)) (eC (.int 1)))))))))
def m_is_above : F := fnOf 4 3 b_is_above
def b__law_cell : S :=
    (sRet (eIf (tBl (eBin gLt (eVar 1) (eFn fLen (aCons (eVar 0) aNil)))) (eBin gIx (eVar 0) (eVar 1)) (eBin gAdd (eBin gMul (eC (.int 6007)) (eVar 1)) (eBin gMod (eFn fInt (aCons (eFn fSum (aCons (eSl (eVar 0) oNo (oSo (eC (.int 1)))) aNil)) aNil)) (eC (.int 1000033))))))
def m__law_cell : F := fnOf 2 2 b__law_cell
def b__law_box : S :=
    (sRet (eLst (aCons (eFn fAbs (aCons (eVar 0) aNil)) (aCons (eBin gGe (eFn fAbs (aCons (eVar 0) aNil)) (eBin gPow (eC (.int 10)) (eC (.int 18)))) (aCons (eBin gMod (eFn fInt (aCons (eFn fAbs (aCons (eVar 0) aNil)) aNil)) (eC (.int 2147483629))) (aCons (eC (.int 0)) aNil))))))
def m__law_box : F := fnOf 1 1 b__law_box
def b__law_take : S :=
    (sSeq (Mini.sIf (Mini.tAnd (tTru (eBin gIx (eVar 0) (eC (.int 1)))) (tBl (eBin gGt (eBin gIx (eVar 0) (eC (.int 0))) (eC (.int 0)))))
    (sSeq (sSet 2 (eBin gMod (eFn fInt (aCons (eBin gIx (eVar 0) (eC (.int 0))) aNil)) (eVar 1)))
    (sSeq (sAsg (eBin gDiv (eBin gIx (eVar 0) (eC (.int 0))) (eVar 1)) (gSubL (eVar 0) (eC (.int 0))))
    (sRet (eVar 2))))
    sNx)
    (sSeq (sAsg (eBin gAdd (eBin gIx (eVar 0) (eC (.int 3))) (eC (.int 1))) (gSubL (eVar 0) (eC (.int 3))))
    (sSeq (sSet 3 (eBin gMod (eFn fInt (aCons (eBin gPow (eBin gAdd (eBin gAdd (eBin gIx (eVar 0) (eC (.int 2))) (eBin gMul (eC (.int 15485863)) (eBin gIx (eVar 0) (eC (.int 3))))) (eC (.int 179424673))) (eC (.int 5))) aNil)) (eC (.int 2147483647))))
    (sRet (eBin gMod (eFn fInt (aCons (eBin gDiv (eBin gMod (eFn fInt (aCons (eBin gPow (eBin gAdd (eBin gMul (eVar 3) (eC (.int 48271))) (eBin gMul (eC (.int 104729)) (eBin gIx (eVar 0) (eC (.int 3))))) (eC (.int 3))) aNil)) (eC (.int 2147483587))) (eC (.int 64))) aNil)) (eVar 1))))))
def m__law_take : F := fnOf 4 2 b__law_take
def b__law_choose : S :=
    (sSeq (sSet 2 (eC (.int 1)))
    (sSeq (Mini.sFor (Mini.iRng1 (eVar 1)) (gSet 3)
    (sSet 2 (eBin gDiv (eBin gMul (eVar 2) (eBin gSub (eVar 0) (eVar 3))) (eBin gAdd (eVar 3) (eC (.int 1))))))
    (sRet (eVar 2))))
def m__law_choose : F := fnOf 4 2 b__law_choose
def b__law_sizes : S :=
    (sSeq (sPar [2, 3, 4] (aCons (Mini.eCall m__law_take (aCons (eVar 0) (aCons (eC (.int 6)) aNil))) (aCons (Mini.eCall m__law_take (aCons (eVar 0) (aCons (eC (.int 6)) aNil))) (aCons (Mini.eCall m__law_take (aCons (eVar 0) (aCons (eC (.int 9)) aNil))) aNil))))
    (sSeq (sSet 5 (eBin gAdd (eC (.int 1)) (Mini.eCall m__law_take (aCons (eVar 0) (aCons (eBin gIx (eLst (aCons (eC (.int 5)) (aCons (eC (.int 8)) (aCons (eC (.int 31)) (aCons (eC (.int 60)) (aCons (eC (.int 16)) (aCons (eC (.int 3)) aNil))))))) (eVar 2)) aNil)))))
    (sSeq (sSet 6 (eBin gIx (eLst (aCons (eC (.int 1)) (aCons (eVar 5) (aCons (eBin gAdd (eC (.int 1)) (Mini.eCall m__law_take (aCons (eVar 0) (aCons (eVar 5) aNil)))) (aCons (eBin gAdd (eC (.int 1)) (Mini.eCall m__law_take (aCons (eVar 0) (aCons (eFn fMin2 (aCons (eC (.int 4)) (aCons (eVar 5) aNil))) aNil)))) (aCons (eFn fMax2 (aCons (eC (.int 1)) (aCons (eBin gSub (eVar 5) (eC (.int 1))) aNil))) (aCons (eC (.int 1)) aNil))))))) (eVar 3)))
    (sSeq (Mini.sIf (tTru (eVar 1))
    (sPar [5, 6] (aCons (eBin gIx (eLst (aCons (eC (.int 1000)) (aCons (eC (.int 999)) (aCons (eBin gAdd (eC (.int 200)) (Mini.eCall m__law_take (aCons (eVar 0) (aCons (eC (.int 801)) aNil)))) aNil)))) (Mini.eCall m__law_take (aCons (eVar 0) (aCons (eC (.int 3)) aNil)))) (aCons (eBin gAdd (eC (.int 1)) (Mini.eCall m__law_take (aCons (eVar 0) (aCons (eC (.int 6)) aNil)))) aNil)))
    sNx)
    (sSeq (sSet 7 (eBin gAdd (eVar 6) (eBin gDiv (eBin gMul (eC (.int 2)) (eBin gSub (eBin gAdd (eVar 5) (eVar 6)) (eC (.int 1)))) (Mini.eCall m__law_choose (aCons (eVar 5) (aCons (eVar 6) aNil))))))
    (sSeq (sSet 8 (eLst (aCons (eVar 7) (aCons (eBin gAdd (eVar 7) (eC (.int 1))) (aCons (eVar 7) (aCons (eBin gSub (eVar 7) (eC (.int 1))) (aCons (eBin gAdd (eVar 7) (eC (.int 1))) (aCons (eVar 7) (aCons (eBin gAdd (eC (.int 2)) (Mini.eCall m__law_take (aCons (eVar 0) (aCons (eC (.int 9999)) aNil)))) (aCons (eBin gAdd (eC (.int 2)) (Mini.eCall m__law_take (aCons (eVar 0) (aCons (eC (.int 6)) aNil)))) (aCons (eC (.int 10000)) aNil)))))))))))
    (sSeq (sSet 9 (eBin gIx (eVar 8) (eVar 4)))
    (sRet (eTup (aCons (eVar 5) (aCons (eVar 6) (aCons (eFn fMax2 (aCons (eC (.int 2)) (aCons (eFn fMin2 (aCons (eC (.int 10000)) (aCons (eVar 9) aNil))) aNil))) aNil))))))))))))
def m__law_sizes : F := fnOf 10 2 b__law_sizes
def b__law_due : S :=
    (sSeq (sAsg (eVar 0) (gTupT [(gSet 1), (gSet 2), (gSet 3)]))
    (sRet (eBin gGt (eBin gMul (eBin gSub (eVar 3) (eVar 2)) (Mini.eCall m__law_choose (aCons (eVar 1) (aCons (eVar 2) aNil)))) (eBin gMul (eC (.int 2)) (eBin gSub (eBin gAdd (eVar 1) (eVar 2)) (eC (.int 1)))))))
def m__law_due : F := fnOf 4 1 b__law_due
def b__law_lines_lack : S :=
    (sSeq (sAsg (eVar 0) (gTupT [(gSet 1), (gSet 2), (gSet 3)]))
    (sSeq (sAsg (eTup (aCons (eC (.int 0)) (aCons (eC (.int 1)) (aCons (eC (.int 1)) (aCons (eC (.int 1)) aNil))))) (gTupT [(gSet 4), (gSet 5), (gSet 6), (gSet 7)]))
    (sSeq (Mini.sFor (Mini.iRng1 (eVar 2)) (gSet 8)
    (sSeq (sSet 5 (eBin gDiv (eBin gMul (eVar 5) (eBin gSub (eVar 1) (eVar 8))) (eBin gAdd (eVar 8) (eC (.int 1)))))
    (sSeq (sSet 6 (eBin gMul (eVar 6) (eBin gSub (eVar 3) (eC (.int 1)))))
    (sSeq (sSet 4 (eBin gAdd (eVar 4) (eBin gMul (eVar 5) (eVar 6))))
    (Mini.sIf (tBl (eBin gGt (eVar 8) (eC (.int 0))))
    (sSet 7 (eBin gMul (eVar 7) (eVar 3)))
    sNx)))))
    (sRet (eBin gGt (eVar 4) (eBin gMul (eBin gMul (eC (.int 2)) (eBin gSub (eBin gAdd (eVar 1) (eVar 2)) (eC (.int 1)))) (eVar 7)))))))
def m__law_lines_lack : F := fnOf 9 1 b__law_lines_lack
def b__law_odd : S :=
    (sRet (eBin gIx (eLst (aCons (eBin gSub (eVar 1) (eC (.int 1))) (aCons (eBin gAdd (eVar 2) (eC (.int 1))) (aCons (eUn gNeg (eVar 2)) (aCons (eC (.bl true)) (aCons (eC (.bl false)) (aCons (eC .non) (aCons (eC (.str ("2" : PySem.Str))) (aCons (eLst (aCons (eC (.int 2)) aNil)) (aCons (eTup (aCons (eC (.int 2)) aNil)) (aCons (eBin gPow (eC (.int 10)) (eC (.int 30))) (aCons eDic0 (aCons (eBin gAdd (eVar 2) (eC (.int 5003))) aNil))))))))))))) (eVar 0)))
def m__law_odd : F := fnOf 3 3 b__law_odd
def b__law_asked : S :=
    (sTry 3 5 (sSeq (Mini.sIf (tBl (eBin gEq (eVar 0) (eC (.int 0))))
    (sRet (eLst (aCons (eC (.str ("told" : PySem.Str))) (aCons (Mini.eCall m_is_above (aCons (eVar 1) (aCons (eVar 2) (aCons (eVar 3) aNil)))) aNil))))
    sNx)
    (sRet (eLst (aCons (eC (.str ("told" : PySem.Str))) (aCons (Mini.eCallK m_is_above [2, 1, 0] aNil (aN 3 (aCons (eVar 3) (aCons (eVar 2) (aCons (eVar 1) aNil))))) aNil))))) [{ m := fun c => decide (c = 1), i := some 4, s := fun dn => (sRet (eLst (aCons (eC (.str ("records" : PySem.Str))) (aCons (eXf dn ("given" : PySem.Str)) aNil)))) },
    { m := fun c => decide (c = 2), i := some 4, s := fun dn => (sRet (eLst (aCons (eC (.str ("changes" : PySem.Str))) (aCons (eXf dn ("given" : PySem.Str)) aNil)))) },
    { m := fun c => decide (c = 0), i := some 4, s := fun dn => (sRet (eLst (aCons (eC (.str ("contents" : PySem.Str))) (aCons (eXf dn ("given" : PySem.Str)) aNil)))) }])
def m__law_asked : F := fnOf 5 4 b__law_asked
def b__law_same : S :=
    (sSeq (Mini.sIf (tTru (eUn (gIsi .tList) (eVar 1)))
    (sExpr (eApp (eVar 1) (eC (.str ("more" : PySem.Str)))))
    sNx)
    (sSeq (Mini.sIf (tTru (eUn (gIsi .tDict) (eVar 1)))
    (sDput (eVar 1) (eC (.str ("more" : PySem.Str))) (eC (.int 1)))
    sNx)
    (sRet (eBin gEq (eFn fRepr (aCons (eVar 0) aNil)) (eFn fRepr (aCons (eVar 1) aNil))))))
def m__law_same : F := fnOf 2 2 b__law_same
def b__law_refused_right : S :=
    (sSeq (Mini.sFor (iSeq (eLst (aCons (eC (.int 0)) (aCons (eC (.int 1)) (aCons (eC (.int 0)) (aCons (eC (.int 1)) aNil)))))) (gSet 2)
    (sSeq (sAsg (eTup (aCons (eBin gAdd (eC (.int 1)) (Mini.eCall m__law_take (aCons (eVar 0) (aCons (eC (.int 7)) aNil)))) (aCons (eFn fList (aCons (eVar 1) aNil)) aNil))) (gTupT [(gSet 6), (gSet 7)]))
    (sSeq (Mini.sFor (Mini.iRng1 (eC (.int 3))) (gSet 3)
    (sSeq (sSet 8 (Mini.eCall m__law_take (aCons (eVar 0) (aCons (eC (.int 12)) aNil))))
    (Mini.sIf (tBl (eBin gEq (eBin gMod (eFn fInt (aCons (eBin gDiv (eVar 6) (eBin gIx (eLst (aCons (eC (.int 1)) (aCons (eC (.int 2)) (aCons (eC (.int 4)) aNil)))) (eVar 3))) aNil)) (eC (.int 2))) (eC (.int 1))))
    (sAsg (Mini.eCall m__law_odd (aCons (eVar 8) (aCons (eBin gIx (eLst (aCons (eC (.int 1)) (aCons (eC (.int 1)) (aCons (eC (.int 2)) aNil)))) (eVar 3)) (aCons (eBin gIx (eLst (aCons (eC (.int 1000)) (aCons (eBin gIx (eVar 1) (eC (.int 0))) (aCons (eC (.int 10000)) aNil)))) (eVar 3)) aNil)))) (gSubL (eVar 7) (eVar 3)))
    sNx)))
    (sSeq (sSet 4 (eBin gIx (eLc [3] (Mini.iRng1 (eC (.int 3))) (gSet 3) (tBl (eBin gEq (eBin gMod (eFn fInt (aCons (eBin gDiv (eVar 6) (eBin gIx (eLst (aCons (eC (.int 1)) (aCons (eC (.int 2)) (aCons (eC (.int 4)) aNil)))) (eVar 3))) aNil)) (eC (.int 2))) (eC (.int 1)))) (eVar 3)) (eC (.int 0))))
    (sSeq (sSet 5 (Mini.eCall m__law_asked (aCons (eVar 2) (aCons (eBin gIx (eVar 7) (eC (.int 0))) (aCons (eBin gIx (eVar 7) (eC (.int 1))) (aCons (eBin gIx (eVar 7) (eC (.int 2))) aNil))))))
    (Mini.sIf (Mini.tOr (tBl (eBin gNe (eBin gIx (eVar 5) (eC (.int 0))) (eBin gIx (eLst (aCons (eC (.str ("records" : PySem.Str))) (aCons (eC (.str ("changes" : PySem.Str))) (aCons (eC (.str ("contents" : PySem.Str))) aNil)))) (eVar 4)))) (Mini.tNot (tTru (Mini.eCall m__law_same (aCons (eBin gIx (eVar 5) (eC (.int 1))) (aCons (eBin gIx (eVar 7) (eVar 4)) aNil))))))
    (sRet (eC (.bl false)))
    sNx))))))
    (sRet (eC (.bl true))))
def m__law_refused_right : F := fnOf 9 2 b__law_refused_right
def b__law_right : S :=
    (sSeq (sAsg (eVar 1) (gTupT [(gSet 2), (gSet 3), (gSet 4)]))
    (sSeq (sSet 5 (Mini.eCall m__law_due (aCons (eVar 1) aNil)))
    (sSeq (Mini.sFor (iSeq (eLst (aCons (eC (.int 0)) (aCons (eC (.int 1)) aNil)))) (gSet 6)
    (sSeq (sSet 7 (Mini.eCall m__law_asked (aCons (eVar 6) (aCons (eVar 2) (aCons (eVar 3) (aCons (eVar 4) aNil))))))
    (Mini.sIf (Mini.tOr (tBl (eBin gNe (eBin gIx (eVar 7) (eC (.int 0))) (eC (.str ("told" : PySem.Str))))) (Mini.tOr (Mini.tNot (tTru (eUn (gIsi .tBool) (eBin gIx (eVar 7) (eC (.int 1)))))) (tBl (eBin gNe (eBin gIx (eVar 7) (eC (.int 1))) (eVar 5)))))
    (sRet (eC (.bl false)))
    sNx)))
    (sSeq (sSet 8 (Mini.eCall m_least_needed (aCons (eVar 2) (aCons (eVar 3) (aCons (eVar 4) aNil)))))
    (sSeq (Mini.sIf (Mini.tOr (tBl (eBin gGt (eVar 8) (Mini.eCall m_enough (aCons (eVar 2) (aCons (eVar 3) (aCons (eVar 4) aNil)))))) (Mini.tAnd (tTru (eVar 5)) (tBl (eBin gLe (eVar 8) (eVar 3)))))
    (sRet (eC (.bl false)))
    sNx)
    (sSeq (Mini.sIf (Mini.tAnd (Mini.tOr (tBl (eBin gGt (eVar 4) (eC (.int 2)))) (tBl (eBin gGt (eVar 3) (eC (.int 1))))) (tBl (eBin gNe (eBin gGt (eVar 8) (eVar 3)) (Mini.eCall m__law_lines_lack (aCons (eVar 1) aNil)))))
    (sRet (eC (.bl false)))
    sNx)
    (sSeq (Mini.sIf (tBl (eBin gNe (Mini.eCall m_is_above (aCons (eVar 2) (aCons (eC (.int 1)) (aCons (eVar 4) aNil)))) (eBin gGt (eVar 4) (eC (.int 3)))))
    (sRet (eC (.bl false)))
    sNx)
    (sRet (eBin gEq (Mini.eCall m_least_needed (aCons (eVar 2) (aCons (eC (.int 1)) (aCons (eVar 4) aNil)))) (eBin gIx (eLst (aCons (eC (.int 0)) (aCons (eC (.int 0)) (aCons (eC (.int 0)) (aCons (eC (.int 1)) (aCons (eC (.int 2)) aNil)))))) (eFn fMin2 (aCons (eC (.int 4)) (aCons (eVar 4) aNil)))))))))))))
def m__law_right : F := fnOf 9 2 b__law_right
def b__law_bounds_right : S :=
    (sSeq (Mini.sFor (Mini.iRng1 (eC (.int 2))) (gSet 0)
    (sSeq (Mini.sIf (Mini.tOr (tBl (eBin gNe (Mini.eCall m__law_asked (aCons (eVar 0) (aCons (eC (.int 1000)) (aCons (eC (.int 1)) (aCons (eC (.int 10000)) aNil))))) (eLst (aCons (eC (.str ("told" : PySem.Str))) (aCons (eC (.bl true)) aNil))))) (tBl (eBin gNe (Mini.eCall m__law_asked (aCons (eVar 0) (aCons (eC (.int 9)) (aCons (eC (.int 10)) (aCons (eC (.int 2)) aNil))))) (eLst (aCons (eC (.str ("changes" : PySem.Str))) (aCons (eC (.int 10)) aNil))))))
    (sRet (eC (.bl false)))
    sNx)
    (sSeq (Mini.sIf (Mini.tOr (tBl (eBin gNe (Mini.eCall m__law_asked (aCons (eVar 0) (aCons (eC (.int 1001)) (aCons (eC (.int 1)) (aCons (eC (.int 10000)) aNil))))) (eLst (aCons (eC (.str ("records" : PySem.Str))) (aCons (eC (.int 1001)) aNil))))) (tBl (eBin gNe (Mini.eCall m__law_asked (aCons (eVar 0) (aCons (eC (.int 1000)) (aCons (eC (.int 1)) (aCons (eC (.int 3)) aNil))))) (eLst (aCons (eC (.str ("told" : PySem.Str))) (aCons (eC (.bl false)) aNil))))))
    (sRet (eC (.bl false)))
    sNx)
    (Mini.sIf (Mini.tOr (tBl (eBin gNe (Mini.eCall m__law_asked (aCons (eVar 0) (aCons (eC (.int 1000)) (aCons (eC (.int 1)) (aCons (eC (.int 10001)) aNil))))) (eLst (aCons (eC (.str ("contents" : PySem.Str))) (aCons (eC (.int 10001)) aNil))))) (tBl (eBin gNe (Mini.eCall m__law_asked (aCons (eVar 0) (aCons (eC (.int 9)) (aCons (eC (.int 9)) (aCons (eC (.int 2)) aNil))))) (eLst (aCons (eC (.str ("told" : PySem.Str))) (aCons (eC (.bl false)) aNil))))))
    (sRet (eC (.bl false)))
    sNx))))
    (sRet (eC (.bl true))))
def m__law_bounds_right : F := fnOf 1 0 b__law_bounds_right
def b_law : S :=
    (sSeq (Mini.sFor (Mini.iRng1 (eFn fMax2 (aCons (eC (.int 1)) (aCons (eFn fMin2 (aCons (eC (.int 6)) (aCons (eFn fLen (aCons (eVar 0) aNil)) aNil))) aNil)))) (gSet 1)
    (sSeq (sSet 2 (Mini.eCall m__law_box (aCons (Mini.eCall m__law_cell (aCons (eVar 0) (aCons (eVar 1) aNil))) aNil)))
    (sSeq (sSet 3 (Mini.eCall m__law_take (aCons (eVar 2) (aCons (eC (.int 30)) aNil))))
    (sSeq (sSet 4 (eLst (aCons (Mini.eCall m__law_sizes (aCons (eVar 2) (aCons (eAnd (eBin gEq (eVar 3) (eC (.int 0))) (eBin gEq (eVar 1) (eC (.int 0)))) aNil))) (aCons (Mini.eCall m__law_sizes (aCons (eVar 2) (aCons (eC (.bl false)) aNil))) aNil))))
    (Mini.sFor (iSeq (eLst (aCons (eC (.int 0)) (aCons (eC (.int 1)) (aCons (eC (.int 0)) aNil))))) (gSet 5)
    (Mini.sIf (Mini.tOr (Mini.tNot (tTru (Mini.eCall m__law_right (aCons (eVar 2) (aCons (eBin gIx (eVar 4) (eVar 5)) aNil))))) (Mini.tNot (tTru (Mini.eCall m__law_refused_right (aCons (eVar 2) (aCons (eBin gIx (eVar 4) (eVar 5)) aNil))))))
    (sRet (eC (.bl false)))
    sNx))))))
    (sRet (Mini.eCall m__law_bounds_right aNil)))
def m_law : F := fnOf 6 1 b_law
end K31
set_option Elab.async false
set_option autoImplicit false
set_option linter.all false
set_option maxRecDepth 100000
namespace K31
open Mini
/-- the box that is drawn from -/
def Box (h : MH) (b : Nat) (c : Int) : Prop := ∃ (z : Int) (f : Bool) (m k : Int), h[b]? = some (.lst [.int z, .bl f, .int m, .int k]) ∧ 0 ≤ m ∧ m < 2147483629 ∧ 0 ≤ k ∧ k ≤ c
theorem take_spec {h : MH} {b : Nat} {c many : Int} {Q : W → MH → Prop} {X : XQ} (B : Box h b c) (hm : 0 < many) (hm2 : many ≤ 100000) (hc : c < 1000000)
    (q : ∀ d h', 0 ≤ d → d < many → Box h' b (c + 1) → Ch b h h' → h'.length = h.length → Q (.int d) h') : (m__law_take [.ref b, .int many] h).wp Q X := by
  obtain ⟨z, f, m, k, e, m0, m1, k0, k1⟩ := B
  unfold m__law_take
  rw [wp_fn]
  have hb := lt_of_at e
  have dk : divOk z many = true := div_ok hm (Nat.lt_of_lt_of_le (by omega : _ < 2 ^ 64) (Nat.pow_le_pow_right (by decide) (by decide)))
  have tail : ∀ d h', 0 ≤ d → d < many → (∃ z', h' = h.set b (.lst [.int z', .bl f, .int m, .int k])) ∨ h' = h.set b (.lst [.int z, .bl f, .int m, .int (k + 1)]) → Q (.int d) h' := by
    rintro d h' d0 d1 hh
    rcases hh with ⟨z', rfl⟩ | rfl
    · exact q d _ d0 d1 ⟨z', f, m, k, set_at e, m0, m1, k0, by omega⟩ (Ch.set _ _ _) (by simp)
    · exact q d _ d0 d1 ⟨z, f, m, k + 1, set_at e, m0, m1, by omega, by omega⟩ (Ch.set _ _ _) (by simp)
  have p1 : powOk (m + 15485863 * (k + 1) + 179424673) 5 = true := pow_ok (by omega) (by omega) (by simp only [two64]; omega)
  simp -implicitDefEqProofs [b__law_take, o_ix (seq_lst e), o_put e, o_ix (seq_lst (set_at' hb)), dk, hm, p1]
  have rest : mulOk 15485863 (k + 1) = true ∧ mulOk ((m + 15485863 * (k + 1) + 179424673) ^ 5 % 2147483647) 48271 = true ∧ mulOk 104729 (k + 1) = true ∧
      powOk ((m + 15485863 * (k + 1) + 179424673) ^ 5 % 2147483647 * 48271 + 104729 * (k + 1)) 3 = true ∧
        divOk (((m + 15485863 * (k + 1) + 179424673) ^ 5 % 2147483647 * 48271 + 104729 * (k + 1)) ^ 3 % 2147483587) 64 = true ∧
          Q (W.int (((m + 15485863 * (k + 1) + 179424673) ^ 5 % 2147483647 * 48271 + 104729 * (k + 1)) ^ 3 % 2147483587 / 64 % many))
            (h.set b (.lst [.int z, .bl f, .int m, .int (k + 1)])) := by
    generalize (m + 15485863 * (k + 1) + 179424673) ^ 5 = y
    have y0 := Int.emod_nonneg y (by decide : (2147483647 : Int) ≠ 0)
    have y1 := Int.emod_lt_of_pos y (by decide : (0 : Int) < 2147483647)
    refine ⟨mul_ok (by decide), mul_ok2 (by decide), mul_ok (by decide), pow_ok (by omega) (by omega) (by simp only [two64]; omega), div_ok (by decide) (Nat.lt_of_lt_of_le (by decide : _ < 2 ^ 64) (Nat.pow_le_pow_right (by decide) (by decide))), ?_⟩
    exact tail _ _ (Int.emod_nonneg _ (by omega)) (Int.emod_lt_of_pos _ hm) (.inr rfl)
  split
  · split
    · exact tail _ _ (Int.emod_nonneg _ (by omega)) (Int.emod_lt_of_pos _ hm) (.inl ⟨_, rfl⟩)
    · exact rest
  · exact rest
theorem box_spec {h : MH} {g : Int} {Q : W → MH → Prop} {X : XQ} (q : ∀ h', Box h' h.length 0 → Old h h' → h'.length = h.length + 1 → Q (.ref h.length) h') : (m__law_box [.int g] h).wp Q X := by
  unfold m__law_box
  rw [wp_fn]
  simp -implicitDefEqProofs [b__law_box]
  exact ⟨by decide, q _ ⟨_, _, _, _, new_at h _, Int.emod_nonneg _ (by decide), Int.emod_lt_of_pos _ (by decide), Int.le_refl _, Int.le_refl _⟩ (Old.app _ _) (by simp)⟩
/-- the script's cell -/
def Scr (h : MH) (s : Nat) (ns : List Int) : Prop := h[s]? = some (.fz (ns.map .int)) ∨ h[s]? = some (.cl (ns.map .int))
theorem Scr.seq {h : MH} {s : Nat} {ns : List Int} (S : Scr h s ns) : seqAt h s = some (ns.map .int) := by
  rcases S with e | e
  · exact seq_fz e
  · exact seq_cl e
theorem Scr.lt {h : MH} {s : Nat} {ns : List Int} (S : Scr h s ns) : s < h.length := by
  rcases S with e | e <;> exact lt_of_at e
theorem ints_map (ns : List Int) : intsOf (ns.map .int) = some ns := by
  induction ns with
  | nil => rfl
  | cons n ns ih => show (intsOf (ns.map .int)).map (n :: ·) = _; rw [ih]; rfl
theorem cut_map (ns : List Int) (lo hi : Option Int) : ∃ ms : List Int, cut (ns.map W.int) lo hi = ms.map .int := ⟨_, by unfold cut; rw [← List.map_drop, ← List.map_take]⟩
theorem Scr.slice {h : MH} {s : Nat} {ns : List Int} (S : Scr h s ns) (lo hi : Option Int) : ∃ ms : List Int, slice (.ref s) lo hi h = .ok (.ref h.length) (h ++ [.lst (ms.map .int)]) := by
  obtain ⟨ms, e⟩ := cut_map ns lo hi
  refine ⟨ms, ?_⟩
  rcases S with q | q <;> (unfold Mini.slice; simp only [q, e])
theorem sum_ints {h : MH} {n : Nat} {ms : List Int} (e : h[n]? = some (.lst (ms.map .int))) : fSum [.ref n] h = .ok (.int ms.sum) h := by
  unfold fSum
  simp only [e, ints_map]
theorem cell_spec {h : MH} {s : Nat} {k : Nat} {ns : List Int} {Q : W → MH → Prop} {X : XQ} (S : Scr h s ns) (hk : k < 1000) (q : ∀ v h', Old h h' → Q (.int v) h') : (m__law_cell [.ref s, .int k] h).wp Q X := by
  unfold m__law_cell
  rw [wp_fn]
  obtain ⟨ms, e⟩ := S.slice none (some 1)
  simp -implicitDefEqProofs [b__law_cell, o_len S.seq, eSl, e, sum_ints (new_at h _), o_ix S.seq]
  split
  · rename_i c
    have c' : k < ns.length := by omega
    rw [item_nn (w := .int ns[k]) k (by simp [c'])]
    exact q _ _ (Old.refl _)
  · exact ⟨mul_ok (by decide), q _ _ (Old.app _ _)⟩
end K31
set_option Elab.async false
set_option autoImplicit false
set_option linter.all false
/-! sets of places, and words with few changes: plain numbers -/
namespace Cnt
/-- sets of k among n -/
def C : Nat → Nat → Nat
  | _, 0 => 1
  | 0, _ + 1 => 0
  | n + 1, k + 1 => C n k + C n (k + 1)
theorem C_zero (n : Nat) : C n 0 = 1 := by cases n <;> rfl
theorem C_step (n : Nat) : ∀ k, C n (k + 1) * (k + 1) + k * C n k = n * C n k := by
  induction n with
  | zero => intro k; cases k <;> simp [C]
  | succ n ih =>
    intro k
    cases k with
    | zero =>
      have := ih 0
      simp [C, C_zero] at this ⊢
      omega
    | succ k =>
      have h1 := ih k
      have h2 := ih (k + 1)
      simp only [C]
      grind
theorem C_top (n : Nat) : C n n = 1 ∧ C n (n + 1) = 0 := by
  have none : ∀ n k, n < k → C n k = 0 := by
    intro n
    induction n with
    | zero => intro k hk; cases k with
      | zero => omega
      | succ k => rfl
    | succ n ih => intro k hk; cases k with
      | zero => omega
      | succ k => show C n k + C n (k + 1) = 0; rw [ih k (by omega), ih (k + 1) (by omega)]
  refine ⟨?_, none _ _ (Nat.lt_succ_self _)⟩
  induction n with
  | zero => rfl
  | succ n ih => show C n n + C n (n + 1) = 1; rw [ih, none n (n + 1) (Nat.lt_succ_self _)]
theorem C_pos : ∀ n k, k ≤ n → 0 < C n k := by
  intro n
  induction n with
  | zero => intro k hk; rw [Nat.le_zero.mp hk]; exact Nat.one_pos
  | succ n ih => intro k hk; cases k with
    | zero => exact Nat.one_pos
    | succ k => exact Nat.add_pos_left (ih k (by omega)) _
theorem C_le : ∀ n k, C n k ≤ 2 ^ n := by
  intro n
  induction n with
  | zero => intro k; cases k with
    | zero => exact Nat.le_refl _
    | succ k => exact Nat.zero_le _
  | succ n ih => intro k; cases k with
    | zero => exact Nat.one_le_two_pow
    | succ k =>
      show C n k + C n (k + 1) ≤ 2 ^ (n + 1)
      have := ih k
      have := ih (k + 1)
      rw [Nat.pow_succ]
      omega
theorem C_le_pow : ∀ n k, C n k ≤ n ^ k ∨ n < k := by
  intro n k
  by_cases hk : n < k
  · exact .inr hk
  refine .inl ?_
  induction k with
  | zero => rw [C_zero]; exact Nat.le_refl _
  | succ k ih =>
    have h1 := ih (by omega)
    have h2 := C_step n k
    have h3 : C n (k + 1) ≤ n * C n k := by
      have : C n (k + 1) ≤ C n (k + 1) * (k + 1) := Nat.le_mul_of_pos_right _ (Nat.succ_pos _)
      omega
    calc C n (k + 1) ≤ n * C n k := h3
      _ ≤ n * n ^ k := Nat.mul_le_mul_left _ h1
      _ = n ^ (k + 1) := by rw [Nat.pow_succ, Nat.mul_comm]
/-- the exact division of one step -/
theorem C_div (n k : Nat) (hk : k ≤ n) : (C n k : Int) * ((n : Int) - k) / ((k : Int) + 1) = C n (k + 1) := by
  have h := C_step n k
  have h' : (C n k : Int) * ((n : Int) - k) = (C n (k + 1) : Int) * ((k : Int) + 1) := by
    have : (C n (k + 1) : Int) * ((k : Int) + 1) + k * C n k = n * C n k := by exact_mod_cast h
    rw [Int.mul_sub, Int.mul_comm (C n k : Int) n, Int.mul_comm (C n k : Int) k]
    omega
  rw [h']
  exact Int.mul_ediv_cancel _ (by omega)
/-- words with 1 to t changes, q other contents each -/
def Sm (n q : Nat) : Nat → Nat
  | 0 => 0
  | t + 1 => Sm n q t + C n (t + 1) * q ^ (t + 1)
theorem S_step (n q : Nat) : ∀ t, Sm (n + 1) q (t + 1) + 1 = Sm n q (t + 1) + 1 + q * (Sm n q t + 1) := by
  intro t
  induction t with
  | zero => simp only [Sm, C, C_zero]; grind
  | succ t ih =>
    show Sm (n + 1) q (t + 1) + C (n + 1) (t + 2) * q ^ (t + 2) + 1 = Sm n q (t + 1) + C n (t + 2) * q ^ (t + 2) + 1 + q * (Sm n q t + C n (t + 1) * q ^ (t + 1) + 1)
    have e : C (n + 1) (t + 2) = C n (t + 1) + C n (t + 2) := rfl
    rw [e]
    have e2 : q ^ (t + 2) = q * q ^ (t + 1) := by rw [Nat.pow_succ, Nat.mul_comm]
    rw [e2]
    grind
theorem S_le (q : Nat) : ∀ n t, t ≤ n → Sm n q t + 1 ≤ C n t * (q + 1) ^ t := by
  intro n
  induction n with
  | zero => intro t ht; rw [Nat.le_zero.mp ht]; exact Nat.le_refl _
  | succ n ih =>
    intro t ht
    cases t with
    | zero => show 0 + 1 ≤ 1 * 1; omega
    | succ t =>
      rw [S_step]
      have i2 := ih t (by omega)
      have e : C (n + 1) (t + 1) = C n t + C n (t + 1) := rfl
      rw [e]
      have pw : (q + 1) ^ (t + 1) = q * (q + 1) ^ t + (q + 1) ^ t := by rw [Nat.pow_succ]; grind
      have i3 : q * (Sm n q t + 1) ≤ q * (C n t * (q + 1) ^ t) := Nat.mul_le_mul_left _ i2
      by_cases c : t + 1 ≤ n
      · have i1 := ih (t + 1) c
        have : (C n t + C n (t + 1)) * (q + 1) ^ (t + 1) = C n t * (q + 1) ^ t + q * (C n t * (q + 1) ^ t) + C n (t + 1) * (q + 1) ^ (t + 1) := by
          rw [Nat.add_mul]
          conv => lhs; lhs; rw [pw]
          grind
        rw [this]
        omega
      · have : t = n := by omega
        subst this
        have z : Sm t q (t + 1) = Sm t q t := by show Sm t q t + C t (t + 1) * _ = _; rw [(C_top t).2]; omega
        rw [z, (C_top t).1, (C_top t).2] at *
        rw [pw]
        grind
theorem S_top (n q t : Nat) (ht : 0 < t) : C n t * q ^ t ≤ Sm n q t := by
  cases t with
  | zero => omega
  | succ t => exact Nat.le_add_left _ _
/-- Bernoulli -/
theorem bern (q : Nat) : ∀ t, (q + 1) ^ (t + 1) ≤ q ^ (t + 1) + (t + 1) * (q + 1) ^ t := by
  intro t
  induction t with
  | zero => simp
  | succ t ih =>
    have e1 : (q + 1) ^ (t + 2) = q * (q + 1) ^ (t + 1) + (q + 1) ^ (t + 1) := by rw [Nat.pow_succ]; grind
    have e2 : q ^ (t + 2) = q * q ^ (t + 1) := by rw [Nat.pow_succ, Nat.mul_comm]
    have h1 : q * (q + 1) ^ (t + 1) ≤ q * (q ^ (t + 1) + (t + 1) * (q + 1) ^ t) := Nat.mul_le_mul_left _ ih
    have e3 : (q + 1) ^ (t + 1) = q * (q + 1) ^ t + (q + 1) ^ t := by rw [Nat.pow_succ]; grind
    have h2 : q * (q + 1) ^ t ≤ (q + 1) ^ (t + 1) := by omega
    have h3 : (t + 1) * (q * (q + 1) ^ t) ≤ (t + 1) * (q + 1) ^ (t + 1) := Nat.mul_le_mul_left _ h2
    rw [e1, e2]
    have e4 : q * (q ^ (t + 1) + (t + 1) * (q + 1) ^ t) = q * q ^ (t + 1) + (t + 1) * (q * (q + 1) ^ t) := by grind
    have e5 : (t + 1 + 1) * (q + 1) ^ (t + 1) = (t + 1) * (q + 1) ^ (t + 1) + (q + 1) ^ (t + 1) := by grind
    omega
/-- what s lines can hold -/
def f (n m s : Nat) : Nat := 2 * (n + s - 1) * m ^ (s - 1)
theorem f_mono {n m s t : Nat} (hm : 0 < m) (h0 : 0 < s) (h : s ≤ t) : f n m s ≤ f n m t := by
  unfold f
  exact Nat.mul_le_mul (by omega) (Nat.pow_le_pow_right hm (by omega))
theorem due_more {n q t : Nat} (ht : 0 < t) (hn : t ≤ n) (d : 2 * (n + t - 1) + t * C n t < (q + 1) * C n t) : f n (q + 1) t < Sm n q t := by
  obtain ⟨t, rfl⟩ : ∃ u, t = u + 1 := ⟨t - 1, by omega⟩
  have h1 := S_top n q (t + 1) ht
  have h2 := bern q t
  have h3 : C n (t + 1) * (q + 1) ^ (t + 1) ≤ C n (t + 1) * (q ^ (t + 1) + (t + 1) * (q + 1) ^ t) := Nat.mul_le_mul_left _ h2
  have hp : 0 < (q + 1) ^ t := Nat.pow_pos (Nat.succ_pos q)
  have h4 : (2 * (n + (t + 1) - 1) + (t + 1) * C n (t + 1)) * (q + 1) ^ t < ((q + 1) * C n (t + 1)) * (q + 1) ^ t := Nat.mul_lt_mul_of_pos_right d hp
  have e1 : ((q + 1) * C n (t + 1)) * (q + 1) ^ t = C n (t + 1) * (q + 1) ^ (t + 1) := by rw [Nat.pow_succ]; grind
  have e2 : (2 * (n + (t + 1) - 1) + (t + 1) * C n (t + 1)) * (q + 1) ^ t = 2 * (n + (t + 1) - 1) * (q + 1) ^ t + C n (t + 1) * ((t + 1) * (q + 1) ^ t) := by grind
  have e3 : C n (t + 1) * (q ^ (t + 1) + (t + 1) * (q + 1) ^ t) = C n (t + 1) * q ^ (t + 1) + C n (t + 1) * ((t + 1) * (q + 1) ^ t) := by rw [Nat.mul_add]
  unfold f
  show 2 * (n + (t + 1) - 1) * (q + 1) ^ (t + 1 - 1) < _
  rw [Nat.add_sub_cancel]
  omega
theorem room_end {n q t L : Nat} (ht : t ≤ n) (hn : 0 < n) (hL : C n t ≤ (q + 1) ^ L) : Sm n q t ≤ f n (q + 1) (t + L + 1) := by
  have h1 := S_le q n t ht
  have h2 : C n t * (q + 1) ^ t ≤ (q + 1) ^ L * (q + 1) ^ t := Nat.mul_le_mul_right _ hL
  have e : (q + 1) ^ L * (q + 1) ^ t = (q + 1) ^ (t + L) := by rw [Nat.add_comm t L, Nat.pow_add]
  have h3 : 1 * (q + 1) ^ (t + L) ≤ 2 * (n + (t + L + 1) - 1) * (q + 1) ^ (t + L) := Nat.mul_le_mul_right _ (by omega)
  unfold f
  show _ ≤ 2 * (n + (t + L + 1) - 1) * (q + 1) ^ (t + L + 1 - 1)
  rw [Nat.add_sub_cancel]
  omega
theorem S_small {n q t : Nat} (ht : t ≤ n) (hn : n ≤ 1000) (hq : q + 1 ≤ 2 ^ 14) : Sm n q t < 2 ^ 15000 := by
  have h1 := S_le q n t ht
  have h2 := C_le n t
  have h3 : (q + 1) ^ t ≤ (2 ^ 14) ^ t := Nat.pow_le_pow_left hq t
  have h4 : (2 ^ 14) ^ t ≤ (2 ^ 14) ^ 1000 := Nat.pow_le_pow_right (by decide) (by omega)
  have h5 : C n t ≤ 2 ^ 1000 := Nat.le_trans h2 (Nat.pow_le_pow_right (by decide) hn)
  have h6 : C n t * (q + 1) ^ t ≤ 2 ^ 1000 * (2 ^ 14) ^ 1000 := Nat.mul_le_mul h5 (Nat.le_trans h3 h4)
  have e : 2 ^ 1000 * (2 ^ 14) ^ 1000 = 2 ^ 15000 := by rw [← Nat.pow_mul, ← Nat.pow_add]
  rw [e] at h6
  exact Nat.lt_of_lt_of_le (Nat.lt_succ_self _) (Nat.le_trans h1 h6)
end Cnt
set_option Elab.async false
set_option autoImplicit false
set_option linter.all false
set_option maxRecDepth 100000
namespace K31
open Mini Cnt
/-! ### the numbers -/
theorem rOk_nat {k : Nat} (h : k ≤ 1000000) : rOk (k : Int) = true := by simp [rOk]; omega
theorem mul_ok3 {i j : Int} {a b : Nat} (hi : i.natAbs ≤ 2 ^ a) (hj : j.natAbs ≤ 2 ^ b) (h : a + b < 999998) : mulOk i j = true := by
  have lg : ∀ (x a : Nat), x ≤ 2 ^ a → x.log2 ≤ a := fun x a hx => by
    by_cases c : x = 0
    · rw [c]; exact Nat.zero_le _
    · have := Nat.log2_self_le c
      have : 2 ^ x.log2 ≤ 2 ^ a := Nat.le_trans this hx
      exact (Nat.pow_le_pow_iff_right (by decide)).mp this
  have h1 := lg _ _ hi
  have h2 := lg _ _ hj
  have : i.natAbs.log2 + j.natAbs.log2 < 1000000 := by omega
  simp [mulOk, this]
theorem small64 {x : Int} (h0 : -1000000000000 ≤ x) (h1 : x ≤ 1000000000000) : x.natAbs < two64 := by simp only [two64]; omega
theorem div9000 {x : Nat} (h : x ≤ 2 ^ 64) : x < 2 ^ 9000 := Nat.lt_of_le_of_lt h (Nat.pow_lt_pow_right (by decide) (by decide))
theorem step_ok {n k i : Nat} (hn : n ≤ 100000) (hi : i < k) (hk : k ≤ n) : mulOk (C n i : Int) ((n : Int) - i) = true ∧ divOk ((C n i : Int) * ((n : Int) - i)) ((i : Int) + 1) = true :=
  ⟨mul_ok2 (small64 (by omega) (by omega)), div_ok (by omega) (div9000 (by omega))⟩
theorem choose_spec {h : MH} {n k : Nat} {Q : W → MH → Prop} {X : XQ} (hk : k ≤ n) (hn : n ≤ 100000) (q : Q (.int (C n k)) h) : (m_choose [.int n, .int k] h).wp Q X := by
  unfold m_choose
  rw [wp_fn]
  simp -implicitDefEqProofs [b_choose, ws_for, o_rng1, rOk_nat (show k ≤ 1000000 by omega)]
  refine ws_rng (fun i r h1 => h1 = h ∧ ∃ v, r = [some (.int n), some (.int k), some (.int (C n i)), v]) ⟨rfl, none, by simp [C_zero]⟩ ?_ ?_
  · rintro i r h1 hi ⟨rfl, v, rfl⟩
    obtain ⟨a1, a2⟩ := step_ok (n := n) (k := k) (i := i) hn hi hk
    simp -implicitDefEqProofs [a1, a2, C_div n i (by omega)]
  · rintro r h1 ⟨rfl, v, rfl⟩
    simp -implicitDefEqProofs
    exact q
theorem lchoose_eq : m__law_choose = m_choose := rfl
theorem places_spec {h : MH} {c m : Nat} {Q : W → MH → Prop} {X : XQ} (hc : c ≤ 2 ^ 1000) (hm : 2 ≤ m) (hm2 : m ≤ 10000) (q : ∀ (L : Nat) h', c ≤ m ^ L → Old h h' → Q (.int L) h') : (m_least_places [.int c, .int m] h).wp Q X := by
  unfold m_least_places
  rw [wp_fn]
  simp -implicitDefEqProofs [b_least_places, o_untup (new_at h _)]
  refine ws_while (fun v r h1 => Old h h1 ∧ ∃ p : Nat, v = 1001 - p ∧ p ≤ 1000 ∧ r = [some (.int c), some (.int m), some (.int p), some (.int ((m ^ p : Nat) : Int))]) ?_ 1000000 1001 _ _ ⟨Old.app _ _, 0, rfl, by omega, by simp⟩ (by omega)
  rintro v r h1 ⟨O, p, rfl, hp, rfl⟩
  simp -implicitDefEqProofs
  split
  · rename_i lt
    have lt' : m ^ p < c := by exact_mod_cast lt
    have : 2 ^ p ≤ m ^ p := Nat.pow_le_pow_left hm p
    have p1 : p < 1000 := (Nat.pow_lt_pow_iff_right (by decide : 1 < 2)).mp (Nat.lt_of_le_of_lt this (Nat.lt_of_lt_of_le lt' hc))
    refine ⟨mul_ok2 (small64 (by omega) (by omega)), 1001 - (p + 1), by omega, O, p + 1, rfl, by omega, ?_⟩
    simp [Int.pow_succ, Nat.pow_succ]
  · rename_i lt
    refine q p h1 ?_ O
    have : ¬ (m ^ p < c) := fun z => lt (by exact_mod_cast z)
    omega
theorem natAbs_pow_le {m k a b : Nat} (h : m ≤ 2 ^ a) (hk : k ≤ b) : m ^ k ≤ 2 ^ (a * b) := by
  rw [Nat.pow_mul]
  exact Nat.le_trans (Nat.pow_le_pow_left h k) (Nat.pow_le_pow_right (Nat.pow_pos (by decide)) hk)
theorem sw_ok {n q i : Nat} (hn : n ≤ 1000) (hq : q ≤ 2 ^ 14) (hi : i ≤ 1000) : mulOk (C n i : Int) ((q : Int) ^ i) = true := by
  refine mul_ok3 (a := 1000) (b := 14 * 1000) ?_ ?_ (by decide)
  · rw [Int.natAbs_natCast]; exact Nat.le_trans (C_le n i) (Nat.pow_le_pow_right (by decide) hn)
  · rw [Int.natAbs_pow, Int.natAbs_natCast]; exact natAbs_pow_le hq hi
theorem wishes_spec {h : MH} {n k q : Nat} {Q : W → MH → Prop} {X : XQ} (hk : k ≤ n) (hn : n ≤ 1000) (hq : q ≤ 9999) (z : Q (.int (Sm n q k)) h) : (m_count_wishes [.int n, .int k, .int ((q : Int) + 1)] h).wp Q X := by
  unfold m_count_wishes
  rw [wp_fn]
  simp -implicitDefEqProofs [b_count_wishes, ws_for, o_rng1, rOk_nat (show k ≤ 1000000 by omega)]
  refine ws_rng (fun i r h1 => h1 = h ∧ ∃ v, r = [some (.int n), some (.int k), some (.int ((q : Int) + 1)), some (.int (Sm n q i)), some (.int (C n i)), some (.int ((q : Int) ^ i)), v]) ⟨rfl, none, by simp [C_zero, Sm]⟩ ?_ ?_
  · rintro i r h1 hi ⟨rfl, v, rfl⟩
    obtain ⟨a1, a2⟩ := step_ok (n := n) (k := k) (i := i) (by omega) hi hk
    have a3 : mulOk ((q : Int) ^ i) (q : Int) = true := mul_ok2 (small64 (by omega) (by omega))
    have a4 : mulOk (C n (i + 1) : Int) ((q : Int) ^ i * q) = true := by rw [← Int.pow_succ]; exact sw_ok hn (by omega) (by omega)
    simp -implicitDefEqProofs [a1, a2, C_div n i (by omega), a3, a4, Int.add_sub_cancel]
    simp [Sm, Int.pow_succ]
  · rintro r h1 ⟨rfl, v, rfl⟩
    simp -implicitDefEqProofs
    exact z
end K31
set_option Elab.async false
set_option autoImplicit false
set_option linter.all false
set_option maxRecDepth 100000
namespace K31
open Mini Cnt
/-! ### sizes and refusals -/
def btw (w : W) (lo hi : Int) : Bool := match w with
  | .int i => decide (lo ≤ i) && decide (i ≤ hi)
  | _ => false
theorem isi_ref {h : MH} {n : Nat} (k : known (.ref n) h = true) : gIsi .tInt (.ref n) h = .ok (.bl false) h := by
  unfold gIsi
  rw [if_pos k]
  unfold known at k
  unfold kindOf
  simp only [] at k ⊢
  cases e : h[n]? with
  | none => rw [e] at k; cases k
  | some c => cases c <;> first | rfl | (rw [e] at k; cases k)
theorem between_spec {h : MH} {w : W} {lo hi : Int} {Q : W → MH → Prop} {X : XQ} (k : known w h = true) (q : Q (.bl (btw w lo hi)) h) : (m_is_between [w, .int lo, .int hi] h).wp Q X := by
  unfold m_is_between
  rw [wp_fn]
  cases w with
  | int i =>
    simp -implicitDefEqProofs [b_is_between, m_is_whole, wp_fn, b_is_whole]
    unfold btw at q
    by_cases c : lo ≤ i <;> simp [c] at q ⊢ <;> exact q
  | ref n =>
    simp -implicitDefEqProofs [b_is_between, m_is_whole, wp_fn, b_is_whole, isi_ref k]
    exact q
  | _ =>
    simp -implicitDefEqProofs [b_is_between, m_is_whole, wp_fn, b_is_whole]
    exact q
theorem check_ok {h : MH} {n t m : Int} {Q : W → MH → Prop} {X : XQ} (h1 : 1 ≤ n) (h2 : n ≤ 1000) (h3 : 1 ≤ t) (h4 : t ≤ n) (h5 : 2 ≤ m) (h6 : m ≤ 10000) (q : Q .non h) : (m_check_sizes [.int n, .int t, .int m] h).wp Q X := by
  unfold m_check_sizes
  rw [wp_fn]
  simp -implicitDefEqProofs [b_check_sizes]
  refine between_spec rfl ?_
  simp -implicitDefEqProofs [btw, h1, h2]
  refine between_spec rfl ?_
  simp -implicitDefEqProofs [btw, h3, h4]
  refine between_spec rfl ?_
  simp -implicitDefEqProofs [btw, h5, h6]
  exact q
/-- which is refused, as what -/
inductive Bad : W → W → W → Nat → W → Prop where
  | r {a b c : W} : btw a 1 1000 = false → Bad a b c 1 a
  | t {n : Int} {b c : W} : btw (.int n) 1 1000 = true → btw b 1 n = false → Bad (.int n) b c 2 b
  | m {n t : Int} {c : W} : btw (.int n) 1 1000 = true → btw (.int t) 1 n = true → btw c 2 10000 = false → Bad (.int n) (.int t) c 0 c
theorem check_bad {h : MH} {a b c w : W} {i : Nat} {Q : W → MH → Prop} {X : XQ} (B : Bad a b c i w) (k : known w h = true) (q : X i (some h.length) (h ++ [.xd [("given", w)]])) : (m_check_sizes [a, b, c] h).wp Q X := by
  unfold m_check_sizes
  rw [wp_fn]
  cases B with
  | r h1 =>
    simp -implicitDefEqProofs [b_check_sizes]
    refine between_spec k ?_
    simp -implicitDefEqProofs [h1]
    exact q
  | t h1 h2 =>
    simp -implicitDefEqProofs [b_check_sizes]
    refine between_spec rfl ?_
    simp -implicitDefEqProofs [h1]
    refine between_spec k ?_
    simp -implicitDefEqProofs [h2]
    exact q
  | m h1 h2 h3 =>
    simp -implicitDefEqProofs [b_check_sizes]
    refine between_spec rfl ?_
    simp -implicitDefEqProofs [h1]
    refine between_spec rfl ?_
    simp -implicitDefEqProofs [h2]
    refine between_spec k ?_
    simp -implicitDefEqProofs [h3]
    exact q
/-- sizes that are fit -/
structure Fit (n t m : Nat) : Prop where
  n0 : 1 ≤ n
  n1 : n ≤ 1000
  t0 : 1 ≤ t
  t1 : t ≤ n
  m0 : 2 ≤ m
  m1 : m ≤ 10000
def above (n t m : Nat) : Bool := decide (2 * (n + t - 1) + t * C n t < m * C n t)
theorem above_spec {h : MH} {n t m : Nat} {Q : W → MH → Prop} {X : XQ} (F : Fit n t m) (q : Q (.bl (above n t m)) h) : (m_is_above [.int n, .int t, .int m] h).wp Q X := by
  obtain ⟨h1, h2, h3, h4, h5, h6⟩ := F
  unfold m_is_above
  rw [wp_fn]
  simp -implicitDefEqProofs [b_is_above]
  refine check_ok (by omega) (by omega) (by omega) (by omega) (by omega) (by omega) ?_
  refine choose_spec h4 (by omega) ?_
  simp -implicitDefEqProofs
  refine ⟨mul_ok (small64 (by omega) (by omega)), mul_ok (small64 (by omega) (by omega)), mul_ok (by decide), ?_⟩
  have e : decide ((t : Int) * C n t + 2 * ((n : Int) + t - 1) < (m : Int) * C n t) = above n t m := by
    unfold above
    have e1 : ((t * C n t : Nat) : Int) = (t : Int) * C n t := by simp
    have e2 : ((m * C n t : Nat) : Int) = (m : Int) * C n t := by simp
    rw [← e1, ← e2]
    apply decide_eq_decide.mpr
    omega
  rw [e]
  exact q
theorem enough_spec {h : MH} {n t m : Nat} {Q : W → MH → Prop} {X : XQ} (F : Fit n t m) (q : ∀ (L : Nat) h', C n t ≤ m ^ L → Old h h' → Q (.int (t + L + 1 : Nat)) h') : (m_enough [.int n, .int t, .int m] h).wp Q X := by
  obtain ⟨h1, h2, h3, h4, h5, h6⟩ := F
  unfold m_enough
  rw [wp_fn]
  simp -implicitDefEqProofs [b_enough]
  refine check_ok (by omega) (by omega) (by omega) (by omega) (by omega) (by omega) ?_
  refine choose_spec h4 (by omega) ?_
  refine places_spec (Nat.le_trans (C_le n t) (Nat.pow_le_pow_right (by decide) h2)) h5 h6 fun L h' hL O => ?_
  simp -implicitDefEqProofs
  have e : ((t : Int) + L + 1) = ((t + L + 1 : Nat) : Int) := by omega
  rw [e]
  exact q L h' hL O
/-- what least_needed answers -/
def Least (n t m s : Nat) : Prop := 1 ≤ s ∧ Sm n (m - 1) t ≤ f n m s ∧ ∀ u, 1 ≤ u → u < s → f n m u < Sm n (m - 1) t
theorem needed0 {h : MH} {n : Nat} {Q : W → MH → Prop} {X : XQ} (F : Fit n 1 2) (q : Q (.int 0) h) : (m_least_needed [.int n, .int 1, .int 2] h).wp Q X := by
  obtain ⟨h1, h2, h3, h4, h5, h6⟩ := F
  unfold m_least_needed
  rw [wp_fn]
  simp -implicitDefEqProofs [b_least_needed]
  refine check_ok (by omega) (by omega) (by omega) (by omega) (by omega) (by omega) ?_
  exact q
theorem needed_spec {h : MH} {n t m : Nat} {Q : W → MH → Prop} {X : XQ} (F : Fit n t m) (c : ¬ (m = 2 ∧ t = 1)) (q : ∀ s h', Least n t m s → Old h h' → Q (.int (s : Nat)) h') : (m_least_needed [.int n, .int t, .int m] h).wp Q X := by
  obtain ⟨h1, h2, h3, h4, h5, h6⟩ := F
  obtain ⟨p, rfl⟩ : ∃ p, m = p + 1 := ⟨m - 1, by omega⟩
  unfold m_least_needed
  rw [wp_fn]
  simp -implicitDefEqProofs [b_least_needed]
  refine check_ok (by omega) (by omega) (by omega) (by omega) (by omega) (by omega) ?_
  rw [ite_and (by omega)]
  refine wishes_spec h4 h2 (by omega) ?_
  refine ws_while (fun v r h1 => Old h h1 ∧ ∃ s : Nat, v = 15002 - s ∧ 1 ≤ s ∧ s ≤ 15001 ∧ (∀ u, 1 ≤ u → u < s → f n (p + 1) u < Sm n p t) ∧ r = [some (.int n), some (.int t), some (.int ((p : Int) + 1)), some (.int (Sm n p t)), some (.int s), some (.int (((p + 1) ^ (s - 1) : Nat) : Int))]) ?_ 1000000 15001 _ _ ⟨Old.app _ _, 1, rfl, by omega, by omega, fun u _ _ => by omega, by simp⟩ (by omega)
  rintro v r h1 ⟨O, s, rfl, s0, s1, hs, rfl⟩
  have e : ((2 * ((n : Int) + s - 1)) * ((p : Int) + 1) ^ (s - 1) < (Sm n p t : Int)) ↔ f n (p + 1) s < Sm n p t := by
    unfold f
    have e1 : (2 * ((n : Int) + s - 1)) = ((2 * (n + s - 1) : Nat) : Int) := by omega
    have e2 : (((p + 1) ^ (s - 1) : Nat) : Int) = ((p : Int) + 1) ^ (s - 1) := by simp
    rw [e1, ← e2, ← Int.natCast_mul]
    exact Int.ofNat_lt
  have small : f n (p + 1) s < Sm n p t → s ≤ 15000 := fun lt => by
    have h7 := S_small (n := n) (q := p) (t := t) h4 h2 (by omega)
    have h8 : 1 * 2 ^ (s - 1) ≤ f n (p + 1) s := Nat.mul_le_mul (by omega) (Nat.pow_le_pow_left (by omega) _)
    have h9 : 2 ^ (s - 1) < 2 ^ 15000 := by omega
    have := (Nat.pow_lt_pow_iff_right (by decide : 1 < 2)).mp h9
    omega
  simp -implicitDefEqProofs
  refine ⟨mul_ok (by decide), mul_ok (small64 (by omega) (by omega)), ?_⟩
  split
  · rename_i lt
    have lt' := e.mp lt
    have := small lt'
    refine ⟨mul_ok2 (small64 (by omega) (by omega)), 15002 - (s + 1), by omega, O, s + 1, rfl, by omega, by omega, fun u u0 u1 => ?_, ?_⟩
    · by_cases c : u < s
      · exact hs u u0 c
      · obtain rfl : u = s := by omega
        exact lt'
    · obtain ⟨s', rfl⟩ : ∃ s', s = s' + 1 := ⟨s - 1, by omega⟩
      simp [Int.pow_succ]
  · rename_i lt
    exact q s h1 ⟨s0, Nat.le_of_not_lt fun z => lt (e.mpr z), hs⟩ O
theorem due_spec {h : MH} {z n t m : Nat} {Q : W → MH → Prop} {X : XQ} (F : Fit n t m) (e : h[z]? = some (.tup [.int n, .int t, .int m])) (q : Q (.bl (above n t m)) h) : (m__law_due [.ref z] h).wp Q X := by
  obtain ⟨h1, h2, h3, h4, h5, h6⟩ := F
  unfold m__law_due
  rw [wp_fn]
  simp -implicitDefEqProofs [b__law_due, lchoose_eq, o_untup e]
  refine choose_spec h4 (by omega) ?_
  simp -implicitDefEqProofs
  refine ⟨mul_ok (small64 (by omega) (by omega)), mul_ok (by decide), ?_⟩
  have e : decide (2 * ((n : Int) + t - 1) < ((m : Int) - t) * C n t) = above n t m := by
    unfold above
    have e1 : ((t * C n t : Nat) : Int) = (t : Int) * C n t := by simp
    have e2 : ((m * C n t : Nat) : Int) = (m : Int) * C n t := by simp
    rw [Int.sub_mul, ← e1, ← e2]
    apply decide_eq_decide.mpr
    omega
  rw [e]
  exact q
theorem lack_spec {h : MH} {z n t p : Nat} {Q : W → MH → Prop} {X : XQ} (F : Fit n t (p + 1)) (e : h[z]? = some (.tup [.int n, .int t, .int ((p : Int) + 1)])) (q : ∀ h', Old h h' → Q (.bl (decide (f n (p + 1) t < Sm n p t))) h') : (m__law_lines_lack [.ref z] h).wp Q X := by
  obtain ⟨h1, h2, h3, h4, h5, h6⟩ := F
  unfold m__law_lines_lack
  rw [wp_fn]
  simp -implicitDefEqProofs [b__law_lines_lack, o_untup e, ws_for, o_rng1, rOk_nat (show t ≤ 1000000 by omega)]
  refine ws_rng (fun i r h1 => Old h h1 ∧ ∃ v, r = [some (.ref z), some (.int n), some (.int t), some (.int ((p : Int) + 1)), some (.int (Sm n p i)), some (.int (C n i)), some (.int ((p : Int) ^ i)), some (.int (((p : Int) + 1) ^ (i - 1))), v]) ⟨Old.app _ _, none, by simp [C_zero, Sm]⟩ ?_ ?_
  · rintro i r h1 hi ⟨O, v, rfl⟩
    obtain ⟨a1, a2⟩ := step_ok (n := n) (k := t) (i := i) (by omega) hi h4
    have a3 : mulOk ((p : Int) ^ i) (p : Int) = true := mul_ok2 (small64 (by omega) (by omega))
    have a4 : mulOk (C n (i + 1) : Int) ((p : Int) ^ i * p) = true := by rw [← Int.pow_succ]; exact sw_ok h2 (by omega) (by omega)
    have a5 : mulOk (((p : Int) + 1) ^ (i - 1)) ((p : Int) + 1) = true := mul_ok2 (small64 (by omega) (by omega))
    simp -implicitDefEqProofs [a1, a2, C_div n i (by omega), a3, a4, Int.add_sub_cancel, a5]
    cases i with
    | zero => simp [Sm, O, Int.pow_succ]
    | succ i => simp [Sm, Int.pow_succ, O]
  · rintro r h1 ⟨O, v, rfl⟩
    simp -implicitDefEqProofs
    refine ⟨mul_ok (by decide), mul_ok (small64 (by omega) (by omega)), ?_⟩
    have e : decide ((2 * ((n : Int) + t - 1)) * ((p : Int) + 1) ^ (t - 1) < (Sm n p t : Int)) = decide (f n (p + 1) t < Sm n p t) := by
      apply decide_eq_decide.mpr
      unfold f
      have e1 : (2 * ((n : Int) + t - 1)) = ((2 * (n + t - 1) : Nat) : Int) := by omega
      have e2 : (((p + 1) ^ (t - 1) : Nat) : Int) = ((p : Int) + 1) ^ (t - 1) := by simp
      rw [e1, ← e2, ← Int.natCast_mul]
      exact Int.ofNat_lt
    rw [e]
    exact q h1 O
end K31
set_option Elab.async false
set_option autoImplicit false
set_option linter.all false
set_option maxRecDepth 100000
namespace K31
open Mini Cnt
/-! ### what is drawn -/
/-- sizes at z -/
def Siz (h : MH) (z : Nat) : Prop := ∃ n t m : Nat, Fit n t m ∧ h[z]? = some (.tup [.int n, .int t, .int m])
theorem Box.mono {h : MH} {b : Nat} {c c' : Int} (B : Box h b c) (hc : c ≤ c') : Box h b c' := by
  obtain ⟨z, f, m, k, e, a1, a2, a3, a4⟩ := B
  exact ⟨z, f, m, k, e, a1, a2, a3, by omega⟩
theorem Box.lt {h : MH} {b : Nat} {c : Int} (B : Box h b c) : b < h.length := by
  obtain ⟨z, f, m, k, e, _⟩ := B
  exact lt_of_at e
theorem Box.old {h h' : MH} {b : Nat} {c : Int} (B : Box h b c) (O : Old h h') : Box h' b c := by
  obtain ⟨z, f, m, k, e, r⟩ := B
  exact ⟨z, f, m, k, O.at e, r⟩
theorem Box.app {h : MH} {b : Nat} {c : Int} (B : Box h b c) (t : List Cell) : Box (h ++ t) b c := B.old (Old.app _ _)
theorem take2 {h : MH} {b : Nat} {c many : Int} {Q : W → MH → Prop} {X : XQ} (B : Box h b c) (hm : 0 < many) (hm2 : many ≤ 100000) (hc : c < 1000000)
    (q : ∀ (d : Nat) h', (d : Int) < many → Box h' b (c + 1) → Ch b h h' → Q (.int d) h') : (m__law_take [.ref b, .int many] h).wp Q X := by
  refine take_spec B hm hm2 hc fun d h' d0 d1 B1 C1 _ => ?_
  obtain ⟨e, rfl⟩ : ∃ e : Nat, d = e := ⟨d.toNat, by omega⟩
  exact q e h' d1 B1 C1
theorem item_ints {xs : List Int} {i : Nat} {P : W → Prop} (hi : i < xs.length) (q : ∀ v, v ∈ xs → P (.int v)) : itemAt (xs.map .int) (i : Int) P := by
  rw [item_nn (w := .int xs[i]) i (by simp [hi])]
  exact q _ (List.getElem_mem hi)
structure Siz1 (h : MH) (b : Nat) (c : Int) (g : Bool) (r1 : Env) (h1 : MH) : Prop where
  ex : ∃ (n t near : Nat) (u v : Option W), r1 = [some (.ref b), some (.bl g), u, v, some (.int near), some (.int n), some (.int t), none, none, none] ∧ near < 9 ∧ 1 ≤ n ∧ n ≤ 1000 ∧ 1 ≤ t ∧ t ≤ n ∧ Box h1 b c ∧ Ch b h h1
theorem sizes_spec {h : MH} {b : Nat} {c : Int} {g : Bool} {Q : W → MH → Prop} {X : XQ} (B : Box h b c) (hc : c < 10000)
    (q : ∀ z h', Siz h' z → z < h'.length → h.length ≤ z → Box h' b (c + 20) → Ch b h h' → Q (.ref z) h') : (m__law_sizes [.ref b, .bl g] h).wp Q X := by
  unfold m__law_sizes
  rw [wp_fn]
  unfold b__law_sizes
  rw [sSeq_assoc, sSeq_assoc, sSeq_assoc]
  refine ws_cut (Siz1 h b (c + 9) g) ?_ ?_
  · refine ws_cut (Siz1 h b (c + 6) g) ?_ ?_
    · simp -implicitDefEqProofs
      refine take2 B (by decide) (by decide) (by omega) fun scale h1 d1 B1 C1 => ?_
      refine take2 B1 (by decide) (by decide) (by omega) fun part h2 d2 B2 C2 => ?_
      refine take2 B2 (by decide) (by decide) (by omega) fun near h3 d3 B3 C3 => ?_
      simp -implicitDefEqProofs
      refine item_mem (by omega) (by simp; omega) fun w hw => ?_
      obtain ⟨v, rfl, v0, v1⟩ : ∃ v : Nat, w = .int v ∧ 1 ≤ v ∧ v ≤ 60 := by
        simp at hw
        rcases hw with rfl | rfl | rfl | rfl | rfl | rfl
        · exact ⟨5, rfl, by decide, by decide⟩
        · exact ⟨8, rfl, by decide, by decide⟩
        · exact ⟨31, rfl, by decide, by decide⟩
        · exact ⟨60, rfl, by decide, by decide⟩
        · exact ⟨16, rfl, by decide, by decide⟩
        · exact ⟨3, rfl, by decide, by decide⟩
      refine take2 (B3.app _) (by omega) (by omega) (by omega) fun n h4 d4 B4 C4 => ?_
      simp -implicitDefEqProofs
      refine take2 B4 (by omega) (by omega) (by omega) fun t1 h5 d5 B5 C5 => ?_
      simp -implicitDefEqProofs
      refine take2 B5 (by split <;> omega) (by split <;> omega) (by omega) fun t2 h6 d6 B6 C6 => ?_
      simp -implicitDefEqProofs
      refine item_mem (by omega) (by simp; omega) fun w hw => ?_
      obtain ⟨k, rfl, k0, k1⟩ : ∃ k : Nat, w = .int k ∧ 1 ≤ k ∧ k ≤ n + 1 := by
        simp at hw
        rcases hw with rfl | rfl | rfl | rfl | rfl | rfl
        · exact ⟨1, rfl, by decide, by omega⟩
        · exact ⟨n + 1, by simp; omega, by omega, by omega⟩
        · exact ⟨t1 + 1, by simp; omega, by omega, by omega⟩
        · refine ⟨t2 + 1, by simp; omega, by omega, ?_⟩
          split at d6 <;> omega
        · refine ⟨if 1 < n then n else 1, ?_, ?_, ?_⟩
          · by_cases c : 1 < n
            · rw [if_pos (by omega), if_pos c]; simp; omega
            · rw [if_neg (by omega), if_neg c]; simp
          · split <;> omega
          · split <;> omega
        · exact ⟨1, rfl, by decide, by omega⟩
      refine ⟨n + 1, k, near, some (.int scale), some (.int part), by simp; omega, by omega, by omega, by omega, k0, k1, (B6.app _).mono (by omega), (((((C1.trans C2).trans C3).app _).trans C4).trans (C5.trans C6)).app _⟩
    · rintro r1 h1 ⟨n, t, near, u, v, rfl, hn, a1, a2, a3, a4, B1, C1⟩
      simp -implicitDefEqProofs
      split
      · refine take2 B1 (by decide) (by decide) (by omega) fun big h2 d2 B2 C2 => ?_
        simp -implicitDefEqProofs
        refine take2 (B2.app _) (by decide) (by decide) (by omega) fun pick h3 d3 B3 C3 => ?_
        have e3 : h3[h2.length]? = some (.lst [.int 1000, .int 999, .int (200 + (big : Int))]) := C3.at (by simp) (by have := B2.lt; omega)
        rw [o_ix (seq_lst e3)]
        refine item_mem (by omega) (by simp; omega) fun w hw => ?_
        obtain ⟨m, rfl, m0, m1⟩ : ∃ m : Nat, w = .int m ∧ 200 ≤ m ∧ m ≤ 1000 := by
          simp at hw
          rcases hw with rfl | rfl | rfl
          · exact ⟨1000, rfl, by decide, by decide⟩
          · exact ⟨999, rfl, by decide, by decide⟩
          · exact ⟨200 + big, by simp, by omega, by omega⟩
        refine take2 B3 (by decide) (by decide) (by omega) fun few h4 d4 B4 C4 => ?_
        simp -implicitDefEqProofs
        exact ⟨m, few + 1, near, u, v, by simp; omega, hn, by omega, by omega, by omega, by omega, B4.mono (by omega), ((C1.trans C2).app _).trans (C3.trans C4)⟩
      · exact ⟨n, t, near, u, v, rfl, hn, a1, a2, a3, a4, B1.mono (by omega), C1⟩
  · rintro r1 h1 ⟨n, t, near, u, v, rfl, hn, a1, a2, a3, a4, B1, C1⟩
    simp -implicitDefEqProofs [lchoose_eq]
    have cp := C_pos n t a4
    have c9 : (C n t : Int).natAbs < 2 ^ 9000 := by
      rw [Int.natAbs_natCast]
      exact Nat.lt_of_le_of_lt (C_le n t) (Nat.pow_lt_pow_right (by decide) (by omega))
    refine ⟨mul_ok (by decide), choose_spec a4 (by omega) ?_⟩
    simp -implicitDefEqProofs
    refine ⟨div_ok (by omega) c9, ?_⟩
    refine take2 B1 (by decide) (by decide) (by omega) fun x h2 d2 B2 C2 => ?_
    simp -implicitDefEqProofs
    refine take2 B2 (by decide) (by decide) (by omega) fun y h3 d3 B3 C3 => ?_
    simp -implicitDefEqProofs
    refine item_mem (by omega) (by simp; omega) fun w hw => ?_
    obtain ⟨m, rfl⟩ : ∃ m : Int, w = .int m := by
      simp at hw
      rcases hw with rfl | rfl | rfl | rfl | rfl | rfl | rfl | rfl | rfl <;> exact ⟨_, rfl⟩
    simp -implicitDefEqProofs
    refine q _ _ ⟨n, t, (if 2 < (if m < 10000 then m else 10000) then (if m < 10000 then m else 10000) else 2 : Int).toNat, ⟨a1, a2, a3, a4, ?_, ?_⟩, ?_⟩ (by simp) ?_ ((B3.app _).mono (by omega)) (((C1.trans C2).trans C3).app _)
    · split <;> (try split) <;> omega
    · split <;> (try split) <;> omega
    · simp
      split <;> (try split) <;> omega
    · have h1 := C1.1
      have h2 := C2.1
      have h3 := C3.1
      simp
      omega
end K31
set_option Elab.async false
set_option autoImplicit false
set_option linter.all false
set_option maxRecDepth 100000
namespace K31
open Mini Cnt
open PySem (Str PyData)
/-- a value that is no size -/
inductive Odd (h : MH) (lo : Nat) : W → Prop where
  | int (i : Int) (hi : i.natAbs < 10 ^ 40) : Odd h lo (.int i)
  | bl (b : Bool) : Odd h lo (.bl b)
  | non : Odd h lo .non
  | str : Odd h lo (.str "2")
  | lst (p : Nat) (hp : lo ≤ p) (e : h[p]? = some (.lst [.int 2])) : Odd h lo (.ref p)
  | tup (p : Nat) (hp : lo ≤ p) (e : h[p]? = some (.tup [.int 2])) : Odd h lo (.ref p)
  | dic (p : Nat) (hp : lo ≤ p) (e : h[p]? = some (.dic [])) : Odd h lo (.ref p)
theorem Odd.known {h : MH} {lo : Nat} {w : W} (O : Odd h lo w) : known w h = true := by
  cases O <;> first | rfl | (unfold Mini.known; rename_i e; simp only [e])
theorem Odd.up {h h' : MH} {lo : Nat} {w : W} (O : Odd h lo w) (k : ∀ p c, lo ≤ p → h[p]? = some c → (c = .lst [.int 2] ∨ c = .tup [.int 2] ∨ c = .dic []) → h'[p]? = some c) : Odd h' lo w := by
  cases O with
  | int i hi => exact .int i hi
  | bl b => exact .bl b
  | non => exact .non
  | str => exact .str
  | lst p hp e => exact .lst p hp (k p _ hp e (.inl rfl))
  | tup p hp e => exact .tup p hp (k p _ hp e (.inr (.inl rfl)))
  | dic p hp e => exact .dic p hp (k p _ hp e (.inr (.inr rfl)))
theorem Odd.low {h : MH} {lo lo' : Nat} {w : W} (O : Odd h lo w) (hl : lo' ≤ lo) : Odd h lo' w := by
  cases O with
  | int i hi => exact .int i hi
  | bl b => exact .bl b
  | non => exact .non
  | str => exact .str
  | lst p hp e => exact .lst p (by omega) e
  | tup p hp e => exact .tup p (by omega) e
  | dic p hp e => exact .dic p (by omega) e
theorem pow40 {i : Int} (h0 : -1000000000000000000000000000000 ≤ i) (h1 : i ≤ 1000000000000000000000000000000) : i.natAbs < 10 ^ 40 :=
  Nat.lt_of_le_of_lt (by omega : i.natAbs ≤ 1000000000000000000000000000000) (by decide)
theorem odd_spec {h : MH} {pick : Nat} {least most : Int} {Q : W → MH → Prop} {X : XQ} (hp : (pick : Int) < 12) (h1 : 1 ≤ least) (h2 : least ≤ most) (h3 : most ≤ 10000)
    (q : ∀ w h', Odd h' h.length w → btw w least most = false → Old h h' → Q w h') : (m__law_odd [.int pick, .int least, .int most] h).wp Q X := by
  unfold m__law_odd
  rw [wp_fn]
  simp -implicitDefEqProofs [b__law_odd]
  refine ⟨pow_ok (by decide) (by decide) (by decide), ?_⟩
  refine item_mem (by omega) (by simp; omega) fun w hw => ?_
  refine q w _ ?_ ?_ (Old.app _ _)
  · simp only [List.mem_cons, List.not_mem_nil, or_false] at hw
    rcases hw with rfl | rfl | rfl | rfl | rfl | rfl | rfl | rfl | rfl | rfl | rfl | rfl
    · exact .int _ (pow40 (by omega) (by omega))
    · exact .int _ (pow40 (by omega) (by omega))
    · exact .int _ (pow40 (by omega) (by omega))
    · exact .bl _
    · exact .bl _
    · exact .non
    · exact .str
    · exact .lst _ (by omega) (by simp)
    · exact .tup _ (by omega) (by rw [List.getElem?_append_right (by omega)]; simp)
    · exact .int _ (pow40 (by omega) (by omega))
    · exact .dic _ (by omega) (by rw [List.getElem?_append_right (by omega), show h.length + 1 + 1 - h.length = 2 by omega]; rfl)
    · exact .int _ (pow40 (by omega) (by omega))
  · simp only [List.mem_cons, List.not_mem_nil, or_false] at hw
    rcases hw with rfl | rfl | rfl | rfl | rfl | rfl | rfl | rfl | rfl | rfl | rfl | rfl <;> first | rfl | (show (decide _ && decide _) = false; simp only [Bool.and_eq_false_iff, decide_eq_false_iff_not]; omega)
/-! ### repr -/
theorem repr_ok {h : MH} {w : W} {d : PyData} (e : dataR h w = some d) (h1 : d.showable = true) (h2 : d.depth ≤ 64) (h3 : d.shown.length ≤ 10000000) : fRepr [w] h = .ok (.str d.shown) h := by
  unfold fRepr
  simp only [e]
  rw [if_pos ⟨h1, h2, h3⟩]
theorem repr_int {h : MH} {i : Int} (hi : i.natAbs < 10 ^ 40) : ∃ s, fRepr [.int i] h = .ok (.str s) h := by
  have hl : i.natAbs.log2 < 1920 := by
    by_cases c : i.natAbs = 0
    · rw [c]; decide
    · exact (Nat.log2_lt c).mpr (Nat.lt_of_lt_of_le hi (Nat.le_trans (by decide : 10 ^ 40 ≤ 2 ^ 200) (Nat.pow_le_pow_right (by decide) (by decide))))
  refine ⟨_, repr_ok (d := .int i) rfl ?_ ?_ ?_⟩
  · unfold PyData.showable; exact decide_eq_true hl
  · simp [PyData.depth]
  · unfold PyData.shown
    have e := PySem.int_text_length_le (k := 1920) (by decide) hl
    show (Str.ofString (toString i)).length ≤ _
    rw [PySem.ofString_length]
    omega
theorem known_ref_lst {h : MH} {p : Nat} {xs : List W} (e : h[p]? = some (.lst xs)) : known (.ref p) h = true := by unfold known; simp only [e]
/-- the passed value told again: the same text -/
theorem same_spec {h : MH} {lo : Nat} {w : W} {Q : W → MH → Prop} {X : XQ} (O : Odd h lo w) (q : ∀ h', h.length ≤ h'.length → (∀ i, i < lo → h'[i]? = h[i]?) → Q (.bl true) h') : (m__law_same [w, w] h).wp Q X := by
  unfold m__law_same
  rw [wp_fn]
  have q0 := q h (Nat.le_refl _) (fun _ _ => rfl)
  cases O with
  | int i hi =>
    obtain ⟨s, e⟩ := repr_int (h := h) hi
    simp -implicitDefEqProofs [b__law_same, e]
    exact q0
  | bl b =>
    have e : fRepr [.bl b] h = .ok (.str (PyData.bool b).shown) h := repr_ok rfl (by cases b <;> decide +kernel) (by cases b <;> decide +kernel) (by cases b <;> decide +kernel)
    simp -implicitDefEqProofs [b__law_same, e]
    exact q0
  | non =>
    have e : fRepr [.non] h = .ok (.str (PyData.none).shown) h := repr_ok rfl (by decide +kernel) (by decide +kernel) (by decide +kernel)
    simp -implicitDefEqProofs [b__law_same, e]
    exact q0
  | str =>
    have e : fRepr [.str "2"] h = .ok (.str (PyData.str "2").shown) h := repr_ok rfl (by decide +kernel) (by decide +kernel) (by decide +kernel)
    simp -implicitDefEqProofs [b__law_same, e]
    exact q0
  | tup p hp ep =>
    have e : fRepr [.ref p] h = .ok (.str (PyData.tuple [.int 2]).shown) h := repr_ok (by simp [dataR, dicAt, ep, dep, dataOf, dataAll]) (by decide +kernel) (by decide +kernel) (by decide +kernel)
    simp -implicitDefEqProofs [b__law_same, k_tup _ ep, e]
    exact q0
  | lst p hp ep =>
    have ep2 : (h.set p (.lst [.int 2, .str "more"]))[p]? = some (.lst [.int 2, .str "more"]) := set_at ep
    have e : fRepr [.ref p] (h.set p (.lst [.int 2, .str "more"])) = .ok (.str (PyData.list [.int 2, .str "more"]).shown) (h.set p (.lst [.int 2, .str "more"])) := repr_ok (by simp [dataR, dicAt, ep2, dep, dataOf, dataAll]) (by decide +kernel) (by decide +kernel) (by decide +kernel)
    simp -implicitDefEqProofs [b__law_same, k_lst _ ep, k_lst _ ep2, e, eApp, isLst, app, ep]
    exact q _ (by simp) (fun i hi => List.getElem?_set_ne (by omega))
  | dic p hp ep =>
    have ep2 : (h.set p (.dic [(.inr "more", .int 1)]))[p]? = some (.dic [(.inr "more", .int 1)]) := set_at ep
    have e : fRepr [.ref p] (h.set p (.dic [(.inr "more", .int 1)])) = .ok (.str (PyData.dict [(.str "more", .int 1)]).shown) (h.set p (.dic [(.inr "more", .int 1)])) := repr_ok (by simp [dataR, dicAt, ep2, kvData, keyData, sclData]) (by decide +kernel) (by decide +kernel) (by decide +kernel)
    simp -implicitDefEqProofs [b__law_same, k_dic _ ep, k_dic _ ep2, e, dput, keyOf, putD, ep]
    exact q _ (by simp) (fun i hi => List.getElem?_set_ne (by omega))
/-! ### asked -/
theorem asked_ok {h : MH} {pick n t m : Nat} {Q : W → MH → Prop} {X : XQ} (F : Fit n t m) (q : ∀ p h', h'[p]? = some (.lst [.str "told", .bl (above n t m)]) → Old h h' → Q (.ref p) h') : (m__law_asked [.int pick, .int n, .int t, .int m] h).wp Q X := by
  unfold m__law_asked
  rw [wp_fn]
  simp -implicitDefEqProofs [b__law_asked]
  have z := q h.length (h ++ [.lst [.str "told", .bl (above n t m)]]) (by simp) (Old.app _ _)
  split
  · refine above_spec F ?_
    exact z
  · refine above_spec F ?_
    exact z
def tag : Nat → Str
  | 1 => "records"
  | 2 => "changes"
  | _ => "contents"
theorem asked_bad {h : MH} {pick : Nat} {a b c w : W} {i : Nat} {Q : W → MH → Prop} {X : XQ} (B : Bad a b c i w) (k : known w h = true) (q : ∀ p h', h'[p]? = some (.lst [.str (tag i), w]) → Old h h' → Q (.ref p) h') : (m__law_asked [.int pick, a, b, c] h).wp Q X := by
  have above_bad : ∀ {Q : W → MH → Prop} {X : XQ}, X i (some h.length) (h ++ [.xd [("given", w)]]) → (m_is_above [a, b, c] h).wp Q X := fun {Q X} x => by
    unfold m_is_above
    rw [wp_fn]
    simp -implicitDefEqProofs [b_is_above]
    exact check_bad B k x
  unfold m__law_asked
  rw [wp_fn]
  have z := q (h ++ [Cell.xd [("given", w)]]).length (h ++ [Cell.xd [("given", w)]] ++ [Cell.lst [.str (tag i), w]]) (by simp) ((Old.app _ _).trans (Old.app _ _))
  have i3 : i = 0 ∨ i = 1 ∨ i = 2 := by cases B <;> simp
  simp -implicitDefEqProofs [b__law_asked]
  split
  · refine above_bad ?_
    rcases i3 with rfl | rfl | rfl <;> (simp -implicitDefEqProofs [eXf, List.lookup]; simp [tag] at z; exact z)
  · refine above_bad ?_
    rcases i3 with rfl | rfl | rfl <;> (simp -implicitDefEqProofs [eXf, List.lookup]; simp [tag] at z; exact z)
end K31
set_option Elab.async false
set_option autoImplicit false
set_option linter.all false
set_option maxRecDepth 100000
namespace K31
open Mini Cnt
open PySem (Str PyData)
def two (k : Nat) : Nat := match k with | 0 => 1 | 1 => 2 | _ => 4
def bit (wrong k : Nat) : Prop := wrong / two k % 2 = 1
instance (wrong k : Nat) : Decidable (bit wrong k) := by unfold bit; infer_instance
def least (k : Nat) : Int := match k with | 0 => 1 | 1 => 1 | _ => 2
def most (n : Nat) (k : Nat) : Int := match k with | 0 => 1000 | 1 => n | _ => 10000
def sz (n t m : Nat) (k : Nat) : Int := match k with | 0 => n | 1 => t | _ => m
/-- what is passed after i turns -/
structure Pass (h : MH) (lo p : Nat) (n t m wrong i : Nat) (x : Nat → W) : Prop where
  at_ : h[p]? = some (.lst [x 0, x 1, x 2])
  odd : ∀ k, k < 3 → k < i → bit wrong k → Odd h lo (x k) ∧ btw (x k) (least k) (most n k) = false
  fit : ∀ k, k < 3 → (i ≤ k ∨ ¬ bit wrong k) → x k = .int (sz n t m k)
theorem Pass.up {h h' : MH} {lo p n t m wrong i : Nat} {x : Nat → W} (P : Pass h lo p n t m wrong i x) (k : ∀ q c, lo ≤ q → h[q]? = some c → h'[q]? = some c) (hp : lo ≤ p) : Pass h' lo p n t m wrong i x :=
  ⟨k p _ hp P.at_, fun j h3 hj hb => ⟨(P.odd j h3 hj hb).1.up fun q c hq e _ => k q c hq e, (P.odd j h3 hj hb).2⟩, P.fit⟩
theorem bit_test {h : MH} {wrong k : Nat} {Q : Bool → MH → Prop} {X : XQ} {r : Env} (hk : k < 3) (e6 : r[6]? = some (some (.int wrong))) (e3 : r[3]? = some (some (.int k))) (q : ∀ h', Old h h' → Q (decide (bit wrong k)) h') :
    (tBl (eBin gEq (eBin gMod (eFn fInt (aCons (eBin gDiv (eVar 6) (eBin gIx (eLst (aCons (eC (.int 1)) (aCons (eC (.int 2)) (aCons (eC (.int 4)) aNil)))) (eVar 3))) aNil)) (eC (.int 2))) (eC (.int 1))) r h).wp Q X := by
  have k3 : k = 0 ∨ k = 1 ∨ k = 2 := by omega
  have z : ∀ d : Nat, two k = d → (decide ((wrong : Int) / (d : Int) % 2 = 1)) = decide (bit wrong k) := fun d hd => by
    apply decide_eq_decide.mpr
    unfold bit
    rw [hd]
    omega
  simp -implicitDefEqProofs [e6, e3]
  rcases k3 with rfl | rfl | rfl
  · simp -implicitDefEqProofs
    refine ⟨div_ok (by decide) (div9000 (by decide)), ?_⟩
    have := z 1 rfl
    simp at this
    simp only [this]
    exact q _ (Old.app _ _)
  · simp -implicitDefEqProofs
    refine ⟨div_ok (by decide) (div9000 (by decide)), ?_⟩
    have := z 2 rfl
    simp at this
    simp only [this]
    exact q _ (Old.app _ _)
  · simp -implicitDefEqProofs
    refine ⟨div_ok (by decide) (div9000 (by decide)), ?_⟩
    have := z 4 rfl
    simp at this
    simp only [this]
    exact q _ (Old.app _ _)
structure Ref1 (h0 : MH) (b z : Nat) (c : Int) (n t m : Nat) (i : Nat) (r : Env) (h : MH) : Prop where
  ex : ∃ (pk : Nat) (u3 u4 u5 u6 u7 u8 : Option W), r = [some (.ref b), some (.ref z), some (.int pk), u3, u4, u5, u6, u7, u8] ∧ Box h b (c + 4 * i) ∧ Ch b h0 h
/-- one turn's odd values -/
theorem turn_spec {h : MH} {b z p lo : Nat} {c : Int} {n t m wrong i : Nat} {pk : W} {u3 u4 u5 u8 : Option W} {x : Nat → W} {Q : Fl → Env → MH → Prop} {XX : XS} (F : Fit n t m) (hi : i < 3) (B : Box h b c) (hc : c < 100000)
    (ez : h[z]? = some (.tup [.int n, .int t, .int m])) (hbz : z ≠ b) (hlo : lo ≤ p) (hz : z < lo) (hb : b < lo) (P : Pass h lo p n t m wrong i x)
    (q : ∀ (u3 u8 : Option W) (x : Nat → W) h', Pass h' lo p n t m wrong (i + 1) x → Box h' b (c + 1) → Ch b h (h'.set p (.lst [])) ∨ True → (∀ j, j < lo → j ≠ b → h'[j]? = h[j]?) → h.length ≤ h'.length → Q .nx [some (.ref b), some (.ref z), some pk, u3, u4, u5, some (.int wrong), some (.ref p), u8] h') :
    (sSeq (sSet 8 (Mini.eCall m__law_take (aCons (eVar 0) (aCons (eC (.int 12)) aNil))))
    (Mini.sIf (tBl (eBin gEq (eBin gMod (eFn fInt (aCons (eBin gDiv (eVar 6) (eBin gIx (eLst (aCons (eC (.int 1)) (aCons (eC (.int 2)) (aCons (eC (.int 4)) aNil)))) (eVar 3))) aNil)) (eC (.int 2))) (eC (.int 1))))
    (sAsg (Mini.eCall m__law_odd (aCons (eVar 8) (aCons (eBin gIx (eLst (aCons (eC (.int 1)) (aCons (eC (.int 1)) (aCons (eC (.int 2)) aNil)))) (eVar 3)) (aCons (eBin gIx (eLst (aCons (eC (.int 1000)) (aCons (eBin gIx (eVar 1) (eC (.int 0))) (aCons (eC (.int 10000)) aNil)))) (eVar 3)) aNil)))) (gSubL (eVar 7) (eVar 3)))
    sNx) [some (.ref b), some (.ref z), some pk, some (.int i), u4, u5, some (.int wrong), some (.ref p), u8] h).wp Q XX := by
  obtain ⟨f1, f2, f3, f4, f5, f6⟩ := F
  rw [ws_seq, ws_set]
  simp -implicitDefEqProofs only [eCall, wp_bind, aCons, aNil, eVar, eC, List.getElem?_cons_zero, List.getElem?_cons_succ, wp_ok]
  refine take2 B (by decide) (by decide) (by omega) fun spare h1 d1 B1 C1 => ?_
  rw [thenS_nx, ws_if]
  refine bit_test (k := i) (wrong := wrong) hi (by simp) (by simp) fun h2 O2 => ?_
  have P2 : Pass h2 lo p n t m wrong i x := P.up (fun j cc hj e => O2.at (C1.at e (by omega))) hlo
  have B2 := B1.old O2
  have C2 := C1.trans (O2.ch b)
  have ez2 : h2[z]? = some (.tup [.int n, .int t, .int m]) := C2.at ez hbz
  by_cases hbit : bit wrong i
  · rw [if_pos (decide_eq_true hbit)]
    have i3 : i = 0 ∨ i = 1 ∨ i = 2 := by omega
    have l0 : ∀ {P : W → Prop}, P (.int (least i)) → itemAt [.int 1, .int 1, .int 2] (i : Int) P := fun {P} q => by
      rcases i3 with rfl | rfl | rfl <;> simpa [least] using q
    have l1 : ∀ {P : W → Prop}, P (.int (most n i)) → itemAt [.int 1000, .int n, .int 10000] (i : Int) P := fun {P} q => by
      rcases i3 with rfl | rfl | rfl <;> simpa [most] using q
    have lm : 1 ≤ least i ∧ least i ≤ most n i ∧ most n i ≤ 10000 := by rcases i3 with rfl | rfl | rfl <;> simp [least, most] <;> omega
    simp -implicitDefEqProofs
    refine l0 ?_
    rw [o_ix (seq_tup (app_at ez2 _))]
    rw [item0]
    refine l1 ?_
    refine odd_spec d1 lm.1 lm.2.1 lm.2.2 fun w h3 O3 hb3 Q3 => ?_
    have Q23 : Old h2 h3 := (Old.app _ _).trans ((Old.app _ _).trans Q3)
    have e3 : h3[p]? = some (.lst [x 0, x 1, x 2]) := Q23.at P2.at_
    have pl : p < h2.length := lt_of_at P2.at_
    rw [o_put e3 (by omega) (by simp; omega)]
    have ex : [x 0, x 1, x 2].set ((i : Int)).toNat w = [(fun k => if k = i then w else x k) 0, (fun k => if k = i then w else x k) 1, (fun k => if k = i then w else x k) 2] := by
      rcases i3 with rfl | rfl | rfl <;> simp
    rw [ex]
    refine q _ _ (fun k => if k = i then w else x k) _ ⟨set_at e3, fun k k3 hk hb => ?_, fun k k3 hk => ?_⟩ ?_ (.inr trivial) (fun j hj hb => ?_) ?_
    · by_cases e : k = i
      · subst e
        simp only [if_true]
        refine ⟨(O3.up fun q c hq e _ => ?_).low (by simp; omega), hb3⟩
        rw [List.getElem?_set_ne (by simp at hq; omega)]
        exact e
      · simp only [if_neg e]
        obtain ⟨z1, z2⟩ := P2.odd k k3 (by omega) hb
        refine ⟨z1.up fun q c hq e hc => ?_, z2⟩
        have : p ≠ q := fun z => by
          subst z
          rw [P2.at_] at e
          cases e
          rcases hc with hc | hc | hc <;> simp at hc
        rw [List.getElem?_set_ne this]
        exact Q23.at e
    · have e : k ≠ i := fun z => by subst z; rcases hk with hk | hk; omega; exact hk hbit
      simp only [if_neg e]
      exact P2.fit k k3 (hk.imp (fun z => by omega) id)
    · obtain ⟨z0, f0, m0, k0, eb, rb⟩ := B2.old Q23
      exact ⟨z0, f0, m0, k0, by rw [List.getElem?_set_ne (by omega)]; exact eb, rb⟩
    · rw [List.getElem?_set_ne (by omega), Q23.2 j (by omega)]
      exact C2.2 j (by have := lt_of_at P.at_; omega) hb
    · have := C2.1
      have := Q23.1
      simp
      omega
  · rw [if_neg (by simp [hbit])]
    simp -implicitDefEqProofs
    refine q _ _ x h2 ⟨P2.at_, fun k k3 hk hb => ?_, fun k k3 hk => ?_⟩ B2 (.inr trivial) (fun j hj hb => C2.2 j (by have := B.lt; have := lt_of_at P.at_; omega) hb) C2.1
    · by_cases e : k = i
      · subst e; exact absurd hb hbit
      · exact P2.odd k k3 (by omega) hb
    · by_cases e : k = i
      · subst e; exact P2.fit k k3 (.inr hbit)
      · exact P2.fit k k3 (hk.imp (fun z => by omega) id)
end K31
set_option Elab.async false
set_option autoImplicit false
set_option linter.all false
set_option maxRecDepth 100000
namespace K31
open Mini Cnt
open PySem (Str PyData)
structure RefI (h0 : MH) (b z : Nat) (c : Int) (i : Nat) (r : Env) (h : MH) : Prop where
  ex : ∃ (u2 u3 u4 u5 u6 u7 u8 : Option W), r = [some (.ref b), some (.ref z), u2, u3, u4, u5, u6, u7, u8] ∧ Box h b (c + 4 * i) ∧ Ch b h0 h
structure StA (hs : MH) (b z : Nat) (c : Int) (n t m pk : Nat) (i : Nat) (r : Env) (h : MH) : Prop where
  ex : ∃ (u3 u4 u5 u8 : Option W) (wrong p : Nat) (x : Nat → W), r = [some (.ref b), some (.ref z), some (.int pk), u3, u4, u5, some (.int wrong), some (.ref p), u8] ∧ 1 ≤ wrong ∧ wrong ≤ 7 ∧ hs.length ≤ p ∧
    Pass h hs.length p n t m wrong i x ∧ Box h b (c + 1 + i) ∧ Ch b hs h
def code (j : Nat) : Nat := match j with | 0 => 1 | 1 => 2 | _ => 0
theorem bad_of {h : MH} {lo p n t m wrong j : Nat} {x : Nat → W} (F : Fit n t m) (P : Pass h lo p n t m wrong 3 x) (hj : j < 3) (hb : bit wrong j) (hf : ∀ k, k < j → ¬ bit wrong k) : Bad (x 0) (x 1) (x 2) (code j) (x j) := by
  obtain ⟨f1, f2, f3, f4, f5, f6⟩ := F
  have o := (P.odd j hj hj hb).2
  have j3 : j = 0 ∨ j = 1 ∨ j = 2 := by omega
  rcases j3 with rfl | rfl | rfl
  · exact .r o
  · have e0 := P.fit 0 (by decide) (.inr (hf 0 (by decide)))
    rw [e0]
    refine .t ?_ o
    simp [btw, sz]; omega
  · have e0 := P.fit 0 (by decide) (.inr (hf 0 (by decide)))
    have e1 := P.fit 1 (by decide) (.inr (hf 1 (by decide)))
    rw [e0, e1]
    refine .m ?_ ?_ o
    · simp [btw, sz]; omega
    · simp [btw, sz]; omega
def FirstI (wrong i : Nat) (acc : List W) : Prop := (acc = [] ∧ ∀ k, k < i → ¬ bit wrong k) ∨ ∃ j, j < i ∧ acc[0]? = some (.int (j : Nat)) ∧ bit wrong j ∧ ∀ k, k < j → ¬ bit wrong k
theorem FirstI.end_ {wrong : Nat} {acc : List W} (F : FirstI wrong 3 acc) (h0 : 1 ≤ wrong) (h1 : wrong ≤ 7) : ∃ j, j < 3 ∧ acc[0]? = some (.int (j : Nat)) ∧ bit wrong j ∧ ∀ k, k < j → ¬ bit wrong k := by
  rcases F with ⟨_, z⟩ | z
  · exfalso
    have z0 := z 0 (by decide)
    have z1 := z 1 (by decide)
    have z2 := z 2 (by decide)
    unfold bit two at z0 z1 z2
    simp only [] at z0 z1 z2
    omega
  · exact z
structure LcI (h1 : MH) (wrong i : Nat) (acc : List W) (h : MH) : Prop where
  f : FirstI wrong i acc
  o : Old h1 h
theorem refused_spec {h : MH} {b z : Nat} {c : Int} {n t m : Nat} {Q : W → MH → Prop} {X : XQ} (F : Fit n t m) (B : Box h b c) (ez : h[z]? = some (.tup [.int n, .int t, .int m])) (hbz : z ≠ b) (hc : c < 1000) (q : ∀ h', Box h' b (c + 16) → Ch b h h' → Q (.bl true) h') :
    (m__law_refused_right [.ref b, .ref z] h).wp Q X := by
  unfold m__law_refused_right
  rw [wp_fn]
  unfold b__law_refused_right
  rw [ws_seq, ws_forL]
  simp -implicitDefEqProofs only [o_lst, aCons, aNil, eC, wp_bind, wp_ok, List.length_cons, List.length_nil]
  refine ⟨by decide, ?_⟩
  have bl := B.lt
  refine ws_lst (new_at h _) (RefI (h ++ [.lst [.int 0, .int 1, .int 0, .int 1]]) b z c) ⟨none, none, none, none, none, none, none, rfl, (B.app _).mono (by omega), Ch.refl _ _⟩ (fun i r h1 ⟨_, _, _, _, _, _, _, _, _, C1⟩ => C1.at (by simp) (by omega)) ?_ ?_
  · rintro i x r hs hx ⟨u2, u3, u4, u5, u6, u7, u8, rfl, B1, C1⟩
    have i4 : i < 4 := (List.getElem?_eq_some_iff.mp hx).1
    obtain ⟨pk, rfl⟩ : ∃ pk : Nat, x = .int pk := by
      have := List.mem_of_getElem? hx
      simp at this
      rcases this with rfl | rfl | rfl | rfl
      · exact ⟨0, rfl⟩
      · exact ⟨1, rfl⟩
      · exact ⟨0, rfl⟩
      · exact ⟨1, rfl⟩
    have ez1 : hs[z]? = some (.tup [.int n, .int t, .int m]) := C1.at (app_at ez _) hbz
    have zl := lt_of_at ez1
    have bl1 := B1.lt
    rw [gSet, wp_ok, sSeq_assoc]
    refine ws_cut (StA hs b z (c + 4 * i) n t m pk 3) ?_ ?_
    · refine ws_cut (StA hs b z (c + 4 * i) n t m pk 0) ?_ ?_
      · simp -implicitDefEqProofs
        refine take2 B1 (by decide) (by decide) (by omega) fun w h2 d2 B2 C2 => ?_
        have ez2 := C2.at ez1 hbz
        simp -implicitDefEqProofs [o_list (seq_tup ez2)]
        have hl := C2.1
        refine ⟨u3, u4, u5, u8, w + 1, h2.length, fun k => .int (sz n t m k), by simp; omega, by omega, by omega, hl, ⟨by simp [sz], fun k _ hk => absurd hk (Nat.not_lt_zero _), fun k _ _ => rfl⟩, (B2.app _).mono (by omega), C2.app _⟩
      · rintro r1 h1 ⟨u3, u4, u5, u8, wrong, p, x, rfl, w0, w1, hp, P, B2, C2⟩
        simp -implicitDefEqProofs only [ws_for, o_rng1, eC, wp_ok]
        refine ⟨by decide, ?_⟩
        refine ws_rng (StA hs b z (c + 4 * i) n t m pk) ⟨u3, u4, u5, u8, wrong, p, x, rfl, w0, w1, hp, P, B2, C2⟩ ?_ ?_
        · rintro j r2 h2 hj ⟨u3, u4, u5, u8, wrong, p, x, rfl, w0, w1, hp, P, B2, C2⟩
          simp -implicitDefEqProofs only [gSet, wp_ok, List.set_cons_succ, List.set_cons_zero, Int.zero_add]
          refine turn_spec (u3 := none) F (by simpa using hj) B2 (by simp at hj; omega) (C2.at ez1 hbz) hbz hp zl bl1 P fun v3 v8 x' h3 P' B3 _ fr ln => ?_
          exact ⟨v3, u4, u5, v8, wrong, p, x', rfl, w0, w1, hp, P', B3.mono (by omega), ⟨Nat.le_trans C2.1 ln, fun k hk hb => (fr k hk hb).trans (C2.2 k hk hb)⟩⟩
        · rintro r2 h2 w2
          exact ⟨rfl, w2⟩
    · rintro r1 h1 ⟨u3, u4, u5, u8, wrong, p, x, rfl, w0, w1, hp, P, B2, C2⟩
      rw [ws_seq, ws_set]
      simp -implicitDefEqProofs only [eBin, wp_bind]
      refine wp_lc_rng (n := 3) (by decide) (LcI h1 wrong) ⟨.inl ⟨rfl, fun k hk => absurd hk (Nat.not_lt_zero _)⟩, Old.app _ _⟩ ?_ ?_
      · rintro j acc h2 hj hD ⟨fi, O2⟩
        simp -implicitDefEqProofs only [gSet, wp_ok, wipe, List.set_cons_succ, List.set_cons_zero]
        refine bit_test (k := j) (wrong := wrong) hj (by simp) (by simp) fun h3 O3 => ?_
        by_cases hb : bit wrong j
        · rw [if_pos (decide_eq_true hb)]
          simp -implicitDefEqProofs
          refine ⟨O3.at hD, ⟨?_, ?_⟩⟩
          · rcases fi with ⟨rfl, no⟩ | ⟨k, hk, ek, bk, fk⟩
            · exact .inr ⟨j, by omega, rfl, hb, no⟩
            · exact .inr ⟨k, by omega, by rw [List.getElem?_append_left (List.getElem?_eq_some_iff.mp ek).1]; exact ek, bk, fk⟩
          · refine ⟨by have := O2.1; have := O3.1; simp; omega, fun k hk => ?_⟩
            rw [List.getElem?_set_ne (by omega), O3.2 k (by have := O2.1; omega), O2.2 k hk]
        · rw [if_neg (by simp [hb])]
          refine ⟨O3.at hD, ⟨?_, O2.trans O3⟩⟩
          rcases fi with ⟨rfl, no⟩ | ⟨k, hk, ek, bk, fk⟩
          · refine .inl ⟨rfl, fun k hk => ?_⟩
            by_cases e : k = j
            · rw [e]; exact hb
            · exact no k (by omega)
          · exact .inr ⟨k, by omega, ek, bk, fk⟩
      · rintro acc h2 hD ⟨fi, O2⟩
        obtain ⟨j, hj, ej, bj, fj⟩ := fi.end_ w0 w1
        have P2 : Pass h2 hs.length p n t m wrong 3 x := P.up (fun _ _ _ e => O2.at e) hp
        have k := (P2.odd j hj hj bj).1.known
        simp -implicitDefEqProofs only [eC, wp_ok]
        rw [o_ix (seq_lst hD)]
        rw [show (0 : Int) = ((0 : Nat) : Int) from rfl, item_nn 0 ej, thenS_nx]
        simp -implicitDefEqProofs [o_ix (seq_lst P2.at_)]
        refine asked_bad (bad_of F P2 hj bj fj) k fun pT h3 eT O3 => ?_
        have P3 : Pass h3 hs.length p n t m wrong 3 x := P2.up (fun _ _ _ e => O3.at e) hp
        have names : ∀ {R' : W → Prop}, R' (.str (tag (code j))) → itemAt [.str "records", .str "changes", .str "contents"] (j : Int) R' := fun {R'} q => by
          have j3 : j = 0 ∨ j = 1 ∨ j = 2 := by omega
          rcases j3 with rfl | rfl | rfl <;> simpa [tag, code] using q
        have pass : ∀ {R' : W → Prop}, R' (x j) → itemAt [x 0, x 1, x 2] (j : Int) R' := fun {R'} q => by
          have j3 : j = 0 ∨ j = 1 ∨ j = 2 := by omega
          rcases j3 with rfl | rfl | rfl <;> simpa using q
        simp -implicitDefEqProofs [o_ix (seq_lst eT)]
        refine names ?_
        simp -implicitDefEqProofs [o_ix (seq_lst (app_at eT _)), o_ix (seq_lst (app_at P3.at_ _))]
        refine pass ?_
        refine same_spec (lo := hs.length) ((P3.odd j hj hj bj).1.up fun q c hq e _ => app_at e _) fun h4 l4 s4 => ?_
        simp -implicitDefEqProofs
        have C3 : Ch b hs h4 := by
          have C5 : Ch b hs (h3 ++ [Cell.lst [.str "records", .str "changes", .str "contents"]]) := ((C2.trans (O2.ch b)).trans (O3.ch b)).app _
          exact ⟨Nat.le_trans C5.1 l4, fun k hk hb => (s4 k hk).trans (C5.2 k hk hb)⟩
        have B4 : Box h4 b (c + 4 * i + 1 + 3) := by
          obtain ⟨z0, f0, m0, k0, eb, rb⟩ := ((B2.old O2).old O3).app [Cell.lst [.str "records", .str "changes", .str "contents"]]
          exact ⟨z0, f0, m0, k0, by rw [s4 b bl1]; exact eb, rb⟩
        exact ⟨_, _, _, _, _, _, _, rfl, B4.mono (by simp; omega), C1.trans C3⟩
  · rintro r1 h1 ⟨u2, u3, u4, u5, u6, u7, u8, rfl, B1, C1⟩
    simp -implicitDefEqProofs
    exact q h1 (B1.mono (by simp)) (((Old.app h _).ch b).trans C1)
end K31
set_option Elab.async false
set_option autoImplicit false
set_option linter.all false
set_option maxRecDepth 100000
namespace K31
open Mini Cnt
open PySem (Str PyData)
structure StR (h0 : MH) (b z n t m : Nat) (r : Env) (h : MH) : Prop where
  ex : ∃ (u6 u7 : Option W), r = [some (.ref b), some (.ref z), some (.int n), some (.int t), some (.int m), some (.bl (above n t m)), u6, u7, none] ∧ Old h0 h
structure StS (h0 : MH) (b z n t m : Nat) (s : Nat) (r : Env) (h : MH) : Prop where
  ex : ∃ (u6 u7 : Option W), r = [some (.ref b), some (.ref z), some (.int n), some (.int t), some (.int m), some (.bl (above n t m)), u6, u7, some (.int s)] ∧ Old h0 h
theorem C_one (n : Nat) : C n 1 = n := by
  have := C_step n 0
  simp [C_zero] at this
  exact this
theorem Least.gt {n t m s : Nat} (F : Fit n t m) (L : Least n t m s) : (t < s) ↔ f n m t < Sm n (m - 1) t := by
  obtain ⟨f1, f2, f3, f4, f5, f6⟩ := F
  obtain ⟨l1, l2, l3⟩ := L
  constructor
  · intro h
    exact l3 t f3 h
  · intro h
    refine Nat.lt_of_not_le fun c => ?_
    have := f_mono (n := n) (m := m) (by omega) l1 c
    omega
/-- the answer for these sizes: 0 where one change among two contents, else the least lines -/
def Ans (n t m s : Nat) : Prop := (m = 2 ∧ t = 1 ∧ s = 0) ∨ (¬ (m = 2 ∧ t = 1) ∧ Least n t m s)
theorem needed_any {h : MH} {n t m : Nat} {Q : W → MH → Prop} {X : XQ} (F : Fit n t m) (q : ∀ s h', Ans n t m s → Old h h' → Q (.int (s : Nat)) h') : (m_least_needed [.int n, .int t, .int m] h).wp Q X := by
  by_cases c : m = 2 ∧ t = 1
  · obtain ⟨rfl, rfl⟩ := c
    exact needed0 F (q 0 h (.inl ⟨rfl, rfl, rfl⟩) (Old.refl _))
  · exact needed_spec F c fun s h' L O => q s h' (.inr ⟨c, L⟩) O
theorem Ans.enough {n t m s L : Nat} (F : Fit n t m) (A : Ans n t m s) (hL : C n t ≤ m ^ L) : s ≤ t + L + 1 := by
  rcases A with ⟨_, _, rfl⟩ | ⟨_, l1, l2, l3⟩
  · omega
  · obtain ⟨f1, f2, f3, f4, f5, f6⟩ := F
    obtain ⟨p, rfl⟩ : ∃ p, m = p + 1 := ⟨m - 1, by omega⟩
    have := room_end (n := n) (q := p) (t := t) (L := L) f4 (by omega) hL
    refine Nat.le_of_not_lt fun c => ?_
    have := l3 (t + L + 1) (by omega) c
    simp at this
    omega
theorem Ans.due {n t m s : Nat} (F : Fit n t m) (A : Ans n t m s) (hd : above n t m = true) : t < s := by
  have hd := of_decide_eq_true hd
  rcases A with ⟨rfl, rfl, rfl⟩ | ⟨_, L⟩
  · rw [C_one] at hd
    omega
  · refine (L.gt F).mpr ?_
    obtain ⟨f1, f2, f3, f4, f5, f6⟩ := F
    obtain ⟨p, rfl⟩ : ∃ p, m = p + 1 := ⟨m - 1, by omega⟩
    exact due_more f3 f4 hd
theorem right_spec {h : MH} {b z : Nat} {n t m : Nat} {Q : W → MH → Prop} {X : XQ} (F : Fit n t m) (ez : h[z]? = some (.tup [.int n, .int t, .int m])) (q : ∀ h', Old h h' → Q (.bl true) h') :
    (m__law_right [.ref b, .ref z] h).wp Q X := by
  unfold m__law_right
  rw [wp_fn]
  unfold b__law_right
  rw [sSeq_assoc, sSeq_assoc]
  refine ws_cut (StR h b z n t m) ?_ ?_
  · refine ws_cut (StR h b z n t m) ?_ ?_
    · simp -implicitDefEqProofs [o_untup ez]
      refine due_spec F ez ?_
      exact ⟨_, _, rfl, Old.refl _⟩
    · rintro r h1 ⟨u6, u7, rfl, O1⟩
      rw [ws_forL]
      simp -implicitDefEqProofs only [o_lst, aCons, aNil, eC, wp_bind, wp_ok, List.length_cons, List.length_nil]
      refine ⟨by decide, ?_⟩
      refine ws_lst (new_at h1 _) (fun i r h2 => StR h b z n t m r h2 ∧ Old (h1 ++ [.lst [.int 0, .int 1]]) h2) ⟨⟨u6, u7, rfl, O1.trans (Old.app _ _)⟩, Old.refl _⟩ (fun i r h2 w => w.2.at (new_at _ _)) ?_ ?_
      · rintro i x r h2 hx ⟨⟨u6, u7, rfl, O2⟩, O3⟩
        obtain ⟨pk, rfl⟩ : ∃ pk : Nat, x = .int pk := by
          have := List.mem_of_getElem? hx
          simp at this
          rcases this with rfl | rfl
          · exact ⟨0, rfl⟩
          · exact ⟨1, rfl⟩
        rw [gSet, wp_ok]
        simp -implicitDefEqProofs
        refine asked_ok F fun p h3 ep O4 => ?_
        simp -implicitDefEqProofs [o_ix (seq_lst ep)]
        exact ⟨⟨_, _, rfl, O2.trans O4⟩, O3.trans O4⟩
      · rintro r h2 ⟨w, _⟩
        exact ⟨rfl, w⟩
  · rintro r h1 ⟨u6, u7, rfl, O1⟩
    rw [ws_seq, ws_set]
    simp -implicitDefEqProofs only [eCall, wp_bind, aCons, aNil, eVar, List.getElem?_cons_zero, List.getElem?_cons_succ, wp_ok]
    refine needed_any F fun s h2 A O2 => ?_
    rw [thenS_nx]
    have e2 := (O1.trans O2).at ez
    refine ws_cut (StS h b z n t m s) ?_ ?_
    · simp -implicitDefEqProofs
      refine enough_spec F fun L h3 hL O3 => ?_
      have a1 := A.enough F hL
      have a2 := A.due F
      have n1 : ¬ ((t : Int) + L + 1 < s) := by omega
      by_cases hd : above n t m = true
      · have n2 : ¬ ((s : Int) ≤ t) := by have := a2 hd; omega
        simp -implicitDefEqProofs [hd, n1, n2]
        exact ⟨by have := a2 hd; omega, u6, u7, by rw [hd], (O1.trans O2).trans O3⟩
      · have hd' : above n t m = false := by simpa using hd
        simp -implicitDefEqProofs [hd', n1]
        exact ⟨u6, u7, by rw [hd'], (O1.trans O2).trans O3⟩
    rintro r h3 ⟨u6, u7, rfl, O3⟩
    have e3 := O3.at ez
    refine ws_cut (StS h b z n t m s) ?_ ?_
    · obtain ⟨p, hm⟩ : ∃ p, m = p + 1 := ⟨m - 1, by have := F.m0; omega⟩
      subst hm
      have mm : ∀ (h4 : MH), (∀ h5, Old h4 h5 → Old h h5) → h4[z]? = some (.tup [.int n, .int t, .int ((p : Int) + 1)]) → ¬ (p + 1 = 2 ∧ t = 1) → (m__law_lines_lack [.ref z] h4).wp (fun w h5 => w = .bl (decide (t < s)) ∧ Old h h5) X := fun h4 k4 e4 c => by
        refine lack_spec F e4 fun h5 O5 => ⟨?_, k4 h5 O5⟩
        rcases A with ⟨x1, x2, _⟩ | ⟨_, L⟩
        · exact absurd ⟨x1, x2⟩ c
        · have := L.gt F
          simp at this
          rw [decide_eq_decide.mpr this.symm]
      have e3' : h3[z]? = some (.tup [.int n, .int t, .int ((p : Int) + 1)]) := by simpa using e3
      simp -implicitDefEqProofs
      split
      · refine (mm h3 (fun h5 O => O3.trans O) e3' (by omega)).imp (fun w h5 w5 => ?_) (fun _ _ _ x => x)
        obtain ⟨rfl, O5⟩ := w5
        simp -implicitDefEqProofs
        exact ⟨u6, u7, by simp, O5⟩
      · split
        · refine (mm h3 (fun h5 O => O3.trans O) e3' (by omega)).imp (fun w h5 w5 => ?_) (fun _ _ _ x => x)
          obtain ⟨rfl, O5⟩ := w5
          simp -implicitDefEqProofs
          exact ⟨u6, u7, by simp, O5⟩
        · exact ⟨u6, u7, by simp, O3⟩
    rintro r h4 ⟨u6, u7, rfl, O4⟩
    refine ws_cut (StS h b z n t m s) ?_ ?_
    · simp -implicitDefEqProofs
      refine above_spec (n := n) (t := 1) (m := m) ⟨F.n0, F.n1, by decide, F.n0, F.m0, F.m1⟩ ?_
      have e : above n 1 m = decide ((3 : Int) < m) := by
        unfold above
        apply decide_eq_decide.mpr
        rw [C_one]
        have : m * n = n * m := Nat.mul_comm _ _
        rw [this]
        constructor
        · intro x
          have : n * 3 < n * m := by omega
          have := Nat.lt_of_mul_lt_mul_left this
          omega
        · intro x
          have : n * 4 ≤ n * m := Nat.mul_le_mul_left _ (by omega)
          have := F.n0
          omega
      rw [e]
      simp -implicitDefEqProofs
      exact ⟨_, _, rfl, O4⟩
    rintro r h5 ⟨u6, u7, rfl, O5⟩
    simp -implicitDefEqProofs
    have F1 : Fit n 1 m := ⟨F.n0, F.n1, by decide, F.n0, F.m0, F.m1⟩
    refine needed_any (n := n) (t := 1) (m := m) F1 fun s1 h6 A1 O6 => ?_
    have z := q _ (O5.trans (O6.trans (Old.app h6 [Cell.lst [W.int 0, W.int 0, W.int 0, W.int 1, W.int 2]])))
    have f1 := F.n0
    have sm : Sm n (m - 1) 1 = n * (m - 1) := by simp [Sm, C_one]
    have fx : f n m 1 = 2 * n := by unfold f; simp
    have fy : f n m 2 = 2 * (n + 1) * m := by unfold f; simp
    have f5 := F.m0
    by_cases c2 : m = 2
    · subst c2
      have : s1 = 0 := by
        rcases A1 with ⟨_, _, e⟩ | ⟨c, _⟩
        · exact e
        · exact absurd ⟨rfl, rfl⟩ c
      subst this
      simp -implicitDefEqProofs
      exact z
    · have L : Least n 1 m s1 := by
        rcases A1 with ⟨e, _, _⟩ | ⟨_, L⟩
        · exact absurd e c2
        · exact L
      obtain ⟨l1, l2, l3⟩ := L
      rw [sm] at l2 l3
      by_cases c3 : m = 3
      · subst c3
        have : s1 = 1 := by
          by_cases c : 1 < s1
          · have := l3 1 (by omega) c
            rw [fx] at this
            omega
          · omega
        subst this
        simp -implicitDefEqProofs
        exact z
      · have p3 : n * 3 ≤ n * (m - 1) := Nat.mul_le_mul_left _ (by omega)
        have p4 : n * (m - 1) ≤ (n + 1) * m := Nat.mul_le_mul (by omega) (by omega)
        have e5 : 2 * (n + 1) * m = (n + 1) * m + (n + 1) * m := by rw [Nat.mul_assoc]; omega
        have : s1 = 2 := by
          by_cases c : 2 < s1
          · have := l3 2 (by omega) c
            rw [fy] at this
            omega
          · by_cases c1 : s1 = 1
            · subst c1
              rw [fx] at l2
              omega
            · omega
        subst this
        rw [if_neg (by omega)]
        simp -implicitDefEqProofs
        exact z
theorem sizes_any {h : MH} {z : Nat} (S : Siz h z) : ∃ n t m : Nat, Fit n t m ∧ h[z]? = some (.tup [.int n, .int t, .int m]) := S
end K31
set_option Elab.async false
set_option autoImplicit false
set_option linter.all false
set_option maxRecDepth 100000
namespace K31
open Mini Cnt
open PySem (Str PyData)
theorem ne_pair {h : MH} {p q : Nat} {s : Str} {v : W} {d : PyData} (ep : h[p]? = some (.lst [.str s, v])) (eq : h[q]? = some (.lst [.str s, v])) (hd : ∀ n, dataOf h (n + 1) v = some d) (hs : PySem.SeqAt.shaped (.list [.str s, d]) = true) : gNe (.ref p) (.ref q) h = .ok (.bl false) h := by
  have e1 : dataOf h dep (.ref p) = some (.list [.str s, d]) := by
    show (match h[p]? with | some (.lst xs) => (dataAll (dataOf h 11) xs).map PyData.list | some (.fz xs) => _ | some (.cl xs) => _ | some (.tup xs) => _ | some (.ct xs) => _ | _ => none) = _
    rw [ep]
    simp only [dataAll, hd 10]
    rfl
  have e2 : dataOf h dep (.ref q) = some (.list [.str s, d]) := by
    show (match h[q]? with | some (.lst xs) => (dataAll (dataOf h 11) xs).map PyData.list | some (.fz xs) => _ | some (.cl xs) => _ | some (.tup xs) => _ | some (.ct xs) => _ | _ => none) = _
    rw [eq]
    simp only [dataAll, hd 10]
    rfl
  have er : PyData.eqv (.list [.str s, d]) (.list [.str s, d]) = true := PySem.SeqAt.eqv_refl _ (PySem.SeqAt.canLay_of_shaped hs)
  unfold gNe eqB
  simp only [scl, e1, e2, hs, er]
  rfl
theorem bounds_spec {h : MH} {Q : W → MH → Prop} {X : XQ} (q : ∀ h', Old h h' → Q (.bl true) h') : (m__law_bounds_right [] h).wp Q X := by
  unfold m__law_bounds_right
  rw [wp_fn]
  unfold b__law_bounds_right
  rw [ws_seq, ws_for]
  simp -implicitDefEqProofs only [o_rng1, eC, wp_ok]
  refine ⟨by decide, ?_⟩
  refine ws_rng (fun i r h1 => (∃ u, r = [u]) ∧ Old h h1) ⟨⟨none, rfl⟩, Old.refl _⟩ ?_ ?_
  · rintro i r h1 hi ⟨⟨u, rfl⟩, O⟩
    simp -implicitDefEqProofs
    have d1 : above 1000 1 10000 = true := by decide +kernel
    have d2 : above 1000 1 3 = false := by decide +kernel
    have d3 : above 9 9 2 = false := by decide +kernel
    refine asked_ok (n := 1000) (t := 1) (m := 10000) ⟨by decide, by decide, by decide, by decide, by decide, by decide⟩ fun p h2 ep O2 => ?_
    rw [d1] at ep
    rw [ne_pair (app_at ep _) (by simp) (fun _ => rfl) (by decide +kernel)]
    simp -implicitDefEqProofs
    refine asked_bad (a := .int 9) (b := .int 10) (c := .int 2) (.t (by decide) (by decide)) rfl fun p h3 ep O3 => ?_
    rw [ne_pair (s := "changes") (app_at ep _) (by simp) (fun _ => rfl) (by decide +kernel)]
    simp -implicitDefEqProofs
    refine asked_bad (a := .int 1001) (b := .int 1) (c := .int 10000) (.r (by decide)) rfl fun p h4 ep O4 => ?_
    rw [ne_pair (s := "records") (app_at ep _) (by simp) (fun _ => rfl) (by decide +kernel)]
    simp -implicitDefEqProofs
    refine asked_ok (n := 1000) (t := 1) (m := 3) ⟨by decide, by decide, by decide, by decide, by decide, by decide⟩ fun p h5 ep O5 => ?_
    rw [d2] at ep
    rw [ne_pair (app_at ep _) (by simp) (fun _ => rfl) (by decide +kernel)]
    simp -implicitDefEqProofs
    refine asked_bad (a := .int 1000) (b := .int 1) (c := .int 10001) (.m (by decide) (by decide) (by decide)) rfl fun p h6 ep O6 => ?_
    rw [ne_pair (s := "contents") (app_at ep _) (by simp) (fun _ => rfl) (by decide +kernel)]
    simp -implicitDefEqProofs
    refine asked_ok (n := 9) (t := 9) (m := 2) ⟨by decide, by decide, by decide, by decide, by decide, by decide⟩ fun p h7 ep O7 => ?_
    rw [d3] at ep
    rw [ne_pair (app_at ep _) (by simp) (fun _ => rfl) (by decide +kernel)]
    simp -implicitDefEqProofs
    exact O.trans (O2.trans ((Old.app _ _).trans (O3.trans ((Old.app _ _).trans (O4.trans ((Old.app _ _).trans (O5.trans ((Old.app _ _).trans (O6.trans ((Old.app _ _).trans (O7.trans (Old.app _ _))))))))))))
  · rintro r h1 ⟨_, O⟩
    simp -implicitDefEqProofs
    exact q h1 O
structure LawI (ns : List Int) (r : Env) (h : MH) : Prop where
  ex : ∃ u1 u2 u3 u4 u5 : Option W, r = [some (.ref 0), u1, u2, u3, u4, u5] ∧ Scr h 0 ns
structure AtI (ns : List Int) (L : Nat) (i : Nat) (r : Env) (h : MH) : Prop where
  ex : ∃ (u1 u3 u5 : Option W) (b wl z1 z2 : Nat), r = [some (.ref 0), u1, some (.ref b), u3, some (.ref wl), u5] ∧ Scr h 0 ns ∧ Box h b (41 + 16 * i) ∧ h[wl]? = some (.lst [.ref z1, .ref z2]) ∧ Siz h z1 ∧ Siz h z2 ∧ 0 ≠ b ∧ wl ≠ b ∧ z1 ≠ b ∧ z2 ≠ b ∧ L ≠ b ∧ h[L]? = some (.lst [.int 0, .int 1, .int 0])
theorem Scr.ch {h h' : MH} {b s : Nat} {ns : List Int} (S : Scr h s ns) (C : Ch b h h') (hn : s ≠ b) : Scr h' s ns := by
  rcases S with e | e
  · exact .inl (C.at e hn)
  · exact .inr (C.at e hn)
theorem Siz.ch {h h' : MH} {b z : Nat} (S : Siz h z) (C : Ch b h h') (hn : z ≠ b) : Siz h' z := by
  obtain ⟨n, t, m, F, e⟩ := S
  exact ⟨n, t, m, F, C.at e hn⟩
theorem law_right (ns : List Int) (c : Cell) (hl : ns.length ≤ 63) (hc : Br.Script ns c) : ∃ h, m_law [.ref 0] [c] = .ok (.bl true) h := by
  have main : (m_law [.ref 0] [c]).wp (fun w _ => w = .bl true) (fun _ _ _ => False) := by
    have S0 : Scr [c] 0 ns := by
      rcases hc with rfl | rfl
      · exact .inl rfl
      · exact .inr rfl
    unfold m_law
    rw [wp_fn]
    unfold b_law
    rw [ws_seq, ws_for]
    simp -implicitDefEqProofs [o_rng1, o_len S0.seq]
    have ln : ∃ n : Nat, (if (1 : Int) < (if (ns.length : Int) < 6 then (ns.length : Int) else 6) then (if (ns.length : Int) < 6 then (ns.length : Int) else 6) else 1) = (n : Int) ∧ n ≤ 6 := by
      refine ⟨if 1 < (if ns.length < 6 then ns.length else 6) then (if ns.length < 6 then ns.length else 6) else 1, ?_, ?_⟩
      · split <;> split <;> (try split) <;> (try split) <;> omega
      · split <;> (try split) <;> omega
    obtain ⟨n, en, n6⟩ := ln
    rw [en]
    refine ⟨by simp [rOk]; omega, ?_⟩
    refine ws_rng (fun _ r h => LawI ns r h) ⟨_, _, _, _, _, rfl, S0⟩ ?_ ?_
    · rintro i r h hi ⟨u1, u2, u3, u4, u5, rfl, S⟩
      have s0 := S.lt
      simp -implicitDefEqProofs
      refine cell_spec S (by simp at hi; omega) fun v h1 O1 => ?_
      refine box_spec fun h2 B2 O2 l2 => ?_
      have bl := B2.lt
      have hb : 0 < h1.length := Nat.lt_of_lt_of_le s0 O1.1
      have S2 : Scr h2 0 ns := (S.ch (O1.ch h1.length) (by omega)).ch (O2.ch h1.length) (by omega)
      refine take2 B2 (by decide) (by decide) (by decide) fun d h3 d3 B3 C3 => ?_
      have S3 := S2.ch C3 (by omega)
      have go : ∀ g : Bool, (m__law_sizes [.ref h1.length, .bl g] h3).wp (fun a h => (m__law_sizes [.ref h1.length, .bl false] h).wp (fun a_1 h =>
          (forIn_ (.ref (h.length + 1)) (gSet 5) (sIf (Mini.tOr (Mini.tNot (tTru (Mini.eCall m__law_right (aCons (eVar 2) (aCons (eBin gIx (eVar 4) (eVar 5)) aNil))))) (Mini.tNot (tTru (Mini.eCall m__law_refused_right (aCons (eVar 2) (aCons (eBin gIx (eVar 4) (eVar 5)) aNil))))))
            (sRet (eC (.bl false))) sNx) [some (.ref 0), some (.int (i : Nat)), some (.ref h1.length), some (.int (d : Nat)), some (.ref h.length), u5] (h ++ [.lst [a, a_1], .lst [.int 0, .int 1, .int 0]])).wp
            (turnS (fun r2 h2 => LawI ns r2 h2) (thenS (fun r1 h1 => (m__law_bounds_right [] h1).wp (fun w x => w = .bl true) fun c d h1 => False) (retS fun w x => w = .bl true))) fun c d x h1 => False) fun c d h1 => False) fun c d h1 => False := fun g => by
        refine sizes_spec B3 (by decide) fun z1 h4 Z1 zl1 zn1 B4 C4 => ?_
        refine sizes_spec B4 (by decide) fun z2 h5 Z2 zl2 zn2 B5 C5 => ?_
        have l3 := C3.1
        have l4 := C4.1
        have l5 := C5.1
        have S5 := (S3.ch C4 (by omega)).ch C5 (by omega)
        have e2 : (h5 ++ [Cell.lst [.ref z1, .ref z2], Cell.lst [.int 0, .int 1, .int 0]])[h5.length + 1]? = some (.lst [.int 0, .int 1, .int 0]) := by
          rw [List.getElem?_append_right (by omega), show h5.length + 1 - h5.length = 1 by omega]; rfl
        have e1 : (h5 ++ [Cell.lst [.ref z1, .ref z2], Cell.lst [.int 0, .int 1, .int 0]])[h5.length]? = some (.lst [.ref z1, .ref z2]) := by
          rw [List.getElem?_append_right (by omega), show h5.length - h5.length = 0 by omega]; rfl
        have OA : Old h5 (h5 ++ [Cell.lst [.ref z1, .ref z2], Cell.lst [.int 0, .int 1, .int 0]]) := Old.app _ _
        refine ws_lst e2 (AtI ns (h5.length + 1)) ⟨_, _, _, h1.length, h5.length, z1, z2, rfl, S5.ch (OA.ch h1.length) (by omega), (B5.old OA).mono (by decide), e1, (Z1.ch C5 (by omega)).ch (OA.ch h1.length) (by omega), Z2.ch (OA.ch h1.length) (by omega), by omega, by omega, by omega, by omega, by omega, e2⟩
          (fun i r h w => by obtain ⟨_, _, _, _, _, _, _, _, _, _, _, _, _, _, _, _, _, _, e⟩ := w; exact e) ?_ ?_
        · rintro j x r h6 hx ⟨v1, v3, v5, b, wl, y1, y2, rfl, S6, B6, ew, Y1, Y2, n0, nw, n1, n2, nL, eL⟩
          have jl : j < 3 := (List.getElem?_eq_some_iff.mp hx).1
          have xs : x = .int 0 ∨ x = .int 1 := by
            have := List.mem_of_getElem? hx
            simp at this
            rcases this with rfl | rfl | rfl
            · exact .inl rfl
            · exact .inr rfl
            · exact .inl rfl
          have fin : ∀ y, Siz h6 y → y ≠ b → (m__law_right [.ref b, .ref y] h6).wp (fun w h => w = .bl true ∧ Old h6 h ∧ (m__law_refused_right [.ref b, .ref y] h).wp (fun w h => w = .bl true ∧ AtI ns (h5.length + 1) (j + 1) [some (.ref 0), v1, some (.ref b), v3, some (.ref wl), some x] h) fun c d h1 => False) fun c d h1 => False := fun y Y ny => by
            obtain ⟨n, t, m, F, e⟩ := Y
            refine right_spec F e fun h7 O7 => ⟨rfl, O7, ?_⟩
            refine refused_spec F (B6.old O7) (O7.at e) ny (by omega) fun h8 B8 C8 => ⟨rfl, ?_⟩
            have C := (O7.ch b).trans C8
            exact ⟨_, _, _, b, wl, y1, y2, rfl, S6.ch C n0, B8.mono (by omega), C.at ew nw, Y1.ch C n1, Y2.ch C n2, n0, nw, n1, n2, nL, C.at eL nL⟩
          rcases xs with rfl | rfl
          · simp -implicitDefEqProofs [o_ix (seq_lst ew)]
            refine (fin y1 Y1 n1).imp (fun w h w7 => ?_) (fun _ _ _ x => x)
            obtain ⟨rfl, O7, w7⟩ := w7
            simp -implicitDefEqProofs [o_ix (seq_lst (O7.at ew))]
            refine w7.imp (fun w h w8 => ?_) (fun _ _ _ x => x)
            obtain ⟨rfl, w8⟩ := w8
            simp -implicitDefEqProofs
            exact w8
          · simp -implicitDefEqProofs [o_ix (seq_lst ew)]
            refine (fin y2 Y2 n2).imp (fun w h w7 => ?_) (fun _ _ _ x => x)
            obtain ⟨rfl, O7, w7⟩ := w7
            simp -implicitDefEqProofs [o_ix (seq_lst (O7.at ew))]
            refine w7.imp (fun w h w8 => ?_) (fun _ _ _ x => x)
            obtain ⟨rfl, w8⟩ := w8
            simp -implicitDefEqProofs
            exact w8
        · rintro r h6 ⟨v1, v3, v5, b, wl, y1, y2, rfl, S6, _⟩
          simp -implicitDefEqProofs
          exact ⟨_, _, _, _, _, rfl, S6⟩
      by_cases hd : d = 0
      · subst hd
        simp -implicitDefEqProofs
        exact go _
      · have hd' : ¬ ((d : Int) = 0) := by omega
        simp -implicitDefEqProofs [hd', hd]
        exact go _
    · rintro r h ⟨u1, u2, u3, u4, u5, rfl, S⟩
      simp -implicitDefEqProofs
      exact bounds_spec fun h' _ => by simp
  obtain ⟨a, h, e, rfl⟩ := main.toOk
  exact ⟨h, e⟩
end K31
set_option Elab.async false
set_option linter.all false
set_option autoImplicit false
set_option maxRecDepth 100000
set_option maxHeartbeats 2100000
namespace K31
open PySem PySem.Spec PyProof.Rows L2 Mini Br
def top (i : Nat) : Stmt := PySem.Challenge.pw_leastspare_k31_changes_or_one_more.main.body.getD i (.Pass ⟨0, 0, 0, 0⟩)
abbrev s_is_whole : Stmt := top 6
theorem sc_is_whole : FnScope ["value"] ["value"] (defScope s_is_whole) := ⟨rfl, rfl, rfl, by decide +kernel, rfl, by decide +kernel, by decide +kernel⟩
abbrev s_is_between : Stmt := top 7
theorem sc_is_between : FnScope ["value", "least", "most"] ["value", "least", "most"] (defScope s_is_between) := ⟨rfl, rfl, rfl, by decide +kernel, rfl, by decide +kernel, by decide +kernel⟩
abbrev s_choose : Stmt := top 9
theorem sc_choose : FnScope ["many", "few", "found", "k"] ["many", "few"] (defScope s_choose) := ⟨rfl, rfl, rfl, by decide +kernel, rfl, by decide +kernel, by decide +kernel⟩
abbrev s_least_places : Stmt := top 10
theorem sc_least_places : FnScope ["count", "contents", "places", "told"] ["count", "contents"] (defScope s_least_places) := ⟨rfl, rfl, rfl, by decide +kernel, rfl, by decide +kernel, by decide +kernel⟩
abbrev s_count_wishes : Stmt := top 11
theorem sc_count_wishes : FnScope ["records", "changes", "contents", "found", "sets", "ways", "k"] ["records", "changes", "contents"] (defScope s_count_wishes) := ⟨rfl, rfl, rfl, by decide +kernel, rfl, by decide +kernel, by decide +kernel⟩
abbrev s_check_sizes : Stmt := top 15
theorem sc_check_sizes : FnScope ["records", "changes", "contents"] ["records", "changes", "contents"] (defScope s_check_sizes) := ⟨rfl, rfl, rfl, by decide +kernel, rfl, by decide +kernel, by decide +kernel⟩
abbrev s_least_needed : Stmt := top 16
theorem sc_least_needed : FnScope ["records", "changes", "contents", "needed", "spare", "fillings"] ["records", "changes", "contents"] (defScope s_least_needed) := ⟨rfl, rfl, rfl, by decide +kernel, rfl, by decide +kernel, by decide +kernel⟩
abbrev s_enough : Stmt := top 17
theorem sc_enough : FnScope ["records", "changes", "contents"] ["records", "changes", "contents"] (defScope s_enough) := ⟨rfl, rfl, rfl, by decide +kernel, rfl, by decide +kernel, by decide +kernel⟩
abbrev s_is_above : Stmt := top 18
theorem sc_is_above : FnScope ["records", "changes", "contents", "sets"] ["records", "changes", "contents"] (defScope s_is_above) := ⟨rfl, rfl, rfl, by decide +kernel, rfl, by decide +kernel, by decide +kernel⟩
abbrev s__law_cell : Stmt := top 20
theorem sc__law_cell : FnScope ["script", "k"] ["script", "k"] (defScope s__law_cell) := ⟨rfl, rfl, rfl, by decide +kernel, rfl, by decide +kernel, by decide +kernel⟩
abbrev s__law_box : Stmt := top 21
theorem sc__law_box : FnScope ["great"] ["great"] (defScope s__law_box) := ⟨rfl, rfl, rfl, by decide +kernel, rfl, by decide +kernel, by decide +kernel⟩
abbrev s__law_take : Stmt := top 22
theorem sc__law_take : FnScope ["box", "many", "digit", "mixed"] ["box", "many"] (defScope s__law_take) := ⟨rfl, rfl, rfl, by decide +kernel, rfl, by decide +kernel, by decide +kernel⟩
abbrev s__law_choose : Stmt := top 23
theorem sc__law_choose : FnScope ["records", "few", "found", "k"] ["records", "few"] (defScope s__law_choose) := ⟨rfl, rfl, rfl, by decide +kernel, rfl, by decide +kernel, by decide +kernel⟩
abbrev s__law_sizes : Stmt := top 24
theorem sc__law_sizes : FnScope ["box", "great", "scale", "part", "near", "records", "few", "last", "drawn", "many"] ["box", "great"] (defScope s__law_sizes) := ⟨rfl, rfl, rfl, by decide +kernel, rfl, by decide +kernel, by decide +kernel⟩
abbrev s__law_due : Stmt := top 25
theorem sc__law_due : FnScope ["sizes", "records", "few", "many"] ["sizes"] (defScope s__law_due) := ⟨rfl, rfl, rfl, by decide +kernel, rfl, by decide +kernel, by decide +kernel⟩
abbrev s__law_lines_lack : Stmt := top 26
theorem sc__law_lines_lack : FnScope ["sizes", "records", "few", "many", "found", "sets", "ways", "power", "k"] ["sizes"] (defScope s__law_lines_lack) := ⟨rfl, rfl, rfl, by decide +kernel, rfl, by decide +kernel, by decide +kernel⟩
abbrev s__law_odd : Stmt := top 27
theorem sc__law_odd : FnScope ["pick", "least", "most"] ["pick", "least", "most"] (defScope s__law_odd) := ⟨rfl, rfl, rfl, by decide +kernel, rfl, by decide +kernel, by decide +kernel⟩
abbrev s__law_asked : Stmt := top 28
theorem sc__law_asked : FnScope ["pick", "records", "few", "many", "e"] ["pick", "records", "few", "many"] (defScope s__law_asked) := ⟨rfl, rfl, rfl, by decide +kernel, rfl, by decide +kernel, by decide +kernel⟩
abbrev s__law_same : Stmt := top 29
theorem sc__law_same : FnScope ["told", "passed"] ["told", "passed"] (defScope s__law_same) := ⟨rfl, rfl, rfl, by decide +kernel, rfl, by decide +kernel, by decide +kernel⟩
abbrev s__law_refused_right : Stmt := top 30
theorem sc__law_refused_right : FnScope ["box", "sizes", "pick", "k", "first", "told", "wrong", "passed", "spare"] ["box", "sizes"] (defScope s__law_refused_right) := ⟨rfl, rfl, rfl, by decide +kernel, rfl, by decide +kernel, by decide +kernel⟩
abbrev s__law_right : Stmt := top 31
theorem sc__law_right : FnScope ["box", "sizes", "records", "few", "many", "due", "pick", "told", "spare"] ["box", "sizes"] (defScope s__law_right) := ⟨rfl, rfl, rfl, by decide +kernel, rfl, by decide +kernel, by decide +kernel⟩
abbrev s__law_bounds_right : Stmt := top 32
theorem sc__law_bounds_right : FnScope ["pick"] [] (defScope s__law_bounds_right) := ⟨rfl, rfl, rfl, by decide +kernel, rfl, by decide +kernel, by decide +kernel⟩
abbrev s_law : Stmt := top 33
theorem sc_law : FnScope ["script", "k", "box", "great", "worlds", "at"] ["script"] (defScope s_law) := ⟨rfl, rfl, rfl, by decide +kernel, rfl, by decide +kernel, by decide +kernel⟩
abbrev s_InvalidContents : Stmt := inClass (top 2) 0
theorem sc_InvalidContents : FnScope ["self", "given"] ["self", "given"] (defScope s_InvalidContents) := ⟨rfl, rfl, rfl, by decide +kernel, rfl, by decide +kernel, by decide +kernel⟩
abbrev s_InvalidRecords : Stmt := inClass (top 3) 0
theorem sc_InvalidRecords : FnScope ["self", "given"] ["self", "given"] (defScope s_InvalidRecords) := ⟨rfl, rfl, rfl, by decide +kernel, rfl, by decide +kernel, by decide +kernel⟩
abbrev s_InvalidChanges : Stmt := inClass (top 4) 0
theorem sc_InvalidChanges : FnScope ["self", "given"] ["self", "given"] (defScope s_InvalidChanges) := ⟨rfl, rfl, rfl, by decide +kernel, rfl, by decide +kernel, by decide +kernel⟩
structure Txt (P : Program) (w : World) (K : PySem.W.Frag) (mg : Str → Option Value) (base : Heap) (Ga : Nat → Addr) : Prop where
  b_abs : mg "abs" = none
  b_bool : mg "bool" = none
  b_dict : mg "dict" = none
  b_int : mg "int" = none
  b_isinstance : mg "isinstance" = none
  b_len : mg "len" = none
  b_list : mg "list" = none
  b_max : mg "max" = none
  b_min : mg "min" = none
  b_range : mg "range" = none
  b_repr : mg "repr" = none
  b_sum : mg "sum" = none
  k_MOST_COUNTED_CONTENTS : ∃ t, mg "MOST_COUNTED_CONTENTS" = some (.int 10000 t)
  k_MOST_COUNTED_RECORDS : ∃ t, mg "MOST_COUNTED_RECORDS" = some (.int 1000 t)
  f_is_whole : Src_ K mg "is_whole" s_is_whole ["value"]
  f_is_between : Src_ K mg "is_between" s_is_between ["value", "least", "most"]
  f_choose : Src_ K mg "choose" s_choose ["many", "few"]
  f_least_places : Src_ K mg "least_places" s_least_places ["count", "contents"]
  f_count_wishes : Src_ K mg "count_wishes" s_count_wishes ["records", "changes", "contents"]
  f_check_sizes : Src_ K mg "check_sizes" s_check_sizes ["records", "changes", "contents"]
  f_least_needed : Src_ K mg "least_needed" s_least_needed ["records", "changes", "contents"]
  f_enough : Src_ K mg "enough" s_enough ["records", "changes", "contents"]
  f_is_above : Src_ K mg "is_above" s_is_above ["records", "changes", "contents"]
  f__law_cell : Src_ K mg "_law_cell" s__law_cell ["script", "k"]
  f__law_box : Src_ K mg "_law_box" s__law_box ["great"]
  f__law_take : Src_ K mg "_law_take" s__law_take ["box", "many"]
  f__law_choose : Src_ K mg "_law_choose" s__law_choose ["records", "few"]
  f__law_sizes : Src_ K mg "_law_sizes" s__law_sizes ["box", "great"]
  f__law_due : Src_ K mg "_law_due" s__law_due ["sizes"]
  f__law_lines_lack : Src_ K mg "_law_lines_lack" s__law_lines_lack ["sizes"]
  f__law_odd : Src_ K mg "_law_odd" s__law_odd ["pick", "least", "most"]
  f__law_asked : Src_ K mg "_law_asked" s__law_asked ["pick", "records", "few", "many"]
  f__law_same : Src_ K mg "_law_same" s__law_same ["told", "passed"]
  f__law_refused_right : Src_ K mg "_law_refused_right" s__law_refused_right ["box", "sizes"]
  f__law_right : Src_ K mg "_law_right" s__law_right ["box", "sizes"]
  f__law_bounds_right : Src_ K mg "_law_bounds_right" s__law_bounds_right []
  f_law : Src_ K mg "law" s_law ["script"]
  e_InvalidContents : ErrC K mg P w base "InvalidContents" "given" (Ga 0)
  e_InvalidRecords : ErrC K mg P w base "InvalidRecords" "given" (Ga 1)
  e_InvalidChanges : ErrC K mg P w base "InvalidChanges" "given" (Ga 2)
  x_InvalidChanges : XfC K (Ga 2)
  x_InvalidContents : XfC K (Ga 0)
  x_InvalidRecords : XfC K (Ga 1)
  n_InvalidChanges_given : PySem.W.findIn K (.ref (Ga 2)) "given" = some none
  n_InvalidContents_given : PySem.W.findIn K (.ref (Ga 0)) "given" = some none
  n_InvalidRecords_given : PySem.W.findIn K (.ref (Ga 1)) "given" = some none
  x_m : ∀ k, k < 3 → ∀ q, q < 3 → PySem.W.exmOne K (.ref (Ga q)) (.ref (Ga k)) = some (decide (q = k))
section
variable {P : Program} {w : World} {K : PySem.W.Frag} {mg : Str → Option Value} {base : Heap} {Ga : Nat → Addr}
theorem d_is_whole (T : Txt P w K mg base Ga) : Def P w K mg base Ga 1 "is_whole" s_is_whole ["value"] m_is_whole := by
  refine def_of (k := 0) T.f_is_whole sc_is_whole fun f cdv A outer s H E hr => ?_
  have tk : Takes (cxOf (L2.CX P w) P w K mg base ["value"] "is_whole" (defScope s_is_whole) f cdv A outer s H E) (fun c d _ H => E c d H) := takes_of rfl rfl rfl rfl
  have po : PassesOwn (model P w) (cxOf (L2.CX P w) P w K mg base ["value"] "is_whole" (defScope s_is_whole) f cdv A outer s H E).A (cxOf (L2.CX P w) P w K mg base ["value"] "is_whole" (defScope s_is_whole) f cdv A outer s H E).env (cxOf (L2.CX P w) P w K mg base ["value"] "is_whole" (defScope s_is_whole) f cdv A outer s H E).xe := passes_of rfl
  unfold b_is_whole
  exact (ss_one (s_ret (e_and (e_isi (ty := .tInt) rfl rfl T.b_isinstance rfl T.b_int (by decide +kernel) (ha := (v_ 0))) (e_one (e_not (e_isi (ty := .tBool) rfl rfl T.b_isinstance rfl T.b_bool (by decide +kernel) (ha := (v_ 0))))))))
theorem d_is_between (T : Txt P w K mg base Ga) : Def P w K mg base Ga 2 "is_between" s_is_between ["value", "least", "most"] m_is_between := by
  refine def_of (k := 1) T.f_is_between sc_is_between fun f cdv A outer s H E hr => ?_
  have tk : Takes (cxOf (L2.CX P w) P w K mg base ["value", "least", "most"] "is_between" (defScope s_is_between) f cdv A outer s H E) (fun c d _ H => E c d H) := takes_of rfl rfl rfl rfl
  have po : PassesOwn (model P w) (cxOf (L2.CX P w) P w K mg base ["value", "least", "most"] "is_between" (defScope s_is_between) f cdv A outer s H E).A (cxOf (L2.CX P w) P w K mg base ["value", "least", "most"] "is_between" (defScope s_is_between) f cdv A outer s H E).env (cxOf (L2.CX P w) P w K mg base ["value", "least", "most"] "is_between" (defScope s_is_between) f cdv A outer s H E).xe := passes_of rfl
  unfold b_is_between
  exact (ss_one (s_ret (e_and (c_ (d_is_whole T) hr tk (a_cons (v_ 0) a_nil)) (e_one (e_chain op_le s_intCmp op_le s_intCmp (v_ 1) (v_ 0) (v_ 2))))))
theorem d_choose (T : Txt P w K mg base Ga) : Def P w K mg base Ga 1 "choose" s_choose ["many", "few"] m_choose := by
  refine def_of (k := 0) T.f_choose sc_choose fun f cdv A outer s H E hr => ?_
  have tk : Takes (cxOf (L2.CX P w) P w K mg base ["many", "few", "found", "k"] "choose" (defScope s_choose) f cdv A outer s H E) (fun c d _ H => E c d H) := takes_of rfl rfl rfl rfl
  have po : PassesOwn (model P w) (cxOf (L2.CX P w) P w K mg base ["many", "few", "found", "k"] "choose" (defScope s_choose) f cdv A outer s H E).A (cxOf (L2.CX P w) P w K mg base ["many", "few", "found", "k"] "choose" (defScope s_choose) f cdv A outer s H E).env (cxOf (L2.CX P w) P w K mg base ["many", "few", "found", "k"] "choose" (defScope s_choose) f cdv A outer s H E).xe := passes_of rfl
  unfold b_choose
  exact (ss_cons (s_set (i := 2) sc_choose.nd rfl (by first | exact Or.inl rfl | exact Or.inr rfl) lets0 e_int)
    (ss_cons (s_for po rfl (i_rng1 rfl T.b_range (v_ 1)) (g_ 3 sc_choose.nd lets0)
    (ss_one (s_set (i := 2) sc_choose.nd rfl (by first | exact Or.inl rfl | exact Or.inr rfl) lets0 (e_div (e_mul (v_ 2) (e_sub (v_ 0) (v_ 3))) (e_add (v_ 3) e_int)))))
    (ss_one (s_ret (v_ 2)))))
theorem d_least_places (T : Txt P w K mg base Ga) : Def P w K mg base Ga 1 "least_places" s_least_places ["count", "contents"] m_least_places := by
  refine def_of (k := 0) T.f_least_places sc_least_places fun f cdv A outer s H E hr => ?_
  have tk : Takes (cxOf (L2.CX P w) P w K mg base ["count", "contents", "places", "told"] "least_places" (defScope s_least_places) f cdv A outer s H E) (fun c d _ H => E c d H) := takes_of rfl rfl rfl rfl
  have po : PassesOwn (model P w) (cxOf (L2.CX P w) P w K mg base ["count", "contents", "places", "told"] "least_places" (defScope s_least_places) f cdv A outer s H E).A (cxOf (L2.CX P w) P w K mg base ["count", "contents", "places", "told"] "least_places" (defScope s_least_places) f cdv A outer s H E).env (cxOf (L2.CX P w) P w K mg base ["count", "contents", "places", "told"] "least_places" (defScope s_least_places) f cdv A outer s H E).xe := passes_of rfl
  unfold b_least_places
  exact (ss_cons (s_asg (e_tup (a_cons e_int (a_cons e_int a_nil))) (g_tup rfl (gs_cons (g_ 2 sc_least_places.nd lets0) (gs_cons (g_ 3 sc_least_places.nd lets0) gs_nil))))
    (ss_cons (s_while po (t_cmp op_lt s_intCmp (v_ 3) (v_ 0) (nomark _)) (ss_one (s_par2 (i := 2) (j := 3) rfl sc_least_places.nd rfl rfl (by decide) rfl rfl lets0 lets0 (a_cons (e_add (v_ 2) e_int) (a_cons (e_mul (v_ 3) (v_ 1)) a_nil)) (by rfl))))
    (ss_one (s_ret (v_ 2)))))
theorem d_count_wishes (T : Txt P w K mg base Ga) : Def P w K mg base Ga 1 "count_wishes" s_count_wishes ["records", "changes", "contents"] m_count_wishes := by
  refine def_of (k := 0) T.f_count_wishes sc_count_wishes fun f cdv A outer s H E hr => ?_
  have tk : Takes (cxOf (L2.CX P w) P w K mg base ["records", "changes", "contents", "found", "sets", "ways", "k"] "count_wishes" (defScope s_count_wishes) f cdv A outer s H E) (fun c d _ H => E c d H) := takes_of rfl rfl rfl rfl
  have po : PassesOwn (model P w) (cxOf (L2.CX P w) P w K mg base ["records", "changes", "contents", "found", "sets", "ways", "k"] "count_wishes" (defScope s_count_wishes) f cdv A outer s H E).A (cxOf (L2.CX P w) P w K mg base ["records", "changes", "contents", "found", "sets", "ways", "k"] "count_wishes" (defScope s_count_wishes) f cdv A outer s H E).env (cxOf (L2.CX P w) P w K mg base ["records", "changes", "contents", "found", "sets", "ways", "k"] "count_wishes" (defScope s_count_wishes) f cdv A outer s H E).xe := passes_of rfl
  unfold b_count_wishes
  exact (ss_cons (s_set (i := 3) sc_count_wishes.nd rfl (by first | exact Or.inl rfl | exact Or.inr rfl) lets0 e_int)
    (ss_cons (s_asg2 e_int (pg_name (i := 4) sc_count_wishes.nd rfl (by first | exact Or.inl rfl | exact Or.inr rfl)) (pg_name (i := 5) sc_count_wishes.nd rfl (by first | exact Or.inl rfl | exact Or.inr rfl)) lets0 lets0)
    (ss_cons (s_for po rfl (i_rng1 rfl T.b_range (v_ 1)) (g_ 6 sc_count_wishes.nd lets0)
    (ss_cons (s_set (i := 4) sc_count_wishes.nd rfl (by first | exact Or.inl rfl | exact Or.inr rfl) lets0 (e_div (e_mul (v_ 4) (e_sub (v_ 0) (v_ 6))) (e_add (v_ 6) e_int)))
    (ss_cons (s_set (i := 5) sc_count_wishes.nd rfl (by first | exact Or.inl rfl | exact Or.inr rfl) lets0 (e_mul (v_ 5) (e_sub (v_ 2) e_int)))
    (ss_one (s_aug (i := 3) sc_count_wishes.nd rfl (by first | exact Or.inl rfl | exact Or.inr rfl) lets0 (e_mul (v_ 4) (v_ 5)) ip_add)))))
    (ss_one (s_ret (v_ 3))))))
theorem d_check_sizes (T : Txt P w K mg base Ga) : Def P w K mg base Ga 3 "check_sizes" s_check_sizes ["records", "changes", "contents"] m_check_sizes := by
  refine def_of (k := 2) T.f_check_sizes sc_check_sizes fun f cdv A outer s H E hr => ?_
  have tk : Takes (cxOf (L2.CX P w) P w K mg base ["records", "changes", "contents"] "check_sizes" (defScope s_check_sizes) f cdv A outer s H E) (fun c d _ H => E c d H) := takes_of rfl rfl rfl rfl
  have po : PassesOwn (model P w) (cxOf (L2.CX P w) P w K mg base ["records", "changes", "contents"] "check_sizes" (defScope s_check_sizes) f cdv A outer s H E).A (cxOf (L2.CX P w) P w K mg base ["records", "changes", "contents"] "check_sizes" (defScope s_check_sizes) f cdv A outer s H E).env (cxOf (L2.CX P w) P w K mg base ["records", "changes", "contents"] "check_sizes" (defScope s_check_sizes) f cdv A outer s H E).xe := passes_of rfl
  unfold b_check_sizes
  exact (ss_cons (s_if (t_not (t_tru (c_ (d_is_between T) hr tk (a_cons (v_ 0) (a_cons e_int (a_cons (gi_ T.k_MOST_COUNTED_RECORDS) a_nil)))) (by intro _; rfl)))
    (ss_one (s_raise (ci := 1) rfl tk T.e_InvalidRecords (hr.room.mono (by decide)) rfl (v_ 0)))
    ss_nil)
    (ss_cons (s_if (t_not (t_tru (c_ (d_is_between T) hr tk (a_cons (v_ 1) (a_cons e_int (a_cons (v_ 0) a_nil)))) (by intro _; rfl)))
    (ss_one (s_raise (ci := 2) rfl tk T.e_InvalidChanges (hr.room.mono (by decide)) rfl (v_ 1)))
    ss_nil)
    (ss_one (s_if (t_not (t_tru (c_ (d_is_between T) hr tk (a_cons (v_ 2) (a_cons e_int (a_cons (gi_ T.k_MOST_COUNTED_CONTENTS) a_nil)))) (by intro _; rfl)))
    (ss_one (s_raise (ci := 0) rfl tk T.e_InvalidContents (hr.room.mono (by decide)) rfl (v_ 2)))
    ss_nil))))
theorem d_least_needed (T : Txt P w K mg base Ga) : Def P w K mg base Ga 4 "least_needed" s_least_needed ["records", "changes", "contents"] m_least_needed := by
  refine def_of (k := 3) T.f_least_needed sc_least_needed fun f cdv A outer s H E hr => ?_
  have tk : Takes (cxOf (L2.CX P w) P w K mg base ["records", "changes", "contents", "needed", "spare", "fillings"] "least_needed" (defScope s_least_needed) f cdv A outer s H E) (fun c d _ H => E c d H) := takes_of rfl rfl rfl rfl
  have po : PassesOwn (model P w) (cxOf (L2.CX P w) P w K mg base ["records", "changes", "contents", "needed", "spare", "fillings"] "least_needed" (defScope s_least_needed) f cdv A outer s H E).A (cxOf (L2.CX P w) P w K mg base ["records", "changes", "contents", "needed", "spare", "fillings"] "least_needed" (defScope s_least_needed) f cdv A outer s H E).env (cxOf (L2.CX P w) P w K mg base ["records", "changes", "contents", "needed", "spare", "fillings"] "least_needed" (defScope s_least_needed) f cdv A outer s H E).xe := passes_of rfl
  unfold b_least_needed
  exact (ss_cons (s_expr (c_ (d_check_sizes T) hr tk (a_cons (v_ 0) (a_cons (v_ 1) (a_cons (v_ 2) a_nil)))))
    (ss_cons (s_if (PW.pt (w_and (t_cmp (OpR.or op_eq (op_eqD (hu64 hr))) s_eq (v_ 2) e_int (nomark _)) (w_and1 (t_cmp (OpR.or op_eq (op_eqD (hu64 hr))) s_eq (v_ 1) e_int (nomark _)))))
    (ss_one (s_ret e_int))
    ss_nil)
    (ss_cons (s_set (i := 3) sc_least_needed.nd rfl (by first | exact Or.inl rfl | exact Or.inr rfl) lets0 (c_ (d_count_wishes T) hr tk (a_cons (v_ 0) (a_cons (v_ 1) (a_cons (v_ 2) a_nil)))))
    (ss_cons (s_asg (e_tup (a_cons e_int (a_cons e_int a_nil))) (g_tup rfl (gs_cons (g_ 4 sc_least_needed.nd lets0) (gs_cons (g_ 5 sc_least_needed.nd lets0) gs_nil))))
    (ss_cons (s_while po (t_cmp op_gt s_intCmp (v_ 3) (e_mul (e_mul e_int (e_sub (e_add (v_ 0) (v_ 4)) e_int)) (v_ 5)) (nomark _)) (ss_one (s_par2 (i := 4) (j := 5) rfl sc_least_needed.nd rfl rfl (by decide) rfl rfl lets0 lets0 (a_cons (e_add (v_ 4) e_int) (a_cons (e_mul (v_ 5) (v_ 2)) a_nil)) (by rfl))))
    (ss_one (s_ret (v_ 4))))))))
theorem d_enough (T : Txt P w K mg base Ga) : Def P w K mg base Ga 4 "enough" s_enough ["records", "changes", "contents"] m_enough := by
  refine def_of (k := 3) T.f_enough sc_enough fun f cdv A outer s H E hr => ?_
  have tk : Takes (cxOf (L2.CX P w) P w K mg base ["records", "changes", "contents"] "enough" (defScope s_enough) f cdv A outer s H E) (fun c d _ H => E c d H) := takes_of rfl rfl rfl rfl
  have po : PassesOwn (model P w) (cxOf (L2.CX P w) P w K mg base ["records", "changes", "contents"] "enough" (defScope s_enough) f cdv A outer s H E).A (cxOf (L2.CX P w) P w K mg base ["records", "changes", "contents"] "enough" (defScope s_enough) f cdv A outer s H E).env (cxOf (L2.CX P w) P w K mg base ["records", "changes", "contents"] "enough" (defScope s_enough) f cdv A outer s H E).xe := passes_of rfl
  unfold b_enough
  exact (ss_cons (s_expr (c_ (d_check_sizes T) hr tk (a_cons (v_ 0) (a_cons (v_ 1) (a_cons (v_ 2) a_nil)))))
    (ss_one (s_ret (e_add (e_add (v_ 1) (c_ (d_least_places T) hr tk (a_cons (c_ (d_choose T) hr tk (a_cons (v_ 0) (a_cons (v_ 1) a_nil))) (a_cons (v_ 2) a_nil)))) e_int))))
theorem d_is_above (T : Txt P w K mg base Ga) : Def P w K mg base Ga 4 "is_above" s_is_above ["records", "changes", "contents"] m_is_above := by
  refine def_of (k := 3) T.f_is_above sc_is_above fun f cdv A outer s H E hr => ?_
  have tk : Takes (cxOf (L2.CX P w) P w K mg base ["records", "changes", "contents", "sets"] "is_above" (defScope s_is_above) f cdv A outer s H E) (fun c d _ H => E c d H) := takes_of rfl rfl rfl rfl
  have po : PassesOwn (model P w) (cxOf (L2.CX P w) P w K mg base ["records", "changes", "contents", "sets"] "is_above" (defScope s_is_above) f cdv A outer s H E).A (cxOf (L2.CX P w) P w K mg base ["records", "changes", "contents", "sets"] "is_above" (defScope s_is_above) f cdv A outer s H E).env (cxOf (L2.CX P w) P w K mg base ["records", "changes", "contents", "sets"] "is_above" (defScope s_is_above) f cdv A outer s H E).xe := passes_of rfl
  unfold b_is_above
  exact (ss_cons (s_expr (c_ (d_check_sizes T) hr tk (a_cons (v_ 0) (a_cons (v_ 1) (a_cons (v_ 2) a_nil)))))
    (ss_cons (s_set (i := 3) sc_is_above.nd rfl (by first | exact Or.inl rfl | exact Or.inr rfl) lets0 (c_ (d_choose T) hr tk (a_cons (v_ 0) (a_cons (v_ 1) a_nil))))
    (ss_one (s_ret (e_cmp op_gt s_intCmp (e_mul (v_ 2) (v_ 3)) (e_add (e_mul (v_ 1) (v_ 3)) (e_mul e_int (e_sub (e_add (v_ 0) (v_ 1)) e_int))) (nomark _))))))
theorem d__law_cell (T : Txt P w K mg base Ga) : Def P w K mg base Ga 1 "_law_cell" s__law_cell ["script", "k"] m__law_cell := by
  refine def_of (k := 0) T.f__law_cell sc__law_cell fun f cdv A outer s H E hr => ?_
  have tk : Takes (cxOf (L2.CX P w) P w K mg base ["script", "k"] "_law_cell" (defScope s__law_cell) f cdv A outer s H E) (fun c d _ H => E c d H) := takes_of rfl rfl rfl rfl
  have po : PassesOwn (model P w) (cxOf (L2.CX P w) P w K mg base ["script", "k"] "_law_cell" (defScope s__law_cell) f cdv A outer s H E).A (cxOf (L2.CX P w) P w K mg base ["script", "k"] "_law_cell" (defScope s__law_cell) f cdv A outer s H E).env (cxOf (L2.CX P w) P w K mg base ["script", "k"] "_law_cell" (defScope s__law_cell) f cdv A outer s H E).xe := passes_of rfl
  unfold b__law_cell
  exact (ss_one (s_ret (e_if (t_cmp op_lt s_intCmp (v_ 1) (e_fnB call_len f_len rfl T.b_len (by decide +kernel) (a_cons (v_ 0) a_nil)) (nomark _)) (e_sub_ (v_ 0) (v_ 1) (fun _ _ => rfl)) (e_add (e_mul e_int (v_ 1)) (e_mod (e_fnT call_int1 f_int rfl T.b_int (by decide +kernel) (a_cons (e_fnB (cr_sum rfl) f_sum rfl T.b_sum (by decide +kernel) (a_cons (e_sl (v_ 0) o_no (o_so e_int)) a_nil)) a_nil)) e_int)))))
theorem d__law_box (T : Txt P w K mg base Ga) : Def P w K mg base Ga 1 "_law_box" s__law_box ["great"] m__law_box := by
  refine def_of (k := 0) T.f__law_box sc__law_box fun f cdv A outer s H E hr => ?_
  have tk : Takes (cxOf (L2.CX P w) P w K mg base ["great"] "_law_box" (defScope s__law_box) f cdv A outer s H E) (fun c d _ H => E c d H) := takes_of rfl rfl rfl rfl
  have po : PassesOwn (model P w) (cxOf (L2.CX P w) P w K mg base ["great"] "_law_box" (defScope s__law_box) f cdv A outer s H E).A (cxOf (L2.CX P w) P w K mg base ["great"] "_law_box" (defScope s__law_box) f cdv A outer s H E).env (cxOf (L2.CX P w) P w K mg base ["great"] "_law_box" (defScope s__law_box) f cdv A outer s H E).xe := passes_of rfl
  unfold b__law_box
  exact (ss_one (s_ret (e_lst (a_cons (e_fnB call_abs f_abs rfl T.b_abs (by decide +kernel) (a_cons (v_ 0) a_nil)) (a_cons (e_cmp op_ge s_intCmp (e_fnB call_abs f_abs rfl T.b_abs (by decide +kernel) (a_cons (v_ 0) a_nil)) (e_pow e_int e_int) (nomark _)) (a_cons (e_mod (e_fnT call_int1 f_int rfl T.b_int (by decide +kernel) (a_cons (e_fnB call_abs f_abs rfl T.b_abs (by decide +kernel) (a_cons (v_ 0) a_nil)) a_nil)) e_int) (a_cons e_int a_nil)))))))
theorem d__law_take (T : Txt P w K mg base Ga) : Def P w K mg base Ga 1 "_law_take" s__law_take ["box", "many"] m__law_take := by
  refine def_of (k := 0) T.f__law_take sc__law_take fun f cdv A outer s H E hr => ?_
  have tk : Takes (cxOf (L2.CX P w) P w K mg base ["box", "many", "digit", "mixed"] "_law_take" (defScope s__law_take) f cdv A outer s H E) (fun c d _ H => E c d H) := takes_of rfl rfl rfl rfl
  have po : PassesOwn (model P w) (cxOf (L2.CX P w) P w K mg base ["box", "many", "digit", "mixed"] "_law_take" (defScope s__law_take) f cdv A outer s H E).A (cxOf (L2.CX P w) P w K mg base ["box", "many", "digit", "mixed"] "_law_take" (defScope s__law_take) f cdv A outer s H E).env (cxOf (L2.CX P w) P w K mg base ["box", "many", "digit", "mixed"] "_law_take" (defScope s__law_take) f cdv A outer s H E).xe := passes_of rfl
  unfold b__law_take
  exact (ss_cons (s_if (PW.pt (w_and (t_tru (e_sub_ (v_ 0) e_int (fun _ _ => rfl)) (by intro _; rfl)) (w_and1 (t_cmp op_gt s_intCmp (e_sub_ (v_ 0) e_int (fun _ _ => rfl)) e_int (nomark _)))))
    (ss_cons (s_set (i := 2) sc__law_take.nd rfl (by first | exact Or.inl rfl | exact Or.inr rfl) lets0 (e_mod (e_fnT call_int1 f_int rfl T.b_int (by decide +kernel) (a_cons (e_sub_ (v_ 0) e_int (fun _ _ => rfl)) a_nil)) (v_ 1)))
    (ss_cons (s_asg (e_div (e_sub_ (v_ 0) e_int (fun _ _ => rfl)) (v_ 1)) (g_subL (Wd := W0) (pg_sub (v_ 0) e_int set_list)))
    (ss_one (s_ret (v_ 2)))))
    ss_nil)
    (ss_cons (s_asg (e_add (e_sub_ (v_ 0) e_int (fun _ _ => rfl)) e_int) (g_subL (Wd := W0) (pg_sub (v_ 0) e_int set_list)))
    (ss_cons (s_set (i := 3) sc__law_take.nd rfl (by first | exact Or.inl rfl | exact Or.inr rfl) lets0 (e_mod (e_fnT call_int1 f_int rfl T.b_int (by decide +kernel) (a_cons (e_pow (e_add (e_add (e_sub_ (v_ 0) e_int (fun _ _ => rfl)) (e_mul e_int (e_sub_ (v_ 0) e_int (fun _ _ => rfl)))) e_int) e_int) a_nil)) e_int))
    (ss_one (s_ret (e_mod (e_fnT call_int1 f_int rfl T.b_int (by decide +kernel) (a_cons (e_div (e_mod (e_fnT call_int1 f_int rfl T.b_int (by decide +kernel) (a_cons (e_pow (e_add (e_mul (v_ 3) e_int) (e_mul e_int (e_sub_ (v_ 0) e_int (fun _ _ => rfl)))) e_int) a_nil)) e_int) e_int) a_nil)) (v_ 1)))))))
theorem d__law_choose (T : Txt P w K mg base Ga) : Def P w K mg base Ga 1 "_law_choose" s__law_choose ["records", "few"] m__law_choose := by
  refine def_of (k := 0) T.f__law_choose sc__law_choose fun f cdv A outer s H E hr => ?_
  have tk : Takes (cxOf (L2.CX P w) P w K mg base ["records", "few", "found", "k"] "_law_choose" (defScope s__law_choose) f cdv A outer s H E) (fun c d _ H => E c d H) := takes_of rfl rfl rfl rfl
  have po : PassesOwn (model P w) (cxOf (L2.CX P w) P w K mg base ["records", "few", "found", "k"] "_law_choose" (defScope s__law_choose) f cdv A outer s H E).A (cxOf (L2.CX P w) P w K mg base ["records", "few", "found", "k"] "_law_choose" (defScope s__law_choose) f cdv A outer s H E).env (cxOf (L2.CX P w) P w K mg base ["records", "few", "found", "k"] "_law_choose" (defScope s__law_choose) f cdv A outer s H E).xe := passes_of rfl
  unfold b__law_choose
  exact (ss_cons (s_set (i := 2) sc__law_choose.nd rfl (by first | exact Or.inl rfl | exact Or.inr rfl) lets0 e_int)
    (ss_cons (s_for po rfl (i_rng1 rfl T.b_range (v_ 1)) (g_ 3 sc__law_choose.nd lets0)
    (ss_one (s_set (i := 2) sc__law_choose.nd rfl (by first | exact Or.inl rfl | exact Or.inr rfl) lets0 (e_div (e_mul (v_ 2) (e_sub (v_ 0) (v_ 3))) (e_add (v_ 3) e_int)))))
    (ss_one (s_ret (v_ 2)))))
theorem d__law_sizes (T : Txt P w K mg base Ga) : Def P w K mg base Ga 2 "_law_sizes" s__law_sizes ["box", "great"] m__law_sizes := by
  refine def_of (k := 1) T.f__law_sizes sc__law_sizes fun f cdv A outer s H E hr => ?_
  have tk : Takes (cxOf (L2.CX P w) P w K mg base ["box", "great", "scale", "part", "near", "records", "few", "last", "drawn", "many"] "_law_sizes" (defScope s__law_sizes) f cdv A outer s H E) (fun c d _ H => E c d H) := takes_of rfl rfl rfl rfl
  have po : PassesOwn (model P w) (cxOf (L2.CX P w) P w K mg base ["box", "great", "scale", "part", "near", "records", "few", "last", "drawn", "many"] "_law_sizes" (defScope s__law_sizes) f cdv A outer s H E).A (cxOf (L2.CX P w) P w K mg base ["box", "great", "scale", "part", "near", "records", "few", "last", "drawn", "many"] "_law_sizes" (defScope s__law_sizes) f cdv A outer s H E).env (cxOf (L2.CX P w) P w K mg base ["box", "great", "scale", "part", "near", "records", "few", "last", "drawn", "many"] "_law_sizes" (defScope s__law_sizes) f cdv A outer s H E).xe := passes_of rfl
  unfold b__law_sizes
  exact (ss_cons (s_par3 (i := 2) (j := 3) (l := 4) rfl sc__law_sizes.nd rfl rfl rfl (by decide) (by decide) (by decide) rfl rfl rfl lets0 lets0 lets0 (a_cons (c_ (d__law_take T) hr tk (a_cons (v_ 0) (a_cons e_int a_nil))) (a_cons (c_ (d__law_take T) hr tk (a_cons (v_ 0) (a_cons e_int a_nil))) (a_cons (c_ (d__law_take T) hr tk (a_cons (v_ 0) (a_cons e_int a_nil))) a_nil))) (by rfl))
    (ss_cons (s_set (i := 5) sc__law_sizes.nd rfl (by first | exact Or.inl rfl | exact Or.inr rfl) lets0 (e_add e_int (c_ (d__law_take T) hr tk (a_cons (v_ 0) (a_cons (e_sub_ (e_lst (a_cons e_int (a_cons e_int (a_cons e_int (a_cons e_int (a_cons e_int (a_cons e_int a_nil))))))) (v_ 2) (fun _ _ => rfl)) a_nil)))))
    (ss_cons (s_set (i := 6) sc__law_sizes.nd rfl (by first | exact Or.inl rfl | exact Or.inr rfl) lets0 (e_sub_ (e_lst (a_cons e_int (a_cons (v_ 5) (a_cons (e_add e_int (c_ (d__law_take T) hr tk (a_cons (v_ 0) (a_cons (v_ 5) a_nil)))) (a_cons (e_add e_int (c_ (d__law_take T) hr tk (a_cons (v_ 0) (a_cons (e_fnB (call_min2 rfl) f_min2 rfl T.b_min (by decide +kernel) (a_cons e_int (a_cons (v_ 5) a_nil))) a_nil)))) (a_cons (e_fnB (call_max2 rfl) f_max2 rfl T.b_max (by decide +kernel) (a_cons e_int (a_cons (e_sub (v_ 5) e_int) a_nil))) (a_cons e_int a_nil))))))) (v_ 3) (fun _ _ => rfl)))
    (ss_cons (s_if (t_tru (v_ 1) (by intro _; rfl))
    (ss_one (s_par2 (i := 5) (j := 6) rfl sc__law_sizes.nd rfl rfl (by decide) rfl rfl lets0 lets0 (a_cons (e_sub_ (e_lst (a_cons e_int (a_cons e_int (a_cons (e_add e_int (c_ (d__law_take T) hr tk (a_cons (v_ 0) (a_cons e_int a_nil)))) a_nil)))) (c_ (d__law_take T) hr tk (a_cons (v_ 0) (a_cons e_int a_nil))) (fun _ _ => rfl)) (a_cons (e_add e_int (c_ (d__law_take T) hr tk (a_cons (v_ 0) (a_cons e_int a_nil)))) a_nil)) (by rfl)))
    ss_nil)
    (ss_cons (s_set (i := 7) sc__law_sizes.nd rfl (by first | exact Or.inl rfl | exact Or.inr rfl) lets0 (e_add (v_ 6) (e_div (e_mul e_int (e_sub (e_add (v_ 5) (v_ 6)) e_int)) (c_ (d__law_choose T) hr tk (a_cons (v_ 5) (a_cons (v_ 6) a_nil))))))
    (ss_cons (s_set (i := 8) sc__law_sizes.nd rfl (by first | exact Or.inl rfl | exact Or.inr rfl) lets0 (e_lst (a_cons (v_ 7) (a_cons (e_add (v_ 7) e_int) (a_cons (v_ 7) (a_cons (e_sub (v_ 7) e_int) (a_cons (e_add (v_ 7) e_int) (a_cons (v_ 7) (a_cons (e_add e_int (c_ (d__law_take T) hr tk (a_cons (v_ 0) (a_cons e_int a_nil)))) (a_cons (e_add e_int (c_ (d__law_take T) hr tk (a_cons (v_ 0) (a_cons e_int a_nil)))) (a_cons e_int a_nil)))))))))))
    (ss_cons (s_set (i := 9) sc__law_sizes.nd rfl (by first | exact Or.inl rfl | exact Or.inr rfl) lets0 (e_sub_ (v_ 8) (v_ 4) (fun _ _ => rfl)))
    (ss_one (s_ret (e_tup (a_cons (v_ 5) (a_cons (v_ 6) (a_cons (e_fnB (call_max2 rfl) f_max2 rfl T.b_max (by decide +kernel) (a_cons e_int (a_cons (e_fnB (call_min2 rfl) f_min2 rfl T.b_min (by decide +kernel) (a_cons e_int (a_cons (v_ 9) a_nil))) a_nil))) a_nil)))))))))))))
theorem d__law_due (T : Txt P w K mg base Ga) : Def P w K mg base Ga 2 "_law_due" s__law_due ["sizes"] m__law_due := by
  refine def_of (k := 1) T.f__law_due sc__law_due fun f cdv A outer s H E hr => ?_
  have tk : Takes (cxOf (L2.CX P w) P w K mg base ["sizes", "records", "few", "many"] "_law_due" (defScope s__law_due) f cdv A outer s H E) (fun c d _ H => E c d H) := takes_of rfl rfl rfl rfl
  have po : PassesOwn (model P w) (cxOf (L2.CX P w) P w K mg base ["sizes", "records", "few", "many"] "_law_due" (defScope s__law_due) f cdv A outer s H E).A (cxOf (L2.CX P w) P w K mg base ["sizes", "records", "few", "many"] "_law_due" (defScope s__law_due) f cdv A outer s H E).env (cxOf (L2.CX P w) P w K mg base ["sizes", "records", "few", "many"] "_law_due" (defScope s__law_due) f cdv A outer s H E).xe := passes_of rfl
  unfold b__law_due
  exact (ss_cons (s_asg (v_ 0) (g_tup rfl (gs_cons (g_ 1 sc__law_due.nd lets0) (gs_cons (g_ 2 sc__law_due.nd lets0) (gs_cons (g_ 3 sc__law_due.nd lets0) gs_nil)))))
    (ss_one (s_ret (e_cmp op_gt s_intCmp (e_mul (e_sub (v_ 3) (v_ 2)) (c_ (d__law_choose T) hr tk (a_cons (v_ 1) (a_cons (v_ 2) a_nil)))) (e_mul e_int (e_sub (e_add (v_ 1) (v_ 2)) e_int)) (nomark _)))))
theorem d__law_lines_lack (T : Txt P w K mg base Ga) : Def P w K mg base Ga 1 "_law_lines_lack" s__law_lines_lack ["sizes"] m__law_lines_lack := by
  refine def_of (k := 0) T.f__law_lines_lack sc__law_lines_lack fun f cdv A outer s H E hr => ?_
  have tk : Takes (cxOf (L2.CX P w) P w K mg base ["sizes", "records", "few", "many", "found", "sets", "ways", "power", "k"] "_law_lines_lack" (defScope s__law_lines_lack) f cdv A outer s H E) (fun c d _ H => E c d H) := takes_of rfl rfl rfl rfl
  have po : PassesOwn (model P w) (cxOf (L2.CX P w) P w K mg base ["sizes", "records", "few", "many", "found", "sets", "ways", "power", "k"] "_law_lines_lack" (defScope s__law_lines_lack) f cdv A outer s H E).A (cxOf (L2.CX P w) P w K mg base ["sizes", "records", "few", "many", "found", "sets", "ways", "power", "k"] "_law_lines_lack" (defScope s__law_lines_lack) f cdv A outer s H E).env (cxOf (L2.CX P w) P w K mg base ["sizes", "records", "few", "many", "found", "sets", "ways", "power", "k"] "_law_lines_lack" (defScope s__law_lines_lack) f cdv A outer s H E).xe := passes_of rfl
  unfold b__law_lines_lack
  exact (ss_cons (s_asg (v_ 0) (g_tup rfl (gs_cons (g_ 1 sc__law_lines_lack.nd lets0) (gs_cons (g_ 2 sc__law_lines_lack.nd lets0) (gs_cons (g_ 3 sc__law_lines_lack.nd lets0) gs_nil)))))
    (ss_cons (s_asg (e_tup (a_cons e_int (a_cons e_int (a_cons e_int (a_cons e_int a_nil))))) (g_tup rfl (gs_cons (g_ 4 sc__law_lines_lack.nd lets0) (gs_cons (g_ 5 sc__law_lines_lack.nd lets0) (gs_cons (g_ 6 sc__law_lines_lack.nd lets0) (gs_cons (g_ 7 sc__law_lines_lack.nd lets0) gs_nil))))))
    (ss_cons (s_for po rfl (i_rng1 rfl T.b_range (v_ 2)) (g_ 8 sc__law_lines_lack.nd lets0)
    (ss_cons (s_set (i := 5) sc__law_lines_lack.nd rfl (by first | exact Or.inl rfl | exact Or.inr rfl) lets0 (e_div (e_mul (v_ 5) (e_sub (v_ 1) (v_ 8))) (e_add (v_ 8) e_int)))
    (ss_cons (s_set (i := 6) sc__law_lines_lack.nd rfl (by first | exact Or.inl rfl | exact Or.inr rfl) lets0 (e_mul (v_ 6) (e_sub (v_ 3) e_int)))
    (ss_cons (s_set (i := 4) sc__law_lines_lack.nd rfl (by first | exact Or.inl rfl | exact Or.inr rfl) lets0 (e_add (v_ 4) (e_mul (v_ 5) (v_ 6))))
    (ss_one (s_if (t_cmp op_gt s_intCmp (v_ 8) e_int (nomark _))
    (ss_one (s_set (i := 7) sc__law_lines_lack.nd rfl (by first | exact Or.inl rfl | exact Or.inr rfl) lets0 (e_mul (v_ 7) (v_ 3))))
    ss_nil))))))
    (ss_one (s_ret (e_cmp op_gt s_intCmp (v_ 4) (e_mul (e_mul e_int (e_sub (e_add (v_ 1) (v_ 2)) e_int)) (v_ 7)) (nomark _)))))))
theorem d__law_odd (T : Txt P w K mg base Ga) : Def P w K mg base Ga 1 "_law_odd" s__law_odd ["pick", "least", "most"] m__law_odd := by
  refine def_of (k := 0) T.f__law_odd sc__law_odd fun f cdv A outer s H E hr => ?_
  have tk : Takes (cxOf (L2.CX P w) P w K mg base ["pick", "least", "most"] "_law_odd" (defScope s__law_odd) f cdv A outer s H E) (fun c d _ H => E c d H) := takes_of rfl rfl rfl rfl
  have po : PassesOwn (model P w) (cxOf (L2.CX P w) P w K mg base ["pick", "least", "most"] "_law_odd" (defScope s__law_odd) f cdv A outer s H E).A (cxOf (L2.CX P w) P w K mg base ["pick", "least", "most"] "_law_odd" (defScope s__law_odd) f cdv A outer s H E).env (cxOf (L2.CX P w) P w K mg base ["pick", "least", "most"] "_law_odd" (defScope s__law_odd) f cdv A outer s H E).xe := passes_of rfl
  unfold b__law_odd
  exact (ss_one (s_ret (e_sub_ (e_lst (a_cons (e_sub (v_ 1) e_int) (a_cons (e_add (v_ 2) e_int) (a_cons (e_neg (v_ 2)) (a_cons e_bl (a_cons e_bl (a_cons e_non (a_cons e_str (a_cons (e_lst (a_cons e_int a_nil)) (a_cons (e_tup (a_cons e_int a_nil)) (a_cons (e_pow e_int e_int) (a_cons e_dic0 (a_cons (e_add (v_ 2) e_int) a_nil))))))))))))) (v_ 0) (fun _ _ => rfl))))
theorem d__law_asked (T : Txt P w K mg base Ga) : Def P w K mg base Ga 5 "_law_asked" s__law_asked ["pick", "records", "few", "many"] m__law_asked := by
  refine def_of (k := 4) T.f__law_asked sc__law_asked fun f cdv A outer s H E hr => ?_
  have tk : Takes (cxOf (L2.CX P w) P w K mg base ["pick", "records", "few", "many", "e"] "_law_asked" (defScope s__law_asked) f cdv A outer s H E) (fun c d _ H => E c d H) := takes_of rfl rfl rfl rfl
  have po : PassesOwn (model P w) (cxOf (L2.CX P w) P w K mg base ["pick", "records", "few", "many", "e"] "_law_asked" (defScope s__law_asked) f cdv A outer s H E).A (cxOf (L2.CX P w) P w K mg base ["pick", "records", "few", "many", "e"] "_law_asked" (defScope s__law_asked) f cdv A outer s H E).env (cxOf (L2.CX P w) P w K mg base ["pick", "records", "few", "many", "e"] "_law_asked" (defScope s__law_asked) f cdv A outer s H E).xe := passes_of rfl
  unfold b__law_asked
  exact (ss_one (s_try (n := 3) rfl rfl sc__law_asked.nd rfl tk (fun W pn xe tk po => (ss_cons (s_if (t_cmp (OpR.or op_eq (op_eqD (hu64 hr))) s_eq (v_ 0) e_int (nomark _))
    (ss_one (s_ret (e_lst (a_cons e_str (a_cons (c_ (d_is_above T) hr tk (a_cons (v_ 1) (a_cons (v_ 2) (a_cons (v_ 3) a_nil)))) a_nil)))))
    ss_nil)
    (ss_one (s_ret (e_lst (a_cons e_str (a_cons (ck0_ (ks := ["contents", "changes", "records"]) (is := [2, 1, 0]) (n := 3) (d_is_above T) hr tk (fun _ _ _ _ _ _ us ws h1 h2 => match us, ws, h1, h2 with | [], [_, _, _], _, _ => rfl) (k_cons (v_ 3) (k_cons (v_ 2) (k_cons (v_ 1) k_nil)))) a_nil)))))))
    (HdM.cons (nm := some ("e" : PySem.Str)) (names_ T.e_InvalidRecords) ⟨rfl, rfl⟩ (T.x_m 1 (by decide)) (fun av oe cls d pn dn q hz hf hc hm => by
      obtain rfl : q = 1 := of_decide_eq_true hm
      exact (ss_one (s_ret (e_lst (a_cons e_str (a_cons (e_xf (q := 1) (i := 4) T.x_InvalidRecords T.n_InvalidRecords_given hz hf hc rfl (by first | exact Or.inl rfl | exact Or.inr (Or.inl rfl))) a_nil)))))) (HdM.cons (nm := some ("e" : PySem.Str)) (names_ T.e_InvalidChanges) ⟨rfl, rfl⟩ (T.x_m 2 (by decide)) (fun av oe cls d pn dn q hz hf hc hm => by
      obtain rfl : q = 2 := of_decide_eq_true hm
      exact (ss_one (s_ret (e_lst (a_cons e_str (a_cons (e_xf (q := 2) (i := 4) T.x_InvalidChanges T.n_InvalidChanges_given hz hf hc rfl (by first | exact Or.inl rfl | exact Or.inr (Or.inl rfl))) a_nil)))))) (HdM.cons (nm := some ("e" : PySem.Str)) (names_ T.e_InvalidContents) ⟨rfl, rfl⟩ (T.x_m 0 (by decide)) (fun av oe cls d pn dn q hz hf hc hm => by
      obtain rfl : q = 0 := of_decide_eq_true hm
      exact (ss_one (s_ret (e_lst (a_cons e_str (a_cons (e_xf (q := 0) (i := 4) T.x_InvalidContents T.n_InvalidContents_given hz hf hc rfl (by first | exact Or.inl rfl | exact Or.inr (Or.inl rfl))) a_nil)))))) HdM.nil)))))
theorem d__law_same (T : Txt P w K mg base Ga) : Def P w K mg base Ga 1 "_law_same" s__law_same ["told", "passed"] m__law_same := by
  refine def_of (k := 0) T.f__law_same sc__law_same fun f cdv A outer s H E hr => ?_
  have tk : Takes (cxOf (L2.CX P w) P w K mg base ["told", "passed"] "_law_same" (defScope s__law_same) f cdv A outer s H E) (fun c d _ H => E c d H) := takes_of rfl rfl rfl rfl
  have po : PassesOwn (model P w) (cxOf (L2.CX P w) P w K mg base ["told", "passed"] "_law_same" (defScope s__law_same) f cdv A outer s H E).A (cxOf (L2.CX P w) P w K mg base ["told", "passed"] "_law_same" (defScope s__law_same) f cdv A outer s H E).env (cxOf (L2.CX P w) P w K mg base ["told", "passed"] "_law_same" (defScope s__law_same) f cdv A outer s H E).xe := passes_of rfl
  unfold b__law_same
  exact (ss_cons (s_if (t_tru (e_isi (ty := .tList) rfl rfl T.b_isinstance rfl T.b_list (by decide +kernel) (ha := (v_ 1))) (by intro _; rfl))
    (ss_one (s_expr (e_app (v_ 1) e_str)))
    ss_nil)
    (ss_cons (s_if (t_tru (e_isi (ty := .tDict) rfl rfl T.b_isinstance rfl T.b_dict (by decide +kernel) (ha := (v_ 1))) (by intro _; rfl))
    (ss_one (s_dput (hu1 hr) (v_ 1) e_str e_int))
    ss_nil)
    (ss_one (s_ret (e_cmp (OpR.or op_eq (op_eqD (hu64 hr))) s_eq (e_repr hr.g (hu70 hr) rfl T.b_repr (v_ 0)) (e_repr hr.g (hu70 hr) rfl T.b_repr (v_ 1)) (nomark _))))))
theorem d__law_refused_right (T : Txt P w K mg base Ga) : Def P w K mg base Ga 6 "_law_refused_right" s__law_refused_right ["box", "sizes"] m__law_refused_right := by
  refine def_of (k := 5) T.f__law_refused_right sc__law_refused_right fun f cdv A outer s H E hr => ?_
  have tk : Takes (cxOf (L2.CX P w) P w K mg base ["box", "sizes", "pick", "k", "first", "told", "wrong", "passed", "spare"] "_law_refused_right" (defScope s__law_refused_right) f cdv A outer s H E) (fun c d _ H => E c d H) := takes_of rfl rfl rfl rfl
  have po : PassesOwn (model P w) (cxOf (L2.CX P w) P w K mg base ["box", "sizes", "pick", "k", "first", "told", "wrong", "passed", "spare"] "_law_refused_right" (defScope s__law_refused_right) f cdv A outer s H E).A (cxOf (L2.CX P w) P w K mg base ["box", "sizes", "pick", "k", "first", "told", "wrong", "passed", "spare"] "_law_refused_right" (defScope s__law_refused_right) f cdv A outer s H E).env (cxOf (L2.CX P w) P w K mg base ["box", "sizes", "pick", "k", "first", "told", "wrong", "passed", "spare"] "_law_refused_right" (defScope s__law_refused_right) f cdv A outer s H E).xe := passes_of rfl
  unfold b__law_refused_right
  exact (ss_cons (s_for po rfl (i_seq (e_lst (a_cons e_int (a_cons e_int (a_cons e_int (a_cons e_int a_nil)))))) (g_ 2 sc__law_refused_right.nd lets0)
    (ss_cons (s_asg (e_tup (a_cons (e_add e_int (c_ (d__law_take T) hr tk (a_cons (v_ 0) (a_cons e_int a_nil)))) (a_cons (e_fnT call_list_of f_list rfl T.b_list (by decide +kernel) (a_cons (v_ 1) a_nil)) a_nil))) (g_tup rfl (gs_cons (g_ 6 sc__law_refused_right.nd lets0) (gs_cons (g_ 7 sc__law_refused_right.nd lets0) gs_nil))))
    (ss_cons (s_for po rfl (i_rng1 rfl T.b_range e_int) (g_ 3 sc__law_refused_right.nd lets0)
    (ss_cons (s_set (i := 8) sc__law_refused_right.nd rfl (by first | exact Or.inl rfl | exact Or.inr rfl) lets0 (c_ (d__law_take T) hr tk (a_cons (v_ 0) (a_cons e_int a_nil))))
    (ss_one (s_if (t_cmp (OpR.or op_eq (op_eqD (hu64 hr))) s_eq (e_mod (e_fnT call_int1 f_int rfl T.b_int (by decide +kernel) (a_cons (e_div (v_ 6) (e_sub_ (e_lst (a_cons e_int (a_cons e_int (a_cons e_int a_nil)))) (v_ 3) (fun _ _ => rfl))) a_nil)) e_int) e_int (nomark _))
    (ss_one (s_asg (c_ (d__law_odd T) hr tk (a_cons (v_ 8) (a_cons (e_sub_ (e_lst (a_cons e_int (a_cons e_int (a_cons e_int a_nil)))) (v_ 3) (fun _ _ => rfl)) (a_cons (e_sub_ (e_lst (a_cons e_int (a_cons (e_sub_ (v_ 1) e_int (fun _ _ => rfl)) (a_cons e_int a_nil)))) (v_ 3) (fun _ _ => rfl)) a_nil)))) (g_subL (Wd := W0) (pg_sub (v_ 7) (v_ 3) set_list))))
    ss_nil))))
    (ss_cons (s_set (i := 4) sc__law_refused_right.nd rfl (by first | exact Or.inl rfl | exact Or.inr rfl) lets0 (e_sub_ (e_lc (own := [("k", 3)]) rfl sc__law_refused_right.nd (i_rng1 rfl T.b_range e_int) (blkOk_by (N := ["box", "sizes", "pick", "k", "first", "told", "wrong", "passed", "spare"]) (sc := defScope s__law_refused_right) (own := [("k", 3)]) (by decide +kernel)) (by decide) (b_ (x := "k") 3 _ _) (fun _ _ _ _ _ => (pg_name (i := 3) sc__law_refused_right.nd rfl (by first | exact Or.inl rfl | exact Or.inr rfl))) (fun _ _ _ _ _ => (ts_one (t_cmp (OpR.or op_eq (op_eqD (hu64 hr))) s_eq (e_mod (e_fnT call_int1 f_int rfl T.b_int (by decide +kernel) (a_cons (e_div (v_ 6) (e_sub_ (e_lst (a_cons e_int (a_cons e_int (a_cons e_int a_nil)))) (v_ 3) (fun _ _ => rfl))) a_nil)) e_int) e_int (nomark _)))) (fun _ _ _ _ _ => (v_ 3))) e_int (fun _ _ => rfl)))
    (ss_cons (s_set (i := 5) sc__law_refused_right.nd rfl (by first | exact Or.inl rfl | exact Or.inr rfl) lets0 (c_ (d__law_asked T) hr tk (a_cons (v_ 2) (a_cons (e_sub_ (v_ 7) e_int (fun _ _ => rfl)) (a_cons (e_sub_ (v_ 7) e_int (fun _ _ => rfl)) (a_cons (e_sub_ (v_ 7) e_int (fun _ _ => rfl)) a_nil))))))
    (ss_one (s_if (PW.pt (w_or (t_cmp (OpR.or op_ne (op_neD (hu64 hr))) s_ne (e_sub_ (v_ 5) e_int (fun _ _ => rfl)) (e_sub_ (e_lst (a_cons e_str (a_cons e_str (a_cons e_str a_nil)))) (v_ 4) (fun _ _ => rfl)) (nomark _)) (w_or1 (t_not (t_tru (c_ (d__law_same T) hr tk (a_cons (e_sub_ (v_ 5) e_int (fun _ _ => rfl)) (a_cons (e_sub_ (v_ 7) (v_ 4) (fun _ _ => rfl)) a_nil))) (by intro _; rfl))))))
    (ss_one (s_ret e_bl))
    ss_nil)))))))
    (ss_one (s_ret e_bl)))
theorem d__law_right (T : Txt P w K mg base Ga) : Def P w K mg base Ga 6 "_law_right" s__law_right ["box", "sizes"] m__law_right := by
  refine def_of (k := 5) T.f__law_right sc__law_right fun f cdv A outer s H E hr => ?_
  have tk : Takes (cxOf (L2.CX P w) P w K mg base ["box", "sizes", "records", "few", "many", "due", "pick", "told", "spare"] "_law_right" (defScope s__law_right) f cdv A outer s H E) (fun c d _ H => E c d H) := takes_of rfl rfl rfl rfl
  have po : PassesOwn (model P w) (cxOf (L2.CX P w) P w K mg base ["box", "sizes", "records", "few", "many", "due", "pick", "told", "spare"] "_law_right" (defScope s__law_right) f cdv A outer s H E).A (cxOf (L2.CX P w) P w K mg base ["box", "sizes", "records", "few", "many", "due", "pick", "told", "spare"] "_law_right" (defScope s__law_right) f cdv A outer s H E).env (cxOf (L2.CX P w) P w K mg base ["box", "sizes", "records", "few", "many", "due", "pick", "told", "spare"] "_law_right" (defScope s__law_right) f cdv A outer s H E).xe := passes_of rfl
  unfold b__law_right
  exact (ss_cons (s_asg (v_ 1) (g_tup rfl (gs_cons (g_ 2 sc__law_right.nd lets0) (gs_cons (g_ 3 sc__law_right.nd lets0) (gs_cons (g_ 4 sc__law_right.nd lets0) gs_nil)))))
    (ss_cons (s_set (i := 5) sc__law_right.nd rfl (by first | exact Or.inl rfl | exact Or.inr rfl) lets0 (c_ (d__law_due T) hr tk (a_cons (v_ 1) a_nil)))
    (ss_cons (s_for po rfl (i_seq (e_lst (a_cons e_int (a_cons e_int a_nil)))) (g_ 6 sc__law_right.nd lets0)
    (ss_cons (s_set (i := 7) sc__law_right.nd rfl (by first | exact Or.inl rfl | exact Or.inr rfl) lets0 (c_ (d__law_asked T) hr tk (a_cons (v_ 6) (a_cons (v_ 2) (a_cons (v_ 3) (a_cons (v_ 4) a_nil))))))
    (ss_one (s_if (PW.pt (w_or (t_cmp (OpR.or op_ne (op_neD (hu64 hr))) s_ne (e_sub_ (v_ 7) e_int (fun _ _ => rfl)) e_str (nomark _)) (w_or (t_not (t_tru (e_isi (ty := .tBool) rfl rfl T.b_isinstance rfl T.b_bool (by decide +kernel) (ha := (e_sub_ (v_ 7) e_int (fun _ _ => rfl)))) (by intro _; rfl))) (w_or1 (t_cmp (OpR.or op_ne (op_neD (hu64 hr))) s_ne (e_sub_ (v_ 7) e_int (fun _ _ => rfl)) (v_ 5) (nomark _))))))
    (ss_one (s_ret e_bl))
    ss_nil))))
    (ss_cons (s_set (i := 8) sc__law_right.nd rfl (by first | exact Or.inl rfl | exact Or.inr rfl) lets0 (c_ (d_least_needed T) hr tk (a_cons (v_ 2) (a_cons (v_ 3) (a_cons (v_ 4) a_nil)))))
    (ss_cons (s_if (PW.pt (w_or (t_cmp op_gt s_intCmp (v_ 8) (c_ (d_enough T) hr tk (a_cons (v_ 2) (a_cons (v_ 3) (a_cons (v_ 4) a_nil)))) (nomark _)) (w_or1 (PW.pt (w_and (t_tru (v_ 5) (by intro _; rfl)) (w_and1 (t_cmp op_le s_intCmp (v_ 8) (v_ 3) (nomark _))))))))
    (ss_one (s_ret e_bl))
    ss_nil)
    (ss_cons (s_if (PW.pt (w_and (PW.pt (w_or (t_cmp op_gt s_intCmp (v_ 4) e_int (nomark _)) (w_or1 (t_cmp op_gt s_intCmp (v_ 3) e_int (nomark _))))) (w_and1 (t_cmp (OpR.or op_ne (op_neD (hu64 hr))) s_ne (e_cmp op_gt s_intCmp (v_ 8) (v_ 3) (nomark _)) (c_ (d__law_lines_lack T) hr tk (a_cons (v_ 1) a_nil)) (nomark _)))))
    (ss_one (s_ret e_bl))
    ss_nil)
    (ss_cons (s_if (t_cmp (OpR.or op_ne (op_neD (hu64 hr))) s_ne (c_ (d_is_above T) hr tk (a_cons (v_ 2) (a_cons e_int (a_cons (v_ 4) a_nil)))) (e_cmp op_gt s_intCmp (v_ 4) e_int (nomark _)) (nomark _))
    (ss_one (s_ret e_bl))
    ss_nil)
    (ss_one (s_ret (e_cmp (OpR.or op_eq (op_eqD (hu64 hr))) s_eq (c_ (d_least_needed T) hr tk (a_cons (v_ 2) (a_cons e_int (a_cons (v_ 4) a_nil)))) (e_sub_ (e_lst (a_cons e_int (a_cons e_int (a_cons e_int (a_cons e_int (a_cons e_int a_nil)))))) (e_fnB (call_min2 rfl) f_min2 rfl T.b_min (by decide +kernel) (a_cons e_int (a_cons (v_ 4) a_nil))) (fun _ _ => rfl)) (nomark _)))))))))))
theorem d__law_bounds_right (T : Txt P w K mg base Ga) : Def P w K mg base Ga 6 "_law_bounds_right" s__law_bounds_right [] m__law_bounds_right := by
  refine def_of (k := 5) T.f__law_bounds_right sc__law_bounds_right fun f cdv A outer s H E hr => ?_
  have tk : Takes (cxOf (L2.CX P w) P w K mg base ["pick"] "_law_bounds_right" (defScope s__law_bounds_right) f cdv A outer s H E) (fun c d _ H => E c d H) := takes_of rfl rfl rfl rfl
  have po : PassesOwn (model P w) (cxOf (L2.CX P w) P w K mg base ["pick"] "_law_bounds_right" (defScope s__law_bounds_right) f cdv A outer s H E).A (cxOf (L2.CX P w) P w K mg base ["pick"] "_law_bounds_right" (defScope s__law_bounds_right) f cdv A outer s H E).env (cxOf (L2.CX P w) P w K mg base ["pick"] "_law_bounds_right" (defScope s__law_bounds_right) f cdv A outer s H E).xe := passes_of rfl
  unfold b__law_bounds_right
  exact (ss_cons (s_for po rfl (i_rng1 rfl T.b_range e_int) (g_ 0 sc__law_bounds_right.nd lets0)
    (ss_cons (s_if (PW.pt (w_or (t_cmp (OpR.or op_ne (op_neD (hu64 hr))) s_ne (c_ (d__law_asked T) hr tk (a_cons (v_ 0) (a_cons e_int (a_cons e_int (a_cons e_int a_nil))))) (e_lst (a_cons e_str (a_cons e_bl a_nil))) (nomark _)) (w_or1 (t_cmp (OpR.or op_ne (op_neD (hu64 hr))) s_ne (c_ (d__law_asked T) hr tk (a_cons (v_ 0) (a_cons e_int (a_cons e_int (a_cons e_int a_nil))))) (e_lst (a_cons e_str (a_cons e_int a_nil))) (nomark _)))))
    (ss_one (s_ret e_bl))
    ss_nil)
    (ss_cons (s_if (PW.pt (w_or (t_cmp (OpR.or op_ne (op_neD (hu64 hr))) s_ne (c_ (d__law_asked T) hr tk (a_cons (v_ 0) (a_cons e_int (a_cons e_int (a_cons e_int a_nil))))) (e_lst (a_cons e_str (a_cons e_int a_nil))) (nomark _)) (w_or1 (t_cmp (OpR.or op_ne (op_neD (hu64 hr))) s_ne (c_ (d__law_asked T) hr tk (a_cons (v_ 0) (a_cons e_int (a_cons e_int (a_cons e_int a_nil))))) (e_lst (a_cons e_str (a_cons e_bl a_nil))) (nomark _)))))
    (ss_one (s_ret e_bl))
    ss_nil)
    (ss_one (s_if (PW.pt (w_or (t_cmp (OpR.or op_ne (op_neD (hu64 hr))) s_ne (c_ (d__law_asked T) hr tk (a_cons (v_ 0) (a_cons e_int (a_cons e_int (a_cons e_int a_nil))))) (e_lst (a_cons e_str (a_cons e_int a_nil))) (nomark _)) (w_or1 (t_cmp (OpR.or op_ne (op_neD (hu64 hr))) s_ne (c_ (d__law_asked T) hr tk (a_cons (v_ 0) (a_cons e_int (a_cons e_int (a_cons e_int a_nil))))) (e_lst (a_cons e_str (a_cons e_bl a_nil))) (nomark _)))))
    (ss_one (s_ret e_bl))
    ss_nil)))))
    (ss_one (s_ret e_bl)))
theorem d_law (T : Txt P w K mg base Ga) : Def P w K mg base Ga 7 "law" s_law ["script"] m_law := by
  refine def_of (k := 6) T.f_law sc_law fun f cdv A outer s H E hr => ?_
  have tk : Takes (cxOf (L2.CX P w) P w K mg base ["script", "k", "box", "great", "worlds", "at"] "law" (defScope s_law) f cdv A outer s H E) (fun c d _ H => E c d H) := takes_of rfl rfl rfl rfl
  have po : PassesOwn (model P w) (cxOf (L2.CX P w) P w K mg base ["script", "k", "box", "great", "worlds", "at"] "law" (defScope s_law) f cdv A outer s H E).A (cxOf (L2.CX P w) P w K mg base ["script", "k", "box", "great", "worlds", "at"] "law" (defScope s_law) f cdv A outer s H E).env (cxOf (L2.CX P w) P w K mg base ["script", "k", "box", "great", "worlds", "at"] "law" (defScope s_law) f cdv A outer s H E).xe := passes_of rfl
  unfold b_law
  exact (ss_cons (s_for po rfl (i_rng1 rfl T.b_range (e_fnB (call_max2 rfl) f_max2 rfl T.b_max (by decide +kernel) (a_cons e_int (a_cons (e_fnB (call_min2 rfl) f_min2 rfl T.b_min (by decide +kernel) (a_cons e_int (a_cons (e_fnB call_len f_len rfl T.b_len (by decide +kernel) (a_cons (v_ 0) a_nil)) a_nil))) a_nil)))) (g_ 1 sc_law.nd lets0)
    (ss_cons (s_set (i := 2) sc_law.nd rfl (by first | exact Or.inl rfl | exact Or.inr rfl) lets0 (c_ (d__law_box T) hr tk (a_cons (c_ (d__law_cell T) hr tk (a_cons (v_ 0) (a_cons (v_ 1) a_nil))) a_nil)))
    (ss_cons (s_set (i := 3) sc_law.nd rfl (by first | exact Or.inl rfl | exact Or.inr rfl) lets0 (c_ (d__law_take T) hr tk (a_cons (v_ 2) (a_cons e_int a_nil))))
    (ss_cons (s_set (i := 4) sc_law.nd rfl (by first | exact Or.inl rfl | exact Or.inr rfl) lets0 (e_lst (a_cons (c_ (d__law_sizes T) hr tk (a_cons (v_ 2) (a_cons (e_and (e_cmp (OpR.or op_eq (op_eqD (hu64 hr))) s_eq (v_ 3) e_int (nomark _)) (e_one (e_cmp (OpR.or op_eq (op_eqD (hu64 hr))) s_eq (v_ 1) e_int (nomark _)))) a_nil))) (a_cons (c_ (d__law_sizes T) hr tk (a_cons (v_ 2) (a_cons e_bl a_nil))) a_nil))))
    (ss_one (s_for po rfl (i_seq (e_lst (a_cons e_int (a_cons e_int (a_cons e_int a_nil))))) (g_ 5 sc_law.nd lets0)
    (ss_one (s_if (PW.pt (w_or (t_not (t_tru (c_ (d__law_right T) hr tk (a_cons (v_ 2) (a_cons (e_sub_ (v_ 4) (v_ 5) (fun _ _ => rfl)) a_nil))) (by intro _; rfl))) (w_or1 (t_not (t_tru (c_ (d__law_refused_right T) hr tk (a_cons (v_ 2) (a_cons (e_sub_ (v_ 4) (v_ 5) (fun _ _ => rfl)) a_nil))) (by intro _; rfl))))))
    (ss_one (s_ret e_bl))
    ss_nil))))))))
    (ss_one (s_ret (c0_ (d__law_bounds_right T) hr tk))))
end
end K31
set_option Elab.async false
set_option linter.all false
set_option maxRecDepth 100000
set_option maxHeartbeats 4100000
namespace K31
open PySem PySem.Spec PyProof.Rows L2 Mini Br
theorem ok_InvalidContents {P : Program} {w : World} {K : PySem.W.Frag} {mg : Str → Option Value} {base : Heap} {f C : Addr} {fd : FuncData} (F : Fun K "__init__" "InvalidContents.__init__" s_InvalidContents f fd) (o : OexC K C) (no : PySem.W.findIn K (.ref C) "given" = some none) : FnOk P w K mg base CX0 1 f fd ["self", "given"] (spI "given" C) := by
  refine F.ok sc_InvalidContents (fun vs H Q E h => ?_) (fun cdv A outer s H vs Q E hr h => ?_)
  · obtain ⟨a, v, rfl, _⟩ := h; rfl
  · obtain ⟨a, v, rfl, ha, k⟩ := h
    refine ⟨_, pss_one (ps_ost (pv 0) (pv 1)), ?_⟩
    exact ⟨_, rfl, _, rfl, a, C, rfl, o, no, .inl ⟨ha, fun dx h1 h2 => k dx h1 h2⟩⟩
theorem ok_InvalidRecords {P : Program} {w : World} {K : PySem.W.Frag} {mg : Str → Option Value} {base : Heap} {f C : Addr} {fd : FuncData} (F : Fun K "__init__" "InvalidRecords.__init__" s_InvalidRecords f fd) (o : OexC K C) (no : PySem.W.findIn K (.ref C) "given" = some none) : FnOk P w K mg base CX0 1 f fd ["self", "given"] (spI "given" C) := by
  refine F.ok sc_InvalidRecords (fun vs H Q E h => ?_) (fun cdv A outer s H vs Q E hr h => ?_)
  · obtain ⟨a, v, rfl, _⟩ := h; rfl
  · obtain ⟨a, v, rfl, ha, k⟩ := h
    refine ⟨_, pss_one (ps_ost (pv 0) (pv 1)), ?_⟩
    exact ⟨_, rfl, _, rfl, a, C, rfl, o, no, .inl ⟨ha, fun dx h1 h2 => k dx h1 h2⟩⟩
theorem ok_InvalidChanges {P : Program} {w : World} {K : PySem.W.Frag} {mg : Str → Option Value} {base : Heap} {f C : Addr} {fd : FuncData} (F : Fun K "__init__" "InvalidChanges.__init__" s_InvalidChanges f fd) (o : OexC K C) (no : PySem.W.findIn K (.ref C) "given" = some none) : FnOk P w K mg base CX0 1 f fd ["self", "given"] (spI "given" C) := by
  refine F.ok sc_InvalidChanges (fun vs H Q E h => ?_) (fun cdv A outer s H vs Q E hr h => ?_)
  · obtain ⟨a, v, rfl, _⟩ := h; rfl
  · obtain ⟨a, v, rfl, ha, k⟩ := h
    refine ⟨_, pss_one (ps_ost (pv 0) (pv 1)), ?_⟩
    exact ⟨_, rfl, _, rfl, a, C, rfl, o, no, .inl ⟨ha, fun dx h1 h2 => k dx h1 h2⟩⟩
set_option maxHeartbeats 4200000 in
theorem all_mk {w : World} {K : PySem.W.Frag} {h : Heap} {mg : Str → Option Value} {fa : Addr} {f0 f1 f2 f3 f4 f5 f6 f7 f8 f9 f10 f11 f12 f13 f14 f15 f16 f17 f18 f19 f20 f21 f22 C0 u0 C1 u1 C2 u2 : Addr} {od0 an0 : Option Addr} {sl0 : Array (Option Value)} {oc0 kV0 dc0 pm0 cd0 ct0 : Value} {od1 an1 : Option Addr} {sl1 : Array (Option Value)} {oc1 kV1 dc1 pm1 cd1 ct1 : Value} {od2 an2 : Option Addr} {sl2 : Array (Option Value)} {oc2 kV2 dc2 pm2 cd2 ct2 : Value} {od3 an3 : Option Addr} {sl3 : Array (Option Value)} {oc3 kV3 dc3 pm3 cd3 ct3 : Value} {od4 an4 : Option Addr} {sl4 : Array (Option Value)} {oc4 kV4 dc4 pm4 cd4 ct4 : Value} {od5 an5 : Option Addr} {sl5 : Array (Option Value)} {oc5 kV5 dc5 pm5 cd5 ct5 : Value} {od6 an6 : Option Addr} {sl6 : Array (Option Value)} {oc6 kV6 dc6 pm6 cd6 ct6 : Value} {od7 an7 : Option Addr} {sl7 : Array (Option Value)} {oc7 kV7 dc7 pm7 cd7 ct7 : Value} {od8 an8 : Option Addr} {sl8 : Array (Option Value)} {oc8 kV8 dc8 pm8 cd8 ct8 : Value} {od9 an9 : Option Addr} {sl9 : Array (Option Value)} {oc9 kV9 dc9 pm9 cd9 ct9 : Value} {od10 an10 : Option Addr} {sl10 : Array (Option Value)} {oc10 kV10 dc10 pm10 cd10 ct10 : Value} {od11 an11 : Option Addr} {sl11 : Array (Option Value)} {oc11 kV11 dc11 pm11 cd11 ct11 : Value} {od12 an12 : Option Addr} {sl12 : Array (Option Value)} {oc12 kV12 dc12 pm12 cd12 ct12 : Value} {od13 an13 : Option Addr} {sl13 : Array (Option Value)} {oc13 kV13 dc13 pm13 cd13 ct13 : Value} {od14 an14 : Option Addr} {sl14 : Array (Option Value)} {oc14 kV14 dc14 pm14 cd14 ct14 : Value} {od15 an15 : Option Addr} {sl15 : Array (Option Value)} {oc15 kV15 dc15 pm15 cd15 ct15 : Value} {od16 an16 : Option Addr} {sl16 : Array (Option Value)} {oc16 kV16 dc16 pm16 cd16 ct16 : Value} {od17 an17 : Option Addr} {sl17 : Array (Option Value)} {oc17 kV17 dc17 pm17 cd17 ct17 : Value} {od18 an18 : Option Addr} {sl18 : Array (Option Value)} {oc18 kV18 dc18 pm18 cd18 ct18 : Value} {od19 an19 : Option Addr} {sl19 : Array (Option Value)} {oc19 kV19 dc19 pm19 cd19 ct19 : Value} {od20 an20 : Option Addr} {sl20 : Array (Option Value)} {oc20 kV20 dc20 pm20 cd20 ct20 : Value} {od21 an21 : Option Addr} {sl21 : Array (Option Value)} {oc21 kV21 dc21 pm21 cd21 ct21 : Value} {od22 an22 : Option Addr} {sl22 : Array (Option Value)} {oc22 kV22 dc22 pm22 cd22 ct22 : Value} {t0 : Tok} {t1 : Tok} {nm0 q0 : Str} {N0 : Addr} {bs0 bm0 : List Value} {sn0 : List Str} {sb0 : List Value} {ab0 : Bool} {co0 : Option Bool} {dd0 : Option Addr} {m00 m10 m20 m30 m50 : Option Value} {ode0 ane0 : Option Addr} {sle0 : Array (Option Value)} {oce0 kVe0 dce0 pme0 cde0 cte0 : Value} {nm1 q1 : Str} {N1 : Addr} {bs1 bm1 : List Value} {sn1 : List Str} {sb1 : List Value} {ab1 : Bool} {co1 : Option Bool} {dd1 : Option Addr} {m01 m11 m21 m31 m51 : Option Value} {ode1 ane1 : Option Addr} {sle1 : Array (Option Value)} {oce1 kVe1 dce1 pme1 cde1 cte1 : Value} {nm2 q2 : Str} {N2 : Addr} {bs2 bm2 : List Value} {sn2 : List Str} {sb2 : List Value} {ab2 : Bool} {co2 : Option Bool} {dd2 : Option Addr} {m02 m12 m22 m32 m52 : Option Value} {ode2 ane2 : Option Addr} {sle2 : Array (Option Value)} {oce2 kVe2 dce2 pme2 cde2 cte2 : Value} (X : K.In h) (G : h.Ns mainGlobals mg) (hfa : mg "law" = some (.ref fa))
    (a0 : PySem.W.nsIn K mainGlobals "is_whole" = some (some (.ref f0)))
    (l0 : K.lookup f0 = some ⟨oc0, od0, .func (PySem.W.fnOf "is_whole" "is_whole" (defArgs s_is_whole) (defBody s_is_whole) (defScope s_is_whole) .none kV0 dc0 pm0 an0 cd0 ct0), sl0⟩)
    (c0 : PySem.W.codeIn K cd0 "is_whole" = true)
    (k0 : PySem.W.keepIn K (.ref f0) = true)
    (a1 : PySem.W.nsIn K mainGlobals "is_between" = some (some (.ref f1)))
    (l1 : K.lookup f1 = some ⟨oc1, od1, .func (PySem.W.fnOf "is_between" "is_between" (defArgs s_is_between) (defBody s_is_between) (defScope s_is_between) .none kV1 dc1 pm1 an1 cd1 ct1), sl1⟩)
    (c1 : PySem.W.codeIn K cd1 "is_between" = true)
    (k1 : PySem.W.keepIn K (.ref f1) = true)
    (a2 : PySem.W.nsIn K mainGlobals "choose" = some (some (.ref f2)))
    (l2 : K.lookup f2 = some ⟨oc2, od2, .func (PySem.W.fnOf "choose" "choose" (defArgs s_choose) (defBody s_choose) (defScope s_choose) .none kV2 dc2 pm2 an2 cd2 ct2), sl2⟩)
    (c2 : PySem.W.codeIn K cd2 "choose" = true)
    (k2 : PySem.W.keepIn K (.ref f2) = true)
    (a3 : PySem.W.nsIn K mainGlobals "least_places" = some (some (.ref f3)))
    (l3 : K.lookup f3 = some ⟨oc3, od3, .func (PySem.W.fnOf "least_places" "least_places" (defArgs s_least_places) (defBody s_least_places) (defScope s_least_places) .none kV3 dc3 pm3 an3 cd3 ct3), sl3⟩)
    (c3 : PySem.W.codeIn K cd3 "least_places" = true)
    (k3 : PySem.W.keepIn K (.ref f3) = true)
    (a4 : PySem.W.nsIn K mainGlobals "count_wishes" = some (some (.ref f4)))
    (l4 : K.lookup f4 = some ⟨oc4, od4, .func (PySem.W.fnOf "count_wishes" "count_wishes" (defArgs s_count_wishes) (defBody s_count_wishes) (defScope s_count_wishes) .none kV4 dc4 pm4 an4 cd4 ct4), sl4⟩)
    (c4 : PySem.W.codeIn K cd4 "count_wishes" = true)
    (k4 : PySem.W.keepIn K (.ref f4) = true)
    (a5 : PySem.W.nsIn K mainGlobals "check_sizes" = some (some (.ref f5)))
    (l5 : K.lookup f5 = some ⟨oc5, od5, .func (PySem.W.fnOf "check_sizes" "check_sizes" (defArgs s_check_sizes) (defBody s_check_sizes) (defScope s_check_sizes) .none kV5 dc5 pm5 an5 cd5 ct5), sl5⟩)
    (c5 : PySem.W.codeIn K cd5 "check_sizes" = true)
    (k5 : PySem.W.keepIn K (.ref f5) = true)
    (a6 : PySem.W.nsIn K mainGlobals "least_needed" = some (some (.ref f6)))
    (l6 : K.lookup f6 = some ⟨oc6, od6, .func (PySem.W.fnOf "least_needed" "least_needed" (defArgs s_least_needed) (defBody s_least_needed) (defScope s_least_needed) .none kV6 dc6 pm6 an6 cd6 ct6), sl6⟩)
    (c6 : PySem.W.codeIn K cd6 "least_needed" = true)
    (k6 : PySem.W.keepIn K (.ref f6) = true)
    (a7 : PySem.W.nsIn K mainGlobals "enough" = some (some (.ref f7)))
    (l7 : K.lookup f7 = some ⟨oc7, od7, .func (PySem.W.fnOf "enough" "enough" (defArgs s_enough) (defBody s_enough) (defScope s_enough) .none kV7 dc7 pm7 an7 cd7 ct7), sl7⟩)
    (c7 : PySem.W.codeIn K cd7 "enough" = true)
    (k7 : PySem.W.keepIn K (.ref f7) = true)
    (a8 : PySem.W.nsIn K mainGlobals "is_above" = some (some (.ref f8)))
    (l8 : K.lookup f8 = some ⟨oc8, od8, .func (PySem.W.fnOf "is_above" "is_above" (defArgs s_is_above) (defBody s_is_above) (defScope s_is_above) .none kV8 dc8 pm8 an8 cd8 ct8), sl8⟩)
    (c8 : PySem.W.codeIn K cd8 "is_above" = true)
    (k8 : PySem.W.keepIn K (.ref f8) = true)
    (a9 : PySem.W.nsIn K mainGlobals "_law_cell" = some (some (.ref f9)))
    (l9 : K.lookup f9 = some ⟨oc9, od9, .func (PySem.W.fnOf "_law_cell" "_law_cell" (defArgs s__law_cell) (defBody s__law_cell) (defScope s__law_cell) .none kV9 dc9 pm9 an9 cd9 ct9), sl9⟩)
    (c9 : PySem.W.codeIn K cd9 "_law_cell" = true)
    (k9 : PySem.W.keepIn K (.ref f9) = true)
    (a10 : PySem.W.nsIn K mainGlobals "_law_box" = some (some (.ref f10)))
    (l10 : K.lookup f10 = some ⟨oc10, od10, .func (PySem.W.fnOf "_law_box" "_law_box" (defArgs s__law_box) (defBody s__law_box) (defScope s__law_box) .none kV10 dc10 pm10 an10 cd10 ct10), sl10⟩)
    (c10 : PySem.W.codeIn K cd10 "_law_box" = true)
    (k10 : PySem.W.keepIn K (.ref f10) = true)
    (a11 : PySem.W.nsIn K mainGlobals "_law_take" = some (some (.ref f11)))
    (l11 : K.lookup f11 = some ⟨oc11, od11, .func (PySem.W.fnOf "_law_take" "_law_take" (defArgs s__law_take) (defBody s__law_take) (defScope s__law_take) .none kV11 dc11 pm11 an11 cd11 ct11), sl11⟩)
    (c11 : PySem.W.codeIn K cd11 "_law_take" = true)
    (k11 : PySem.W.keepIn K (.ref f11) = true)
    (a12 : PySem.W.nsIn K mainGlobals "_law_choose" = some (some (.ref f12)))
    (l12 : K.lookup f12 = some ⟨oc12, od12, .func (PySem.W.fnOf "_law_choose" "_law_choose" (defArgs s__law_choose) (defBody s__law_choose) (defScope s__law_choose) .none kV12 dc12 pm12 an12 cd12 ct12), sl12⟩)
    (c12 : PySem.W.codeIn K cd12 "_law_choose" = true)
    (k12 : PySem.W.keepIn K (.ref f12) = true)
    (a13 : PySem.W.nsIn K mainGlobals "_law_sizes" = some (some (.ref f13)))
    (l13 : K.lookup f13 = some ⟨oc13, od13, .func (PySem.W.fnOf "_law_sizes" "_law_sizes" (defArgs s__law_sizes) (defBody s__law_sizes) (defScope s__law_sizes) .none kV13 dc13 pm13 an13 cd13 ct13), sl13⟩)
    (c13 : PySem.W.codeIn K cd13 "_law_sizes" = true)
    (k13 : PySem.W.keepIn K (.ref f13) = true)
    (a14 : PySem.W.nsIn K mainGlobals "_law_due" = some (some (.ref f14)))
    (l14 : K.lookup f14 = some ⟨oc14, od14, .func (PySem.W.fnOf "_law_due" "_law_due" (defArgs s__law_due) (defBody s__law_due) (defScope s__law_due) .none kV14 dc14 pm14 an14 cd14 ct14), sl14⟩)
    (c14 : PySem.W.codeIn K cd14 "_law_due" = true)
    (k14 : PySem.W.keepIn K (.ref f14) = true)
    (a15 : PySem.W.nsIn K mainGlobals "_law_lines_lack" = some (some (.ref f15)))
    (l15 : K.lookup f15 = some ⟨oc15, od15, .func (PySem.W.fnOf "_law_lines_lack" "_law_lines_lack" (defArgs s__law_lines_lack) (defBody s__law_lines_lack) (defScope s__law_lines_lack) .none kV15 dc15 pm15 an15 cd15 ct15), sl15⟩)
    (c15 : PySem.W.codeIn K cd15 "_law_lines_lack" = true)
    (k15 : PySem.W.keepIn K (.ref f15) = true)
    (a16 : PySem.W.nsIn K mainGlobals "_law_odd" = some (some (.ref f16)))
    (l16 : K.lookup f16 = some ⟨oc16, od16, .func (PySem.W.fnOf "_law_odd" "_law_odd" (defArgs s__law_odd) (defBody s__law_odd) (defScope s__law_odd) .none kV16 dc16 pm16 an16 cd16 ct16), sl16⟩)
    (c16 : PySem.W.codeIn K cd16 "_law_odd" = true)
    (k16 : PySem.W.keepIn K (.ref f16) = true)
    (a17 : PySem.W.nsIn K mainGlobals "_law_asked" = some (some (.ref f17)))
    (l17 : K.lookup f17 = some ⟨oc17, od17, .func (PySem.W.fnOf "_law_asked" "_law_asked" (defArgs s__law_asked) (defBody s__law_asked) (defScope s__law_asked) .none kV17 dc17 pm17 an17 cd17 ct17), sl17⟩)
    (c17 : PySem.W.codeIn K cd17 "_law_asked" = true)
    (k17 : PySem.W.keepIn K (.ref f17) = true)
    (a18 : PySem.W.nsIn K mainGlobals "_law_same" = some (some (.ref f18)))
    (l18 : K.lookup f18 = some ⟨oc18, od18, .func (PySem.W.fnOf "_law_same" "_law_same" (defArgs s__law_same) (defBody s__law_same) (defScope s__law_same) .none kV18 dc18 pm18 an18 cd18 ct18), sl18⟩)
    (c18 : PySem.W.codeIn K cd18 "_law_same" = true)
    (k18 : PySem.W.keepIn K (.ref f18) = true)
    (a19 : PySem.W.nsIn K mainGlobals "_law_refused_right" = some (some (.ref f19)))
    (l19 : K.lookup f19 = some ⟨oc19, od19, .func (PySem.W.fnOf "_law_refused_right" "_law_refused_right" (defArgs s__law_refused_right) (defBody s__law_refused_right) (defScope s__law_refused_right) .none kV19 dc19 pm19 an19 cd19 ct19), sl19⟩)
    (c19 : PySem.W.codeIn K cd19 "_law_refused_right" = true)
    (k19 : PySem.W.keepIn K (.ref f19) = true)
    (a20 : PySem.W.nsIn K mainGlobals "_law_right" = some (some (.ref f20)))
    (l20 : K.lookup f20 = some ⟨oc20, od20, .func (PySem.W.fnOf "_law_right" "_law_right" (defArgs s__law_right) (defBody s__law_right) (defScope s__law_right) .none kV20 dc20 pm20 an20 cd20 ct20), sl20⟩)
    (c20 : PySem.W.codeIn K cd20 "_law_right" = true)
    (k20 : PySem.W.keepIn K (.ref f20) = true)
    (a21 : PySem.W.nsIn K mainGlobals "_law_bounds_right" = some (some (.ref f21)))
    (l21 : K.lookup f21 = some ⟨oc21, od21, .func (PySem.W.fnOf "_law_bounds_right" "_law_bounds_right" (defArgs s__law_bounds_right) (defBody s__law_bounds_right) (defScope s__law_bounds_right) .none kV21 dc21 pm21 an21 cd21 ct21), sl21⟩)
    (c21 : PySem.W.codeIn K cd21 "_law_bounds_right" = true)
    (k21 : PySem.W.keepIn K (.ref f21) = true)
    (a22 : PySem.W.nsIn K mainGlobals "law" = some (some (.ref f22)))
    (l22 : K.lookup f22 = some ⟨oc22, od22, .func (PySem.W.fnOf "law" "law" (defArgs s_law) (defBody s_law) (defScope s_law) .none kV22 dc22 pm22 an22 cd22 ct22), sl22⟩)
    (c22 : PySem.W.codeIn K cd22 "law" = true)
    (k22 : PySem.W.keepIn K (.ref f22) = true)
    (z0 : PySem.W.nsIn K mainGlobals "abs" = some none)
    (z1 : PySem.W.nsIn K mainGlobals "bool" = some none)
    (z2 : PySem.W.nsIn K mainGlobals "dict" = some none)
    (z3 : PySem.W.nsIn K mainGlobals "int" = some none)
    (z4 : PySem.W.nsIn K mainGlobals "isinstance" = some none)
    (z5 : PySem.W.nsIn K mainGlobals "len" = some none)
    (z6 : PySem.W.nsIn K mainGlobals "list" = some none)
    (z7 : PySem.W.nsIn K mainGlobals "max" = some none)
    (z8 : PySem.W.nsIn K mainGlobals "min" = some none)
    (z9 : PySem.W.nsIn K mainGlobals "range" = some none)
    (z10 : PySem.W.nsIn K mainGlobals "repr" = some none)
    (z11 : PySem.W.nsIn K mainGlobals "sum" = some none)
    (gc0 : PySem.W.nsIn K mainGlobals "MOST_COUNTED_CONTENTS" = some (some (.int 10000 t0)))
    (gc1 : PySem.W.nsIn K mainGlobals "MOST_COUNTED_RECORDS" = some (some (.int 1000 t1)))
    (A0 : PySem.W.nsIn K mainGlobals "InvalidContents" = some (some (.ref C0)))
    (X0 : K.lookup C0 = some (excClassObj nm0 q0 C0 N0 bs0 bm0 true sn0 sb0 ab0 co0 dd0 m00 m10 m20 m30 m50 "ValueError.__new__"))
    (v0 : PySem.HandSPX.refsVE bm0 = true)
    (sa0 : PySem.W.findIn K (.ref C0) "__setattr__" = some (some (.builtin "object.__setattr__")))
    (e0 : PySem.W.subIn K (.ref C0) (.type "BaseException") = some true)
    (T0 : PySem.W.typeIn K (.ref C0) = some (.type "type"))
    (I0 : PySem.W.isClsIn K C0 = true)
    (K0 : PySem.W.keepIn K (.ref C0) = true)
    (n0 : PySem.W.findIn K (.ref C0) "__init__" = some (some (.ref u0)))
    (y0 : PySem.W.typeIn K (.ref u0) = some (.type "function"))
    (le0 : K.lookup u0 = some ⟨oce0, ode0, .func (PySem.W.fnOf "__init__" "InvalidContents.__init__" (defArgs s_InvalidContents) (defBody s_InvalidContents) (defScope s_InvalidContents) .none kVe0 dce0 pme0 ane0 cde0 cte0), sle0⟩)
    (ce0 : PySem.W.codeIn K cde0 "InvalidContents.__init__" = true)
    (ke0 : PySem.W.keepIn K (.ref u0) = true)
    (ga0 : PySem.W.findIn K (.ref C0) "__getattribute__" = some (some (.builtin "BaseException.__getattribute__")))
    (gg0 : PySem.W.findIn K (.ref C0) "__getattr__" = some none)
    (hd0 : PySem.W.hasDictIn K C0 = true)
    (at0 : PySem.W.findIn K (.ref C0) "given" = some none)
    (A1 : PySem.W.nsIn K mainGlobals "InvalidRecords" = some (some (.ref C1)))
    (X1 : K.lookup C1 = some (excClassObj nm1 q1 C1 N1 bs1 bm1 true sn1 sb1 ab1 co1 dd1 m01 m11 m21 m31 m51 "ValueError.__new__"))
    (v1 : PySem.HandSPX.refsVE bm1 = true)
    (sa1 : PySem.W.findIn K (.ref C1) "__setattr__" = some (some (.builtin "object.__setattr__")))
    (e1 : PySem.W.subIn K (.ref C1) (.type "BaseException") = some true)
    (T1 : PySem.W.typeIn K (.ref C1) = some (.type "type"))
    (I1 : PySem.W.isClsIn K C1 = true)
    (K1 : PySem.W.keepIn K (.ref C1) = true)
    (n1 : PySem.W.findIn K (.ref C1) "__init__" = some (some (.ref u1)))
    (y1 : PySem.W.typeIn K (.ref u1) = some (.type "function"))
    (le1 : K.lookup u1 = some ⟨oce1, ode1, .func (PySem.W.fnOf "__init__" "InvalidRecords.__init__" (defArgs s_InvalidRecords) (defBody s_InvalidRecords) (defScope s_InvalidRecords) .none kVe1 dce1 pme1 ane1 cde1 cte1), sle1⟩)
    (ce1 : PySem.W.codeIn K cde1 "InvalidRecords.__init__" = true)
    (ke1 : PySem.W.keepIn K (.ref u1) = true)
    (ga1 : PySem.W.findIn K (.ref C1) "__getattribute__" = some (some (.builtin "BaseException.__getattribute__")))
    (gg1 : PySem.W.findIn K (.ref C1) "__getattr__" = some none)
    (hd1 : PySem.W.hasDictIn K C1 = true)
    (at1 : PySem.W.findIn K (.ref C1) "given" = some none)
    (A2 : PySem.W.nsIn K mainGlobals "InvalidChanges" = some (some (.ref C2)))
    (X2 : K.lookup C2 = some (excClassObj nm2 q2 C2 N2 bs2 bm2 true sn2 sb2 ab2 co2 dd2 m02 m12 m22 m32 m52 "ValueError.__new__"))
    (v2 : PySem.HandSPX.refsVE bm2 = true)
    (sa2 : PySem.W.findIn K (.ref C2) "__setattr__" = some (some (.builtin "object.__setattr__")))
    (e2 : PySem.W.subIn K (.ref C2) (.type "BaseException") = some true)
    (T2 : PySem.W.typeIn K (.ref C2) = some (.type "type"))
    (I2 : PySem.W.isClsIn K C2 = true)
    (K2 : PySem.W.keepIn K (.ref C2) = true)
    (n2 : PySem.W.findIn K (.ref C2) "__init__" = some (some (.ref u2)))
    (y2 : PySem.W.typeIn K (.ref u2) = some (.type "function"))
    (le2 : K.lookup u2 = some ⟨oce2, ode2, .func (PySem.W.fnOf "__init__" "InvalidChanges.__init__" (defArgs s_InvalidChanges) (defBody s_InvalidChanges) (defScope s_InvalidChanges) .none kVe2 dce2 pme2 ane2 cde2 cte2), sle2⟩)
    (ce2 : PySem.W.codeIn K cde2 "InvalidChanges.__init__" = true)
    (ke2 : PySem.W.keepIn K (.ref u2) = true)
    (ga2 : PySem.W.findIn K (.ref C2) "__getattribute__" = some (some (.builtin "BaseException.__getattribute__")))
    (gg2 : PySem.W.findIn K (.ref C2) "__getattr__" = some none)
    (hd2 : PySem.W.hasDictIn K C2 = true)
    (at2 : PySem.W.findIn K (.ref C2) "given" = some none)
    (s0_0 : PySem.W.subIn K (.ref C0) (.ref C0) = some true)
    (s0_1 : PySem.W.subIn K (.ref C0) (.ref C1) = some false)
    (s0_2 : PySem.W.subIn K (.ref C0) (.ref C2) = some false)
    (s1_0 : PySem.W.subIn K (.ref C1) (.ref C0) = some false)
    (s1_1 : PySem.W.subIn K (.ref C1) (.ref C1) = some true)
    (s1_2 : PySem.W.subIn K (.ref C1) (.ref C2) = some false)
    (s2_0 : PySem.W.subIn K (.ref C2) (.ref C0) = some false)
    (s2_1 : PySem.W.subIn K (.ref C2) (.ref C1) = some false)
    (s2_2 : PySem.W.subIn K (.ref C2) (.ref C2) = some true)
    : ∃ (fd : FuncData) (Ga : Nat → Addr), (∀ (s : Shared) (v : Value), BindsTo s fd ⟨[v], []⟩ [("script", v)]) ∧ ∀ base : Heap, K.In base → base.Ns mainGlobals mg → FnM PySem.Challenge.pw_leastspare_k31_changes_or_one_more w K mg base Ga 7 fa fd ["script"] m_law := by
  have e := hfa.symm.trans (PySem.W.mg_of X G a22)
  cases e
  have F0 := fun_mk (st := s_is_whole) l0 c0 k0
  have b0 := F0.binds (ps := ["value"]) fun _ _ _ _ _ _ us hl => match us, hl with | [_], _ => rfl
  have F1 := fun_mk (st := s_is_between) l1 c1 k1
  have b1 := F1.binds (ps := ["value", "least", "most"]) fun _ _ _ _ _ _ us hl => match us, hl with | [_, _, _], _ => rfl
  have F2 := fun_mk (st := s_choose) l2 c2 k2
  have b2 := F2.binds (ps := ["many", "few"]) fun _ _ _ _ _ _ us hl => match us, hl with | [_, _], _ => rfl
  have F3 := fun_mk (st := s_least_places) l3 c3 k3
  have b3 := F3.binds (ps := ["count", "contents"]) fun _ _ _ _ _ _ us hl => match us, hl with | [_, _], _ => rfl
  have F4 := fun_mk (st := s_count_wishes) l4 c4 k4
  have b4 := F4.binds (ps := ["records", "changes", "contents"]) fun _ _ _ _ _ _ us hl => match us, hl with | [_, _, _], _ => rfl
  have F5 := fun_mk (st := s_check_sizes) l5 c5 k5
  have b5 := F5.binds (ps := ["records", "changes", "contents"]) fun _ _ _ _ _ _ us hl => match us, hl with | [_, _, _], _ => rfl
  have F6 := fun_mk (st := s_least_needed) l6 c6 k6
  have b6 := F6.binds (ps := ["records", "changes", "contents"]) fun _ _ _ _ _ _ us hl => match us, hl with | [_, _, _], _ => rfl
  have F7 := fun_mk (st := s_enough) l7 c7 k7
  have b7 := F7.binds (ps := ["records", "changes", "contents"]) fun _ _ _ _ _ _ us hl => match us, hl with | [_, _, _], _ => rfl
  have F8 := fun_mk (st := s_is_above) l8 c8 k8
  have b8 := F8.binds (ps := ["records", "changes", "contents"]) fun _ _ _ _ _ _ us hl => match us, hl with | [_, _, _], _ => rfl
  have F9 := fun_mk (st := s__law_cell) l9 c9 k9
  have b9 := F9.binds (ps := ["script", "k"]) fun _ _ _ _ _ _ us hl => match us, hl with | [_, _], _ => rfl
  have F10 := fun_mk (st := s__law_box) l10 c10 k10
  have b10 := F10.binds (ps := ["great"]) fun _ _ _ _ _ _ us hl => match us, hl with | [_], _ => rfl
  have F11 := fun_mk (st := s__law_take) l11 c11 k11
  have b11 := F11.binds (ps := ["box", "many"]) fun _ _ _ _ _ _ us hl => match us, hl with | [_, _], _ => rfl
  have F12 := fun_mk (st := s__law_choose) l12 c12 k12
  have b12 := F12.binds (ps := ["records", "few"]) fun _ _ _ _ _ _ us hl => match us, hl with | [_, _], _ => rfl
  have F13 := fun_mk (st := s__law_sizes) l13 c13 k13
  have b13 := F13.binds (ps := ["box", "great"]) fun _ _ _ _ _ _ us hl => match us, hl with | [_, _], _ => rfl
  have F14 := fun_mk (st := s__law_due) l14 c14 k14
  have b14 := F14.binds (ps := ["sizes"]) fun _ _ _ _ _ _ us hl => match us, hl with | [_], _ => rfl
  have F15 := fun_mk (st := s__law_lines_lack) l15 c15 k15
  have b15 := F15.binds (ps := ["sizes"]) fun _ _ _ _ _ _ us hl => match us, hl with | [_], _ => rfl
  have F16 := fun_mk (st := s__law_odd) l16 c16 k16
  have b16 := F16.binds (ps := ["pick", "least", "most"]) fun _ _ _ _ _ _ us hl => match us, hl with | [_, _, _], _ => rfl
  have F17 := fun_mk (st := s__law_asked) l17 c17 k17
  have b17 := F17.binds (ps := ["pick", "records", "few", "many"]) fun _ _ _ _ _ _ us hl => match us, hl with | [_, _, _, _], _ => rfl
  have F18 := fun_mk (st := s__law_same) l18 c18 k18
  have b18 := F18.binds (ps := ["told", "passed"]) fun _ _ _ _ _ _ us hl => match us, hl with | [_, _], _ => rfl
  have F19 := fun_mk (st := s__law_refused_right) l19 c19 k19
  have b19 := F19.binds (ps := ["box", "sizes"]) fun _ _ _ _ _ _ us hl => match us, hl with | [_, _], _ => rfl
  have F20 := fun_mk (st := s__law_right) l20 c20 k20
  have b20 := F20.binds (ps := ["box", "sizes"]) fun _ _ _ _ _ _ us hl => match us, hl with | [_, _], _ => rfl
  have F21 := fun_mk (st := s__law_bounds_right) l21 c21 k21
  have b21 := F21.binds (ps := []) fun _ _ _ _ _ _ us hl => match us, hl with | [], _ => rfl
  have F22 := fun_mk (st := s_law) l22 c22 k22
  have b22 := F22.binds (ps := ["script"]) fun _ _ _ _ _ _ us hl => match us, hl with | [_], _ => rfl
  have o0 : OexC K C0 := ⟨⟨_, _, _, _, _, _, _, _, _, _, _, _, _, _, _, X0, v0⟩, sa0, e0, T0, K0⟩
  have G0 := fun_mk (st := s_InvalidContents) le0 ce0 ke0
  have B0 := G0.binds (ps := ["self", "given"]) fun _ _ _ _ _ _ us hl => match us, hl with | [_, _], _ => rfl
  have o1 : OexC K C1 := ⟨⟨_, _, _, _, _, _, _, _, _, _, _, _, _, _, _, X1, v1⟩, sa1, e1, T1, K1⟩
  have G1 := fun_mk (st := s_InvalidRecords) le1 ce1 ke1
  have B1 := G1.binds (ps := ["self", "given"]) fun _ _ _ _ _ _ us hl => match us, hl with | [_, _], _ => rfl
  have o2 : OexC K C2 := ⟨⟨_, _, _, _, _, _, _, _, _, _, _, _, _, _, _, X2, v2⟩, sa2, e2, T2, K2⟩
  have G2 := fun_mk (st := s_InvalidChanges) le2 ce2 ke2
  have B2 := G2.binds (ps := ["self", "given"]) fun _ _ _ _ _ _ us hl => match us, hl with | [_, _], _ => rfl
  refine ⟨PySem.W.fnOf "law" "law" (defArgs s_law) (defBody s_law) (defScope s_law) .none kV22 dc22 pm22 an22 cd22 ct22, fun i => [C0, C1, C2].getD i 0, fun s v => .of_eq rfl, fun base hK hN => ?_⟩
  have T : Txt PySem.Challenge.pw_leastspare_k31_changes_or_one_more w K mg base (fun i => [C0, C1, C2].getD i 0) :=
    { b_abs := PySem.W.mg_none_of X G z0,
      b_bool := PySem.W.mg_none_of X G z1,
      b_dict := PySem.W.mg_none_of X G z2,
      b_int := PySem.W.mg_none_of X G z3,
      b_isinstance := PySem.W.mg_none_of X G z4,
      b_len := PySem.W.mg_none_of X G z5,
      b_list := PySem.W.mg_none_of X G z6,
      b_max := PySem.W.mg_none_of X G z7,
      b_min := PySem.W.mg_none_of X G z8,
      b_range := PySem.W.mg_none_of X G z9,
      b_repr := PySem.W.mg_none_of X G z10,
      b_sum := PySem.W.mg_none_of X G z11,
      k_MOST_COUNTED_CONTENTS := ⟨_, PySem.W.mg_of X G gc0⟩,
      k_MOST_COUNTED_RECORDS := ⟨_, PySem.W.mg_of X G gc1⟩,
      f_is_whole := ⟨_, _, PySem.W.mg_of X G a0, F0, b0⟩,
      f_is_between := ⟨_, _, PySem.W.mg_of X G a1, F1, b1⟩,
      f_choose := ⟨_, _, PySem.W.mg_of X G a2, F2, b2⟩,
      f_least_places := ⟨_, _, PySem.W.mg_of X G a3, F3, b3⟩,
      f_count_wishes := ⟨_, _, PySem.W.mg_of X G a4, F4, b4⟩,
      f_check_sizes := ⟨_, _, PySem.W.mg_of X G a5, F5, b5⟩,
      f_least_needed := ⟨_, _, PySem.W.mg_of X G a6, F6, b6⟩,
      f_enough := ⟨_, _, PySem.W.mg_of X G a7, F7, b7⟩,
      f_is_above := ⟨_, _, PySem.W.mg_of X G a8, F8, b8⟩,
      f__law_cell := ⟨_, _, PySem.W.mg_of X G a9, F9, b9⟩,
      f__law_box := ⟨_, _, PySem.W.mg_of X G a10, F10, b10⟩,
      f__law_take := ⟨_, _, PySem.W.mg_of X G a11, F11, b11⟩,
      f__law_choose := ⟨_, _, PySem.W.mg_of X G a12, F12, b12⟩,
      f__law_sizes := ⟨_, _, PySem.W.mg_of X G a13, F13, b13⟩,
      f__law_due := ⟨_, _, PySem.W.mg_of X G a14, F14, b14⟩,
      f__law_lines_lack := ⟨_, _, PySem.W.mg_of X G a15, F15, b15⟩,
      f__law_odd := ⟨_, _, PySem.W.mg_of X G a16, F16, b16⟩,
      f__law_asked := ⟨_, _, PySem.W.mg_of X G a17, F17, b17⟩,
      f__law_same := ⟨_, _, PySem.W.mg_of X G a18, F18, b18⟩,
      f__law_refused_right := ⟨_, _, PySem.W.mg_of X G a19, F19, b19⟩,
      f__law_right := ⟨_, _, PySem.W.mg_of X G a20, F20, b20⟩,
      f__law_bounds_right := ⟨_, _, PySem.W.mg_of X G a21, F21, b21⟩,
      f_law := ⟨_, _, PySem.W.mg_of X G a22, F22, b22⟩,
      e_InvalidContents := ⟨PySem.W.mg_of X G A0, o0, u0, _, _, n0, y0, ok_InvalidContents G0 o0 at0, B0⟩,
      e_InvalidRecords := ⟨PySem.W.mg_of X G A1, o1, u1, _, _, n1, y1, ok_InvalidRecords G1 o1 at1, B1⟩,
      e_InvalidChanges := ⟨PySem.W.mg_of X G A2, o2, u2, _, _, n2, y2, ok_InvalidChanges G2 o2 at2, B2⟩,
      x_InvalidChanges := ⟨ga2, gg2, e2, hd2⟩,
      x_InvalidContents := ⟨ga0, gg0, e0, hd0⟩,
      x_InvalidRecords := ⟨ga1, gg1, e1, hd1⟩,
      n_InvalidChanges_given := at2,
      n_InvalidContents_given := at0,
      n_InvalidRecords_given := at1,
      x_m := fun k hk q hq => by
        have hk' : k = 0 ∨ k = 1 ∨ k = 2 := by omega
        have hq' : q = 0 ∨ q = 1 ∨ q = 2 := by omega
        rcases hk' with rfl | rfl | rfl <;> rcases hq' with rfl | rfl | rfl <;> first | exact exm_of e0 I0 T0 s0_0 | exact exm_of e1 I1 T1 s0_1 | exact exm_of e2 I2 T2 s0_2 | exact exm_of e0 I0 T0 s1_0 | exact exm_of e1 I1 T1 s1_1 | exact exm_of e2 I2 T2 s1_2 | exact exm_of e0 I0 T0 s2_0 | exact exm_of e1 I1 T1 s2_1 | exact exm_of e2 I2 T2 s2_2 }
  obtain ⟨f, fd, h1, F, h2, M⟩ := (d_law T).ex
  have e1 := hfa.symm.trans h1
  cases e1
  have e2 := F.fd_eq F22
  subst e2
  exact M
end K31
open PySem PySem.W PyProof.Rows
set_option maxRecDepth 110000 in
set_option maxHeartbeats 0 in
theorem PySem.Challenge.cw_leastspare_k31_changes_or_one_more_holds : PySem.Challenge.rw_leastspare_k31_changes_or_one_more.Holds := by
  w_on; o_law; k_head; (case hw => w_witness2)
  k_fill
  refine Br.walk_m (l := PySem.Challenge.rw_leastspare_k31_changes_or_one_more) (n := 63) (k := 7) (x := "script") (m := K31.m_law) rfl (by decide) rfl (by decide) (fun w h Y => PySem.W.kIn_of Y) ?F K31.law_right
  case F =>
    intro w mg fa h KX G hmg
    refine' K31.all_mk KX G hmg ?a0 ?l0 ?c0 ?k0 ?a1 ?l1 ?c1 ?k1 ?a2 ?l2 ?c2 ?k2 ?a3 ?l3 ?c3 ?k3 ?a4 ?l4 ?c4 ?k4 ?a5 ?l5 ?c5 ?k5 ?a6 ?l6 ?c6 ?k6 ?a7 ?l7 ?c7 ?k7 ?a8 ?l8 ?c8 ?k8 ?a9 ?l9 ?c9 ?k9 ?a10 ?l10 ?c10 ?k10 ?a11 ?l11 ?c11 ?k11 ?a12 ?l12 ?c12 ?k12 ?a13 ?l13 ?c13 ?k13 ?a14 ?l14 ?c14 ?k14 ?a15 ?l15 ?c15 ?k15 ?a16 ?l16 ?c16 ?k16 ?a17 ?l17 ?c17 ?k17 ?a18 ?l18 ?c18 ?k18 ?a19 ?l19 ?c19 ?k19 ?a20 ?l20 ?c20 ?k20 ?a21 ?l21 ?c21 ?k21 ?a22 ?l22 ?c22 ?k22 ?z0 ?z1 ?z2 ?z3 ?z4 ?z5 ?z6 ?z7 ?z8 ?z9 ?z10 ?z11 ?gc0 ?gc1 ?A0 ?X0 ?v0 ?sa0 ?e0 ?T0 ?I0 ?K0 ?n0 ?y0 ?le0 ?ce0 ?ke0 ?ga0 ?gg0 ?hd0 ?at0 ?A1 ?X1 ?v1 ?sa1 ?e1 ?T1 ?I1 ?K1 ?n1 ?y1 ?le1 ?ce1 ?ke1 ?ga1 ?gg1 ?hd1 ?at1 ?A2 ?X2 ?v2 ?sa2 ?e2 ?T2 ?I2 ?K2 ?n2 ?y2 ?le2 ?ce2 ?ke2 ?ga2 ?gg2 ?hd2 ?at2 ?s0_0 ?s0_1 ?s0_2 ?s1_0 ?s1_1 ?s1_2 ?s2_0 ?s2_1 ?s2_2
    (case a0 => k_is)
    (case l0 => k_is)
    (case c0 => k_is)
    (case k0 => k_is)
    (case a1 => k_is)
    (case l1 => k_is)
    (case c1 => k_is)
    (case k1 => k_is)
    (case a2 => k_is)
    (case l2 => k_is)
    (case c2 => k_is)
    (case k2 => k_is)
    (case a3 => k_is)
    (case l3 => k_is)
    (case c3 => k_is)
    (case k3 => k_is)
    (case a4 => k_is)
    (case l4 => k_is)
    (case c4 => k_is)
    (case k4 => k_is)
    (case a5 => k_is)
    (case l5 => k_is)
    (case c5 => k_is)
    (case k5 => k_is)
    (case a6 => k_is)
    (case l6 => k_is)
    (case c6 => k_is)
    (case k6 => k_is)
    (case a7 => k_is)
    (case l7 => k_is)
    (case c7 => k_is)
    (case k7 => k_is)
    (case a8 => k_is)
    (case l8 => k_is)
    (case c8 => k_is)
    (case k8 => k_is)
    (case a9 => k_is)
    (case l9 => k_is)
    (case c9 => k_is)
    (case k9 => k_is)
    (case a10 => k_is)
    (case l10 => k_is)
    (case c10 => k_is)
    (case k10 => k_is)
    (case a11 => k_is)
    (case l11 => k_is)
    (case c11 => k_is)
    (case k11 => k_is)
    (case a12 => k_is)
    (case l12 => k_is)
    (case c12 => k_is)
    (case k12 => k_is)
    (case a13 => k_is)
    (case l13 => k_is)
    (case c13 => k_is)
    (case k13 => k_is)
    (case a14 => k_is)
    (case l14 => k_is)
    (case c14 => k_is)
    (case k14 => k_is)
    (case a15 => k_is)
    (case l15 => k_is)
    (case c15 => k_is)
    (case k15 => k_is)
    (case a16 => k_is)
    (case l16 => k_is)
    (case c16 => k_is)
    (case k16 => k_is)
    (case a17 => k_is)
    (case l17 => k_is)
    (case c17 => k_is)
    (case k17 => k_is)
    (case a18 => k_is)
    (case l18 => k_is)
    (case c18 => k_is)
    (case k18 => k_is)
    (case a19 => k_is)
    (case l19 => k_is)
    (case c19 => k_is)
    (case k19 => k_is)
    (case a20 => k_is)
    (case l20 => k_is)
    (case c20 => k_is)
    (case k20 => k_is)
    (case a21 => k_is)
    (case l21 => k_is)
    (case c21 => k_is)
    (case k21 => k_is)
    (case a22 => k_is)
    (case l22 => k_is)
    (case c22 => k_is)
    (case k22 => k_is)
    (case z0 => k_is)
    (case z1 => k_is)
    (case z2 => k_is)
    (case z3 => k_is)
    (case z4 => k_is)
    (case z5 => k_is)
    (case z6 => k_is)
    (case z7 => k_is)
    (case z8 => k_is)
    (case z9 => k_is)
    (case z10 => k_is)
    (case z11 => k_is)
    (case gc0 => k_is)
    (case gc1 => k_is)
    (case A0 => k_is)
    (case X0 => k_is)
    (case v0 => rfl)
    (case sa0 => k_is)
    (case e0 => k_is)
    (case T0 => k_is)
    (case I0 => k_is)
    (case K0 => k_is)
    (case n0 => k_is)
    (case y0 => k_is)
    (case le0 => k_is)
    (case ce0 => k_is)
    (case ke0 => k_is)
    (case ga0 => k_is)
    (case gg0 => k_is)
    (case hd0 => k_is)
    (case at0 => k_is)
    (case A1 => k_is)
    (case X1 => k_is)
    (case v1 => rfl)
    (case sa1 => k_is)
    (case e1 => k_is)
    (case T1 => k_is)
    (case I1 => k_is)
    (case K1 => k_is)
    (case n1 => k_is)
    (case y1 => k_is)
    (case le1 => k_is)
    (case ce1 => k_is)
    (case ke1 => k_is)
    (case ga1 => k_is)
    (case gg1 => k_is)
    (case hd1 => k_is)
    (case at1 => k_is)
    (case A2 => k_is)
    (case X2 => k_is)
    (case v2 => rfl)
    (case sa2 => k_is)
    (case e2 => k_is)
    (case T2 => k_is)
    (case I2 => k_is)
    (case K2 => k_is)
    (case n2 => k_is)
    (case y2 => k_is)
    (case le2 => k_is)
    (case ce2 => k_is)
    (case ke2 => k_is)
    (case ga2 => k_is)
    (case gg2 => k_is)
    (case hd2 => k_is)
    (case at2 => k_is)
    (case s0_0 => k_is)
    (case s0_1 => k_is)
    (case s0_2 => k_is)
    (case s1_0 => k_is)
    (case s1_1 => k_is)
    (case s1_2 => k_is)
    (case s2_0 => k_is)
    (case s2_1 => k_is)
    (case s2_2 => k_is)
