import PyProof.Rows.All
import PyProof.EqLayable
import PyProof.ReprRoads
import Wide.All
import OpenK.AllK
import Wide.FinOn
import HandS.ForExc
import HandS.ForMost
import HandS.Wide
import HandS.Style
import HandS.IsInst
import HandS.ExcInit
import HandS.ExcField
import HandS.ExcIs
import HandS.Defaults
import HandS.Flow
import KE.KExcIs
import PyProof.RowDictHeap
import PyProof.InstNe
import HandS.TupAny
import HandS.TupMul
import HandS.Deep
import HandS.NoneIn
import HandS.Conv
import HandS.Strs
import HandS.SetFor
import HandS.Comp
import HandS.Zip
import PyProof.FitsInt
import PySem.Challenge.RW_leastspare_k03_drives
set_option Elab.async false
set_option autoImplicit false
set_option linter.all false
/-! Mini: a small deterministic machine over a heap of cells. Plain Lean: no program of Python in sight. -/
namespace Mini
open PySem (Str PyData)
/-- values -/
inductive W where
  | non | bl (b : Bool) | int (i : Int) | str (s : Str) | ref (n : Nat)
  deriving DecidableEq
/-- what stands in a cell -/
inductive Cell where
  | lst (xs : List W)
  | tup (xs : List W)
  /-- a list that is read alone -/
  | fz (xs : List W)
  /-- a list that the text's top has written -/
  | cl (xs : List W)
  /-- a tuple that the text's top has written -/
  | ct (xs : List W)
  /-- a dict of texts and ints -/
  | dic (kvs : List (Sum Int Str × W))
  /-- an instance of the class with this number -/
  | ins (c : Nat) (fs : List (Str × W))
  /-- what an exception bears -/
  | xd (fs : List (Str × W))
  /-- an exception's object: of the class c, with what it bears at d -/
  | exo (c : Nat) (d : Option Nat)
abbrev MH := List Cell
/-- how a step ends -/
inductive R (α : Type) where
  | ok (a : α) (h : MH)
  | exc (c : Nat) (d : Option Nat) (h : MH)
  | bad
def R.bind {α β : Type} (r : R α) (f : α → MH → R β) : R β := match r with
  | .ok a h => f a h
  | .exc c d h => .exc c d h
  | .bad => .bad
abbrev Env := List (Option W)
abbrev E := Env → MH → R W
abbrev T := Env → MH → R Bool
abbrev A := Env → MH → R (List W)
abbrev F := List W → MH → R W
/-- how a statement ends -/
inductive Fl where
  | nx | rt (w : W) | bk | ct
inductive RS where
  | ok (f : Fl) (r : Env) (h : MH)
  | exc (c : Nat) (d : Option Nat) (r : Env) (h : MH)
  | bad
abbrev S := Env → MH → RS
/-! ### expressions -/
@[simp] def eVar (i : Nat) : E := fun r h => match r[i]? with
  | some (some w) => .ok w h
  | _ => .bad
@[simp] def eC (w : W) : E := fun _ h => .ok w h
@[simp] def eBin (g : W → W → MH → R W) (a b : E) : E := fun r h => (a r h).bind fun x h1 => (b r h1).bind fun y h2 => g x y h2
@[simp] def eUn (g : W → MH → R W) (a : E) : E := fun r h => (a r h).bind fun x h1 => g x h1
@[simp] def aNil : A := fun _ h => .ok [] h
@[simp] def aCons (e : E) (a : A) : A := fun r h => (e r h).bind fun x h1 => (a r h1).bind fun xs h2 => .ok (x :: xs) h2
def eTup (a : A) : E := fun r h => (a r h).bind fun xs h1 => if xs.length ≤ 1000 then .ok (.ref h1.length) (h1 ++ [.tup xs]) else .bad
def eLst (a : A) : E := fun r h => (a r h).bind fun xs h1 => if xs.length ≤ 1000 then .ok (.ref h1.length) (h1 ++ [.lst xs]) else .bad
def eDic0 : E := fun _ h => .ok (.ref h.length) (h ++ [.dic []])
@[simp] def eCall (f : F) (a : A) : E := fun r h => (a r h).bind f
/-- counted -/
@[simp] def aN (n : Nat) (a : A) : A := fun r h => (a r h).bind fun xs h1 => if xs.length = n then .ok xs h1 else .bad
/-- items by their places -/
def pick {α : Type} (is : List Nat) (l : List α) : List α := is.filterMap fun i => l[i]?
/-- f(a, .., k = b, ..): what stands at the places is are the parameters in order -/
@[simp] def eCallK (f : F) (is : List Nat) (a b : A) : E := fun r h => (a r h).bind fun xs h1 => (b r h1).bind fun ys h2 => f (pick is (xs ++ ys)) h2
/-- a built-in by its values -/
@[simp] def eFn (g : List W → MH → R W) (a : A) : E := fun r h => (a r h).bind g
/-! ### tests -/
/-- a value's truth -/
def tru (w : W) (h : MH) : Option Bool := match w with
  | .non => some false
  | .bl b => some b
  | .int i => some (i != 0)
  | .str s => if s.length ≤ 1000000 then some (s.length != 0) else none
  | .ref n => match h[n]? with
    | some (.lst xs) => some (!xs.isEmpty)
    | some (.fz xs) => some (!xs.isEmpty)
    | some (.cl xs) => some (!xs.isEmpty)
    | some (.tup xs) => some (!xs.isEmpty)
    | some (.ct xs) => some (!xs.isEmpty)
    | some (.dic kvs) => some (!kvs.isEmpty)
    | _ => none
@[simp] def tTru (a : E) : T := fun r h => (a r h).bind fun x h1 => match tru x h1 with
  | some b => .ok b h1
  | none => .bad
/-- a truth value -/
@[simp] def tBl (a : E) : T := fun r h => (a r h).bind fun x h1 => match x with
  | .bl b => .ok b h1
  | _ => .bad
@[simp] def tAnd (a b : T) : T := fun r h => (a r h).bind fun c h1 => if c = true then b r h1 else .ok false h1
@[simp] def tOr (a b : T) : T := fun r h => (a r h).bind fun c h1 => if c = true then .ok true h1 else b r h1
@[simp] def tNot (a : T) : T := fun r h => (a r h).bind fun c h1 => .ok (!c) h1
@[simp] def eIf (t : T) (a b : E) : E := fun r h => (t r h).bind fun c h1 => if c = true then a r h1 else b r h1
/-- and, or, not as values: truth values -/
@[simp] def eAnd (a b : E) : E := fun r h => (a r h).bind fun x h1 => match x with
  | .bl true => b r h1
  | .bl false => .ok (.bl false) h1
  | _ => .bad
@[simp] def eOr (a b : E) : E := fun r h => (a r h).bind fun x h1 => match x with
  | .bl true => .ok (.bl true) h1
  | .bl false => b r h1
  | _ => .bad
@[simp] def eNot (a : E) : E := fun r h => (a r h).bind fun x h1 => match x with
  | .bl b => .ok (.bl (!b)) h1
  | _ => .bad
/-- a OP b OP' c -/
@[simp] def eChain (g g' : W → W → MH → R W) (a b c : E) : E := fun r h => (a r h).bind fun x h1 => (b r h1).bind fun y h2 => (g x y h2).bind fun z h3 => match z with
  | .bl true => (c r h3).bind fun u h4 => g' y u h4
  | .bl false => .ok (.bl false) h3
  | _ => .bad
/-! ### operators -/
def intOp (f : Int → Int → Int) : W → W → MH → R W := fun x y h => match x, y with
  | .int i, .int j => .ok (.int (f i j)) h
  | _, _ => .bad
def intOpC (c : Int → Int → Bool) (f : Int → Int → Int) : W → W → MH → R W := fun x y h => match x, y with
  | .int i, .int j => if c i j = true then .ok (.int (f i j)) h else .bad
  | _, _ => .bad
def intCmp (f : Int → Int → Bool) : W → W → MH → R W := fun x y h => match x, y with
  | .int i, .int j => .ok (.bl (f i j)) h
  | _, _ => .bad
def two64 : Nat := 18446744073709551616
def mulOk (i j : Int) : Bool := decide (i.natAbs < two64) || decide (j.natAbs < two64) || decide (i.natAbs.log2 + j.natAbs.log2 < 1000000)
def divOk (_ j : Int) : Bool := decide (0 < j) && decide (j.natAbs.log2 < 9000)
def modOk (_ j : Int) : Bool := decide (0 < j)
def powOk (i j : Int) : Bool := decide (0 ≤ j) && decide (j ≤ 1000000) && decide (i.natAbs < two64)
def gSub := intOp fun i j => i - j
def gMul := intOpC mulOk fun i j => i * j
def gDiv := intOpC divOk fun i j => i / j
def gMod := intOpC modOk fun i j => i % j
def gPow := intOpC powOk fun i j => i ^ j.toNat
def gLt := intCmp fun i j => decide (i < j)
def gLe := intCmp fun i j => decide (i ≤ j)
def gGt := intCmp fun i j => decide (j < i)
def gGe := intCmp fun i j => decide (j ≤ i)
/-- the items of a sequence -/
def seqAt (h : MH) (n : Nat) : Option (List W) := match h[n]? with
  | some (.lst xs) => some xs
  | some (.fz xs) => some xs
  | some (.cl xs) => some xs
  | some (.tup xs) => some xs
  | some (.ct xs) => some xs
  | _ => none
/-- a + b: ints, texts, two lists of the call's own -/
def gAdd : W → W → MH → R W := fun x y h => match x, y with
  | .int i, .int j => .ok (.int (i + j)) h
  | .str s, .str t => if s.length + t.length ≤ 1000000 then .ok (.str (s ++ t)) h else .bad
  | .ref a, .ref b => match h[a]?, h[b]? with
    | some (.lst xs), some (.lst ys) => if xs.length + ys.length ≤ 10000000 then .ok (.ref h.length) (h ++ [.lst (xs ++ ys)]) else .bad
    | _, _ => .bad
  | _, _ => .bad
def gNeg : W → MH → R W := fun x h => match x with
  | .int i => .ok (.int (-i)) h
  | _ => .bad
/-- data: what a value is, to a depth -/
def dataAll (f : W → Option PyData) : List W → Option (List PyData)
  | [] => some []
  | x :: xs => match f x, dataAll f xs with
    | some u, some us => some (u :: us)
    | _, _ => none
def dataOf (h : MH) : Nat → W → Option PyData
  | 0, _ => none
  | n + 1, w => match w with
    | .non => some .none
    | .bl b => some (.bool b)
    | .int i => some (.int i)
    | .str s => some (.str s)
    | .ref a => match h[a]? with
      | some (.lst xs) => (dataAll (dataOf h n) xs).map .list
      | some (.fz xs) => (dataAll (dataOf h n) xs).map .list
      | some (.cl xs) => (dataAll (dataOf h n) xs).map .list
      | some (.tup xs) => (dataAll (dataOf h n) xs).map .tuple
      | some (.ct xs) => (dataAll (dataOf h n) xs).map .tuple
      | _ => none
def dep : Nat := 12
/-- two values that stand for themselves -/
def scl : W → W → Bool
  | .non, .non => true | .non, .int _ => true | .non, .bl _ => true | .non, .str _ => true
  | .int _, .non => true | .bl _, .non => true | .str _, .non => true
  | .int _, .int _ => true | .bl _, .bl _ => true | .str _, .str _ => true
  | .int _, .str _ => true | .bl _, .str _ => true
  | .str _, .int _ => true | .str _, .bl _ => true
  | _, _ => false
/-- == -/
def eqB (x y : W) (h : MH) : Option Bool :=
  if scl x y = true then some (decide (x = y)) else
    match dataOf h dep x, dataOf h dep y with
    | some d, some e => if PySem.SeqAt.shaped d = true ∧ PySem.SeqAt.shaped e = true then some (PyData.eqv d e) else none
    | _, _ => none
def gEq : W → W → MH → R W := fun x y h => match eqB x y h with
  | some b => .ok (.bl b) h
  | none => .bad
def gNe : W → W → MH → R W := fun x y h => match eqB x y h with
  | some b => .ok (.bl (!b)) h
  | none => .bad
def gIsN : W → W → MH → R W := fun x y h => match y with
  | .non => .ok (.bl (decide (x = .non))) h
  | _ => .bad
def gNotN : W → W → MH → R W := fun x y h => match y with
  | .non => .ok (.bl (!decide (x = .non))) h
  | _ => .bad
/-- the place of an index -/
def ixOf (n : Nat) (i : Int) : Option Nat := if 0 ≤ i then (if i < n then some i.toNat else none) else if -(n : Int) ≤ i then some (i + n).toNat else none
def gIx : W → W → MH → R W := fun x y h => match x, y with
  | .ref a, .int i => match seqAt h a with
    | some xs => match (ixOf xs.length i).bind fun j => xs[j]? with
      | some w => .ok w h
      | none => .bad
    | none => .bad
  | _, _ => .bad
/-- where a bound of a slice falls among n items; d if there is none -/
def sIx (n d : Nat) : (Option Int) → Nat
  | none => d
  | some i => if i < 0 then (i + (n : Int)).toNat else min i.toNat n
def cut (xs : List W) (lo hi : Option Int) : List W := (xs.drop (sIx xs.length 0 lo)).take (sIx xs.length xs.length hi - sIx xs.length 0 lo)
/-! ### built-in functions, by their values -/
def fLen : List W → MH → R W := fun ws h => match ws with
  | [.ref a] => match seqAt h a with
    | some xs => .ok (.int xs.length) h
    | none => .bad
  | [.str s] => if s.length ≤ 1000000 then .ok (.int s.length) h else .bad
  | _ => .bad
def fAbs : List W → MH → R W := fun ws h => match ws with
  | [.int i] => .ok (.int (if i < 0 then -i else i)) h
  | _ => .bad
def fInt : List W → MH → R W := fun ws h => match ws with
  | [.int i] => .ok (.int i) h
  | _ => .bad
def fMax2 : List W → MH → R W := fun ws h => match ws with
  | [.int i, .int j] => .ok (.int (if j > i then j else i)) h
  | _ => .bad
def fMin2 : List W → MH → R W := fun ws h => match ws with
  | [.int i, .int j] => .ok (.int (if j < i then j else i)) h
  | _ => .bad
def intsOf : List W → Option (List Int)
  | [] => some []
  | .int i :: r => (intsOf r).map (i :: ·)
  | _ :: _ => none
def fSum : List W → MH → R W := fun ws h => match ws with
  | [.ref a] => match h[a]? with
    | some (.lst xs) => match intsOf xs with
      | some ns => .ok (.int ns.sum) h
      | none => .bad
    | _ => .bad
  | _ => .bad
def fList : List W → MH → R W := fun ws h => match ws with
  | [.ref a] => match seqAt h a with
    | some xs => .ok (.ref h.length) (h ++ [.lst xs])
    | none => .bad
  | _ => .bad
/-- data, a flat dict too -/
def sclData : W → Option PyData
  | .non => some .none
  | .bl b => some (.bool b)
  | .int i => some (.int i)
  | .str s => some (.str s)
  | .ref _ => none
def keyData : Sum Int Str → PyData
  | .inl i => .int i
  | .inr s => .str s
def kvData : List (Sum Int Str × W) → Option (List (PyData × PyData))
  | [] => some []
  | p :: r => match sclData p.2, kvData r with
    | some d, some ds => some ((keyData p.1, d) :: ds)
    | _, _ => none
def dicAt (h : MH) : W → Option (List (Sum Int Str × W))
  | .ref a => match h[a]? with
    | some (.dic kvs) => some kvs
    | _ => none
  | _ => none
def dataR (h : MH) (w : W) : Option PyData := match dicAt h w with
  | some kvs => (kvData kvs).map .dict
  | none => dataOf h dep w
def fRepr : List W → MH → R W := fun ws h => match ws with
  | [w] => match dataR h w with
    | some d => if d.showable = true ∧ d.depth ≤ 64 ∧ d.shown.length ≤ 10000000 then .ok (.str d.shown) h else .bad
    | none => .bad
  | _ => .bad
/-- isinstance(x, T) for a built-in T -/
inductive Ty where
  | tInt | tBool | tStr | tList | tTuple | tDict
  deriving DecidableEq
def kindOf (w : W) (h : MH) : Option Ty := match w with
  | .non => none
  | .bl _ => some .tBool
  | .int _ => some .tInt
  | .str _ => some .tStr
  | .ref n => match h[n]? with
    | some (.lst _) => some .tList
    | some (.fz _) => some .tList
    | some (.cl _) => some .tList
    | some (.tup _) => some .tTuple
    | some (.ct _) => some .tTuple
    | some (.dic _) => some .tDict
    | _ => none
/-- what an exception bears is there -/
def xdAt (h : MH) : Option Nat → Bool
  | none => true
  | some k => match h[k]? with
    | some (.xd _) => true
    | _ => false
/-- is the kind known, and does the kind k belong to t -/
def known (w : W) (h : MH) : Bool := match w with
  | .ref n => match h[n]? with
    | some (.lst _) => true
    | some (.fz _) => true
    | some (.cl _) => true
    | some (.tup _) => true
    | some (.ct _) => true
    | some (.dic _) => true
    | some (.ins _ _) => true
    | some (.exo _ d) => xdAt h d
    | _ => false
  | _ => true
def isTy (k : Option Ty) (t : Ty) : Bool := k == some t || (k == some .tBool && t == .tInt)
def gIsi (t : Ty) : W → MH → R W := fun w h => if known w h = true then .ok (.bl (isTy (kindOf w h) t)) h else .bad
def gIsi2 (t u : Ty) : W → MH → R W := fun w h => if known w h = true then .ok (.bl (isTy (kindOf w h) t || isTy (kindOf w h) u)) h else .bad
/-! ### statements -/
def sNx : S := fun r h => .ok .nx r h
def sSeq (a b : S) : S := fun r h => match a r h with
  | .ok .nx r1 h1 => b r1 h1
  | x => x
def sExpr (e : E) : S := fun r h => match e r h with
  | .ok _ h1 => .ok .nx r h1
  | .exc c d h1 => .exc c d r h1
  | .bad => .bad
def sRet (e : E) : S := fun r h => match e r h with
  | .ok w h1 => .ok (.rt w) r h1
  | .exc c d h1 => .exc c d r h1
  | .bad => .bad
def sBrk : S := fun r h => .ok .bk r h
def sCnt : S := fun r h => .ok .ct r h
def sIf (t : T) (a b : S) : S := fun r h => match t r h with
  | .ok c h1 => if c = true then a r h1 else b r h1
  | .exc c d h1 => .exc c d r h1
  | .bad => .bad
/-- targets -/
abbrev G := W → Env → MH → R Env
@[simp] def gSet (i : Nat) : G := fun w r h => .ok (r.set i (some w)) h
@[simp] def gAll : List G → List W → Env → MH → R Env
  | [], [], r, h => .ok r h
  | g :: gs, w :: ws, r, h => (g w r h).bind fun r1 h1 => gAll gs ws r1 h1
  | _, _, _, _ => .bad
/-- a, b, .. = (a tuple) -/
def gTupT (gs : List G) : G := fun w r h => match w with
  | .ref n => match h[n]? with
    | some (.tup xs) => gAll gs xs r h
    | some (.ct xs) => gAll gs xs r h
    | _ => .bad
  | _ => .bad
/-- o[i] = w, o a list -/
def putL (w : W) (r : Env) : W → W → MH → R Env := fun x y h => match x, y with
  | .ref a, .int k => match h[a]? with
    | some (.lst xs) => match ixOf xs.length k with
      | some j => .ok r (h.set a (.lst (xs.set j w)))
      | none => .bad
    | _ => .bad
  | _, _ => .bad
def gSubL (o i : E) : G := fun w r h => (o r h).bind fun x h1 => (i r h1).bind fun y h2 => putL w r x y h2
def sAsg (e : E) (g : G) : S := fun r h => match e r h with
  | .ok w h1 => match g w r h1 with
    | .ok r1 h2 => .ok .nx r1 h2
    | _ => .bad
  | .exc c d h1 => .exc c d r h1
  | .bad => .bad
def sSet (i : Nat) (e : E) : S := sAsg e (gSet i)
/-- a, b = e1, e2 and a, b, c = e1, e2, e3, without a tuple -/
@[simp] def setAll : List Nat → List W → Env → Option Env
  | [], [], r => some r
  | i :: is, w :: ws, r => setAll is ws (r.set i (some w))
  | _, _, _ => none
def sPar (is : List Nat) (a : A) : S := fun r h => match a r h with
  | .ok ws h1 => match setAll is ws r with
    | some r1 => .ok .nx r1 h1
    | none => .bad
  | .exc c d h1 => .exc c d r h1
  | .bad => .bad
/-- x op= e -/
def sAug (i : Nat) (g : W → W → MH → R W) (e : E) : S := fun r h => match r[i]? with
  | some (some x) => match e r h with
    | .ok y h1 => match g x y h1 with
      | .ok z h2 => .ok .nx (r.set i (some z)) h2
      | _ => .bad
    | .exc c d h1 => .exc c d r h1
    | .bad => .bad
  | _ => .bad
/-- two targets: a = b = e -/
def sAsg2 (e : E) (i j : Nat) : S := fun r h => match e r h with
  | .ok w h1 => .ok .nx ((r.set i (some w)).set j (some w)) h1
  | .exc c d h1 => .exc c d r h1
  | .bad => .bad
def sWhile (t : T) (b : S) : Nat → S
  | 0 => fun _ _ => .bad
  | n + 1 => fun r h => match t r h with
    | .ok true h1 => match b r h1 with
      | .ok .nx r2 h2 => sWhile t b n r2 h2
      | .ok .ct r2 h2 => sWhile t b n r2 h2
      | .ok .bk r2 h2 => .ok .nx r2 h2
      | x => x
    | .ok false h1 => .ok .nx r h1
    | .exc c d h1 => .exc c d r h1
    | .bad => .bad
/-- what a for walks: from a list or tuple, from a range -/
inductive Src where
  | lst (a : Nat)
  | tup (a : Nat)
  | rng (lo : Int) (n : Nat)
def lstAt (h : MH) (n : Nat) : Option (List W) := match h[n]? with
  | some (.lst xs) => some xs
  | some (.fz xs) => some xs
  | some (.cl xs) => some xs
  | _ => none
def tupAt (h : MH) (n : Nat) : Option (List W) := match h[n]? with
  | some (.tup xs) => some xs
  | some (.ct xs) => some xs
  | _ => none
/-- the item of a turn: bad, the end, an item -/
def Src.at : Src → Nat → MH → Option (Option W)
  | .lst a, i, h => (lstAt h a).map fun xs => xs[i]?
  | .tup a, i, h => (tupAt h a).map fun xs => xs[i]?
  | .rng lo n, i, _ => some (if i < n then some (.int (lo + i)) else none)
def sTurns (src : Src) (g : G) (b : S) : Nat → Nat → S
  | 0, _ => fun _ _ => .bad
  | k + 1, i => fun r h => match src.at i h with
    | none => .bad
    | some none => .ok .nx r h
    | some (some w) => match g w r h with
      | .ok r1 h1 => match b r1 h1 with
        | .ok .nx r2 h2 => sTurns src g b k (i + 1) r2 h2
        | .ok .ct r2 h2 => sTurns src g b k (i + 1) r2 h2
        | .ok .bk r2 h2 => .ok .nx r2 h2
        | x => x
      | _ => .bad
/-- what is walked, and how many turns there are at most -/
abbrev I := Env → MH → R (Src × Nat)
def iSeq (e : E) : I := fun r h => (e r h).bind fun w h1 => match w with
  | .ref a => match lstAt h1 a with
    | some xs => .ok (.lst a, xs.length + 1) h1
    | none => match tupAt h1 a with
      | some xs => .ok (.tup a, xs.length + 1) h1
      | none => .bad
  | _ => .bad
def rOk (i : Int) : Bool := decide (-4611686018427387904 ≤ i) && decide (i < 4611686018427387904)
def iRng1 (e : E) : I := fun r h => (e r h).bind fun w h1 => match w with
  | .int n => if rOk n = true then .ok (.rng 0 n.toNat, n.toNat + 1) h1 else .bad
  | _ => .bad
def iRng2 (a b : E) : I := fun r h => (a r h).bind fun x h1 => (b r h1).bind fun y h2 => match x, y with
  | .int i, .int j => if rOk i = true ∧ rOk j = true then .ok (.rng i (j - i).toNat, (j - i).toNat + 1) h2 else .bad
  | _, _ => .bad
def sFor (it : I) (g : G) (b : S) : S := fun r h => match it r h with
  | .ok (src, k) h1 => sTurns src g b k 0 r h1
  | .exc c d h1 => .exc c d r h1
  | .bad => .bad
/-- the list comprehension with one for -/
def wipe (r : Env) : List Nat → Env
  | [] => r
  | i :: is => (wipe r is).set i none
/-- an item onto the list that is made, and on -/
def lcAdd (D : Nat) (x : W) (k : MH → R W) : MH → R W := fun h => match h[D]? with
  | some (.lst acc) => if acc.length < 10000000 then k (h.set D (.lst (acc ++ [x]))) else .bad
  | _ => .bad
def lcTurns (src : Src) (g : G) (t : T) (e : E) (r : Env) (D : Nat) : Nat → Nat → MH → R W
  | 0, _, _ => .bad
  | k + 1, i, h => match src.at i h with
    | none => .bad
    | some none => .ok (.ref D) h
    | some (some w) => match g w r h with
      | .ok r1 h1 => (t r1 h1).bind fun c h2 => if c = true then (e r1 h2).bind fun x h3 => lcAdd D x (lcTurns src g t e r D k (i + 1)) h3
        else lcTurns src g t e r D k (i + 1) h2
      | _ => .bad
/-- no exception leaves it -/
def R.quiet {α : Type} : R α → R α
  | .exc _ _ _ => .bad
  | x => x
def eLc (vs : List Nat) (it : I) (g : G) (t : T) (e : E) : E := fun r h => (it r h).bind fun q h1 => (lcTurns q.1 g t e (wipe r vs) h1.length q.2 0 (h1 ++ [.lst []])).quiet
@[simp] def tYes : T := fun _ h => .ok true h
/-- o.append(e) -/
def app (x y : W) : MH → R W := fun h => match x with
  | .ref a => match h[a]? with
    | some (.lst xs) => if xs.length < 10000000 then .ok .non (h.set a (.lst (xs ++ [y]))) else .bad
    | _ => .bad
  | _ => .bad
/-- is x a list here -/
def isLst (x : W) (h : MH) : Bool := match x with
  | .ref a => match h[a]? with
    | some (.lst _) => true
    | _ => false
  | _ => false
def eApp (o e : E) : E := fun r h => (o r h).bind fun x h1 => if isLst x h1 = true then (e r h1).bind fun y h2 => app x y h2 else .bad
/-- xs[a:b] -/
@[simp] def oNo : Env → MH → R (Option Int) := fun _ h => .ok none h
@[simp] def intSome : W → MH → R (Option Int) := fun w h => match w with
  | .int i => .ok (some i) h
  | _ => .bad
@[simp] def oSo (e : E) : Env → MH → R (Option Int) := fun r h => (e r h).bind intSome
/-- a new list; a new tuple, where it is not the whole one -/
def slice (w : W) (l u : Option Int) : MH → R W := fun h => match w with
  | .ref a => match h[a]? with
    | some (.lst xs) => .ok (.ref h.length) (h ++ [.lst (cut xs l u)])
    | some (.fz xs) => .ok (.ref h.length) (h ++ [.lst (cut xs l u)])
    | some (.cl xs) => .ok (.ref h.length) (h ++ [.lst (cut xs l u)])
    | some (.tup xs) => if sIx xs.length 0 l = 0 ∧ sIx xs.length xs.length u = xs.length then .bad else .ok (.ref h.length) (h ++ [.tup (cut xs l u)])
    | some (.ct xs) => if sIx xs.length 0 l = 0 ∧ sIx xs.length xs.length u = xs.length then .bad else .ok (.ref h.length) (h ++ [.tup (cut xs l u)])
    | _ => .bad
  | _ => .bad
def eSl (e : E) (lo hi : Env → MH → R (Option Int)) : E := fun r h => (e r h).bind fun w h1 => (lo r h1).bind fun l h2 => (hi r h2).bind fun u h3 => slice w l u h3
/-- d[k] = v, k an int or a text -/
def putD (kvs : List (Sum Int Str × W)) (k : Sum Int Str) (w : W) : List (Sum Int Str × W) :=
  if (kvs.any fun kv => decide (kv.1 = k)) = true then kvs.map (fun kv => if kv.1 = k then (kv.1, w) else kv) else kvs ++ [(k, w)]
def keyOf : W → Option (Sum Int Str)
  | .int i => some (.inl i)
  | .str s => some (.inr s)
  | _ => none
def dput (w d k : W) : MH → R Unit := fun h => match d with
  | .ref a => match h[a]? with
    | some (.dic kvs) => match keyOf k with
      | some q => if kvs.length < 1000000 then .ok () (h.set a (.dic (putD kvs q w))) else .bad
      | none => .bad
    | _ => .bad
  | _ => .bad
def sDput (d k e : E) : S := fun r h => match (e r h).bind fun w h1 => (d r h1).bind fun x h2 => (k r h2).bind fun y h3 => dput w x y h3 with
  | .ok _ h1 => .ok .nx r h1
  | .exc c d h1 => .exc c d r h1
  | .bad => .bad
/-- raise C(e): C's __init__ keeps its argument under f -/
def sRaise (c : Nat) (f : Str) (e : E) : S := fun r h => match e r h with
  | .ok w h1 => .exc c (some h1.length) r (h1 ++ [.xd [(f, w)]])
  | .exc c d h1 => .exc c d r h1
  | .bad => .bad
/-- the attribute of an exception, of a class that ok tells -/
def xfOf (ok : Nat → Bool) (f : Str) : W → MH → R W := fun x h => match x with
  | .ref a => match h[a]? with
    | some (.exo c (some d)) => match h[d]? with
      | some (.xd fs) => match fs.lookup f with
        | some w => if ok c = true then .ok w h else .bad
        | none => .bad
      | _ => .bad
    | _ => .bad
  | _ => .bad
def eXfl (ok : Nat → Bool) (f : Str) (o : E) : E := fun r h => (o r h).bind (xfOf ok f)
/-- C(e), an exception's object that is not raised -/
def eErr (c : Nat) (f : Str) (e : E) : E := fun r h => (e r h).bind fun w h1 => .ok (.ref (h1.length + 1)) (h1 ++ [.xd [(f, w)], .exo c (some h1.length)])
/-- except clauses: which classes they take, the slot of their name, what their suite does with what the exception bears -/
structure Hd where
  m : Nat → Bool
  i : Option Nat
  s : S
@[simp] def noSlot (i : Option Nat) (r : Env) : Env := match i with
  | some i => r.set i none
  | none => r
@[simp] def onSlot (i : Option Nat) (n : Nat) (r : Env) : Env := match i with
  | some i => r.set i (some (.ref n))
  | none => r
def hEnd (i : Option Nat) : RS → RS
  | .ok f r h => .ok f (noSlot i r) h
  | _ => .bad
@[simp] def hRun (n c : Nat) (d : Option Nat) : List Hd → S
  | [] => fun r h => .exc c d r h
  | k :: ks => fun r h => if c < n then (if k.m c = true then hEnd k.i (k.s (onSlot k.i h.length r) (h ++ [.exo c d])) else hRun n c d ks r h) else .bad
/-- n classes of errors, len slots -/
def sTry (n len : Nat) (b : S) (hs : List Hd) : S := fun r h => match b r h with
  | .exc c d r1 h1 => if r1.length = len then hRun n c d hs r1 h1 else .bad
  | x => x
/-! ### defs -/
@[simp] def begin_ (n : Nat) (ws : List W) : Env := ws.map some ++ List.replicate (n - ws.length) none
def fnOf (n p : Nat) (b : S) : F := fun ws h => if ws.length = p then match b (begin_ n ws) h with
    | .ok (.rt w) _ h1 => .ok w h1
    | .ok .nx _ h1 => .ok .non h1
    | .exc c d _ h1 => .exc c d h1
    | _ => .bad
  else .bad
end Mini
set_option Elab.async false
set_option autoImplicit false
set_option linter.all false
/-! Mini, instances of own classes. -/
namespace Mini
open PySem (Str PyData)
/-- o.f of an instance of a class that ok tells -/
def fldOf (ok : Nat → Bool) (f : Str) : W → MH → R W := fun x h => match x with
  | .ref a => match h[a]? with
    | some (.ins c fs) => match fs.lookup f with
      | some w => if ok c = true then .ok w h else .bad
      | none => .bad
    | _ => .bad
  | _ => .bad
def eFld (ok : Nat → Bool) (f : Str) (o : E) : E := fun r h => (o r h).bind (fldOf ok f)
def putFs (f : Str) (w : W) : List (Str × W) → List (Str × W)
  | [] => [(f, w)]
  | (g, x) :: r => if g = f then (g, w) :: r else (g, x) :: putFs f w r
def fldPut (ok : Nat → Bool) (f : Str) (w : W) : W → MH → R Unit := fun x h => match x with
  | .ref a => match h[a]? with
    | some (.ins c fs) => if ok c = true ∧ fs.length < 1000 then .ok () (h.set a (.ins c (putFs f w fs))) else .bad
    | _ => .bad
  | _ => .bad
/-- o.f = e -/
def sFldSet (ok : Nat → Bool) (f : Str) (o e : E) : S := fun r h => match (e r h).bind fun w h1 => (o r h1).bind fun x h2 => fldPut ok f w x h2 with
  | .ok _ h1 => .ok .nx r h1
  | .exc c d h1 => .exc c d r h1
  | .bad => .bad
/-- C(..): a new instance, then __init__ -/
def newIns (c : Nat) (f : F) (ws : List W) : MH → R W := fun h => (f (.ref h.length :: ws) (h ++ [.ins c []])).bind fun u h2 => match u with
  | .non => .ok (.ref h.length) h2
  | _ => .bad
def eMake (c : Nat) (f : F) (a : A) : E := fun r h => (a r h).bind fun ws h1 => newIns c f ws h1
def eMakeK (c : Nat) (f : F) (is : List Nat) (b : A) : E := fun r h => (b r h).bind fun ws h1 => newIns c f (pick is ws) h1
def insOf (w : W) (h : MH) : Option Nat := match w with
  | .ref n => match h[n]? with
    | some (.ins c _) => some c
    | _ => none
  | _ => none
/-- the class of an exception's object -/
def excOf (w : W) (h : MH) : Option Nat := match w with
  | .ref n => match h[n]? with
    | some (.exo c _) => some c
    | _ => none
  | _ => none
def clsOf (w : W) (h : MH) : Option Nat := match w with
  | .ref n => match h[n]? with
    | some (.ins c _) => some c
    | some (.exo c _) => some c
    | _ => none
  | _ => none
/-- isinstance(x, C), C an own class -/
def gIsiC (c : Nat) : W → MH → R W := fun w h => if known w h = true then .ok (.bl (clsOf w h == some c)) h else .bad
end Mini
namespace Mini
/-- x == y: an instance's own __eq__ -/
def eqO (me : Nat → Option F) : W → W → MH → R W := fun x y h => match insOf x h with
  | none => gEq x y h
  | some c => match me c with
    | some f => if known y h = true then (f [x, y] h).quiet.bind fun w h1 => (match w with
        | .bl b => .ok (.bl b) h1
        | _ => .bad)
      else .bad
    | none => .bad
/-- x != y: by an instance's own __eq__ -/
def neO (me : Nat → Option F) : W → W → MH → R W := fun x y h => match insOf x h with
  | none => gNe x y h
  | some c => match me c with
    | some f => if insOf y h = some c then (f [x, y] h).quiet.bind fun w h1 => (match w with
        | .bl b => .ok (.bl (!b)) h1
        | _ => .bad)
      else .bad
    | none => .bad
end Mini
namespace Mini
open PySem (Str PyData)
/-! ### more built-ins and operators -/
def tupOf (h : MH) : W → Option (List W)
  | .ref a => tupAt h a
  | _ => none
/-- tuple(x) -/
def fTuple : List W → MH → R W := fun ws h => match ws with
  | [.ref a] => match lstAt h a with
    | some xs => .ok (.ref h.length) (h ++ [.tup xs])
    | none => match tupAt h a with
      | some _ => .ok (.ref a) h
      | none => .bad
  | _ => .bad
def boolsOf : List W → Option (List Bool)
  | [] => some []
  | .bl b :: r => (boolsOf r).map (b :: ·)
  | _ :: _ => none
/-- all(a list of truth values) -/
def fAll : List W → MH → R W := fun ws h => match ws with
  | [.ref a] => match (lstAt h a).bind boolsOf with
    | some bs => .ok (.bl (bs.all id)) h
    | none => .bad
  | _ => .bad
/-- xs[::-1], a list -/
def revL : W → MH → R W := fun x h => match x with
  | .ref a => match lstAt h a with
    | some xs => .ok (.ref h.length) (h ++ [.lst xs.reverse])
    | none => .bad
  | _ => .bad
def eRev (e : E) : E := fun r h => (e r h).bind revL
/-- +, of tuples too -/
def gAddX : W → W → MH → R W := fun x y h => match tupOf h x, tupOf h y with
  | some xs, some ys => if xs.length + ys.length ≤ 10000000 then (if xs = [] then .ok y h else if ys = [] then .ok x h else .ok (.ref h.length) (h ++ [.tup (xs ++ ys)])) else .bad
  | _, _ => gAdd x y h
/-- x in a list or tuple of data -/
def gIn : W → W → MH → R W := fun x y h => match dataOf h dep x, dataOf h dep y with
  | some d, some (.list ds) => if PySem.SeqAt.shaped d = true ∧ PySem.SeqAt.shaped (.list ds) = true then .ok (.bl (ds.any fun z => PyData.eqv z d)) h else .bad
  | _, _ => .bad
def gNotIn : W → W → MH → R W := fun x y h => match dataOf h dep x, dataOf h dep y with
  | some d, some (.list ds) => if PySem.SeqAt.shaped d = true ∧ PySem.SeqAt.shaped (.list ds) = true then .ok (.bl (!ds.any fun z => PyData.eqv z d)) h else .bad
  | _, _ => .bad
end Mini
namespace Mini
/-! ### methods of lists -/
def eMet0 (g : W → MH → R W) (o : E) : E := fun r h => (o r h).bind fun x h1 => if isLst x h1 = true then g x h1 else .bad
def eMet1 (g : W → W → MH → R W) (o e : E) : E := fun r h => (o r h).bind fun x h1 => if isLst x h1 = true then (e r h1).bind fun y h2 => g x y h2 else .bad
def lstM (h : MH) : W → Option (Nat × List W)
  | .ref a => match h[a]? with
    | some (.lst xs) => some (a, xs)
    | _ => none
  | _ => none
/-- xs.extend(ys), both lists of the call's own -/
def gExt : W → W → MH → R W := fun x y h => match lstM h x, lstM h y with
  | some (a, xs), some (_, ys) => if xs.length + ys.length ≤ 10000000 then .ok .non (h.set a (.lst (xs ++ ys))) else .bad
  | _, _ => .bad
/-- xs.pop() -/
def gPop : W → MH → R W := fun x h => match lstM h x with
  | some (a, xs) => match xs[xs.length - 1]? with
    | some y => .ok y (h.set a (.lst xs.dropLast))
    | none => .bad
  | none => .bad
/-- xs.pop(i), 0 ≤ i -/
def gPopAt : W → W → MH → R W := fun x y h => match lstM h x, y with
  | some (a, xs), .int i => if 0 ≤ i ∧ i < 9223372036854775808 then (match xs[i.toNat]? with
      | some w => .ok w (h.set a (.lst (xs.eraseIdx i.toNat)))
      | none => .bad) else .bad
  | _, _ => .bad
/-- xs.reverse() -/
def gRevM : W → MH → R W := fun x h => match lstM h x with
  | some (a, xs) => .ok .non (h.set a (.lst xs.reverse))
  | none => .bad
end Mini
namespace Mini
/-- *, of a tuple by a number too -/
def gMulX : W → W → MH → R W := fun x y h => match tupOf h x, y with
  | some xs, .int k => if xs = [] then .bad else if k = 1 then .ok x h else if k = 0 then .ok (.ref h.length) (h ++ [.tup []])
    else if 2 ≤ k ∧ k ≤ 1000 ∧ xs.length ≤ 1000 then .ok (.ref h.length) (h ++ [.tup (List.replicate k.toNat xs).flatten]) else .bad
  | _, _ => gMul x y h
end Mini
namespace Mini
/-- x is None, x is True, x is False of a truth value -/
def gIs : W → W → MH → R W := fun x y h => match x, y with
  | .bl b, .bl c => .ok (.bl (decide (b = c))) h
  | x, y => gIsN x y h
def gIsNot : W → W → MH → R W := fun x y h => match x, y with
  | .bl b, .bl c => .ok (.bl (!decide (b = c))) h
  | x, y => gNotN x y h
end Mini
namespace Mini
open PySem (Str PyData)
/-- str(i) -/
def fStr : List W → MH → R W := fun ws h => match ws with
  | [.int i] => if i.natAbs.log2 < 1920 then .ok (.str (Str.ofString (toString i))) h else .bad
  | _ => .bad
end Mini
namespace Mini
/-- two rows of numbers, by the first that differ -/
def rowLt : List Int → List Int → Bool
  | [], [] => false
  | [], _ :: _ => true
  | _ :: _, [] => false
  | a :: l, b :: m => if a = b then rowLt l m else decide (a < b)
/-- <, of tuples of ints too -/
def gLtX : W → W → MH → R W := fun x y h => match (tupOf h x).bind intsOf, (tupOf h y).bind intsOf with
  | some ns, some ms => .ok (.bl (rowLt ns ms)) h
  | _, _ => gLt x y h
end Mini
namespace Mini
/-- a, b, .. = (a tuple or a list) -/
def gSeqT (gs : List G) : G := fun w r h => match w with
  | .ref n => match seqAt h n with
    | some xs => gAll gs xs r h
    | none => .bad
  | _ => .bad
end Mini
set_option linter.all false
set_option autoImplicit false
set_option Elab.async false
namespace Mini
/-! ### calls with positions, keywords and defaults; own methods -/
/-- n values by position, m by keyword -/
def eArgs (n m : Nat) (ms mk : A) (g : List W → List W → MH → R W) : E := fun r h =>
  (ms r h).bind fun xs h1 => (mk r h1).bind fun ys h2 => if xs.length = n ∧ ys.length = m then g xs ys h2 else .bad
/-- f(e, .., k = e, ..): is tells each parameter's place among the positions, the keywords and the defaults dws -/
def eCallN (mf : F) (is : List Nat) (dws : List W) (n m : Nat) (ms mk : A) : E := eArgs n m ms mk fun xs ys h => mf (pick is (xs ++ ys ++ dws)) h
def eMakeN (ci : Nat) (mf : F) (is : List Nat) (dws : List W) (n m : Nat) (ms mk : A) : E := eArgs n m ms mk fun xs ys h => newIns ci mf (pick is (xs ++ ys ++ dws)) h
/-- u is an instance of ci that has no field nm -/
def hasM (ci : Nat) (nm : PySem.Str) (u : W) (h : MH) : Bool := match u with
  | .ref a => match h[a]? with
    | some (.ins c fs) => decide (c = ci) && (fs.lookup nm).isNone
    | _ => false
  | _ => false
def eMethN (ci : Nat) (nm : PySem.Str) (mf : F) (is : List Nat) (dws : List W) (n m : Nat) (mo : E) (ms mk : A) : E := fun r h =>
  (mo r h).bind fun u h0 => if hasM ci nm u h0 = true then eArgs n m ms mk (fun xs ys h => mf (u :: pick is (xs ++ ys ++ dws)) h) r h0 else .bad
/-! ### list(range(n)), sorted(set(xs)) -/
def eLRng (e : E) : E := fun r h => (e r h).bind fun w h1 => match w with
  | .int n => if 0 ≤ n ∧ n ≤ 100000 then .ok (.ref h1.length) (h1 ++ [.lst ((List.range n.toNat).map fun i => W.int (i : Nat))]) else .bad
  | _ => .bad
/-- x put in an ascending list, once -/
def insU (x : Int) : List Int → List Int
  | [] => [x]
  | y :: ys => if x < y then x :: y :: ys else if x = y then y :: ys else y :: insU x ys
/-- ascending, each once -/
def sortU : List Int → List Int
  | [] => []
  | x :: xs => insU x (sortU xs)
def fSortU : List W → MH → R W := fun ws h => match ws with
  | [.ref a] => match (lstAt h a).bind intsOf with
    | some ns => if ns.length < 64 then .ok (.ref h.length) (h ++ [.lst ((sortU ns).map W.int)]) else .bad
    | none => .bad
  | _ => .bad
/-! ### comprehensions with two fors -/
/-- the turns of the second for; nx what comes behind them -/
def lcInner (src : Src) (g : G) (t : T) (e : E) (r : Env) (D : Nat) (nx : MH → R W) : Nat → Nat → MH → R W
  | 0, _, _ => .bad
  | k + 1, j, h => match src.at j h with
    | none => .bad
    | some none => nx h
    | some (some w) => match g w r h with
      | .ok r1 h1 => (t r1 h1).bind fun c h2 => if c = true then (e r1 h2).bind fun x h3 => lcAdd D x (lcInner src g t e r D nx k (j + 1)) h3
        else lcInner src g t e r D nx k (j + 1) h2
      | _ => .bad
def lcOuter (src : Src) (g : G) (t : T) (it : I) (g2 : G) (t2 : T) (e : E) (us : List Nat) (r : Env) (D : Nat) : Nat → Nat → MH → R W
  | 0, _, _ => .bad
  | k + 1, i, h => match src.at i h with
    | none => .bad
    | some none => .ok (.ref D) h
    | some (some w) => match g w r h with
      | .ok r1 h1 => (t r1 h1).bind fun c h2 => if c = true then (it r1 h2).bind fun q h3 => lcInner q.1 g2 t2 e (wipe r1 us) D (lcOuter src g t it g2 t2 e us r D k (i + 1)) q.2 0 h3
        else lcOuter src g t it g2 t2 e us r D k (i + 1) h2
      | _ => .bad
def eLc2 (vs us : List Nat) (it : I) (g : G) (t : T) (it2 : I) (g2 : G) (t2 : T) (e : E) : E := fun r h => (it r h).bind fun q h1 => (lcOuter q.1 g t it2 g2 t2 e us (wipe r vs) h1.length q.2 0 (h1 ++ [.lst []])).quiet
/-! ### sources that yield several values a turn: zip -/
abbrev Src2 := Nat → MH → Option (Option (List W))
abbrev I2 := Env → MH → R (Src2 × Nat)
/-- the items of a list (true) or of a tuple (false) -/
def seqK (kd : Bool) (h : MH) (a : Nat) : Option (List W) := match kd with
  | true => lstAt h a
  | false => tupAt h a
def kdAt (h : MH) (a : Nat) : Bool := (lstAt h a).isSome
def both : Option W → Option W → Option (List W)
  | some x, some y => some [x, y]
  | _, _ => none
def zipAt (ka kb : Bool) (a b : Nat) : Src2 := fun i h => match seqK ka h a, seqK kb h b with
  | some xs, some ys => some (both xs[i]? ys[i]?)
  | _, _ => none
def zipOf (x y : W) : MH → R (Src2 × Nat) := fun h => match x, y with
  | .ref a, .ref b => match seqK (kdAt h a) h a, seqK (kdAt h b) h b with
    | some xs, some _ => .ok (zipAt (kdAt h a) (kdAt h b) a b, xs.length + 1) h
    | _, _ => .bad
  | _, _ => .bad
def iZip (ea eb : E) : I2 := fun r h => (ea r h).bind fun x h1 => (eb r h1).bind fun y h2 => zipOf x y h2
def lcRows (src : Src2) (gs : List G) (t : T) (e : E) (r : Env) (D : Nat) : Nat → Nat → MH → R W
  | 0, _, _ => .bad
  | k + 1, i, h => match src i h with
    | none => .bad
    | some none => .ok (.ref D) h
    | some (some ws) => match gAll gs ws r h with
      | .ok r1 h1 => (t r1 h1).bind fun c h2 => if c = true then (e r1 h2).bind fun x h3 => lcAdd D x (lcRows src gs t e r D k (i + 1)) h3
        else lcRows src gs t e r D k (i + 1) h2
      | _ => .bad
def eLcR (vs : List Nat) (it : I2) (gs : List G) (t : T) (e : E) : E := fun r h => (it r h).bind fun q h1 => (lcRows q.1 gs t e (wipe r vs) h1.length q.2 0 (h1 ++ [.lst []])).quiet
def sRows (src : Src2) (gs : List G) (b : S) : Nat → Nat → S
  | 0, _ => fun _ _ => .bad
  | k + 1, i => fun r h => match src i h with
    | none => .bad
    | some none => .ok .nx r h
    | some (some ws) => match gAll gs ws r h with
      | .ok r1 h1 => match b r1 h1 with
        | .ok .nx r2 h2 => sRows src gs b k (i + 1) r2 h2
        | .ok .ct r2 h2 => sRows src gs b k (i + 1) r2 h2
        | .ok .bk r2 h2 => .ok .nx r2 h2
        | x => x
      | _ => .bad
def sForR (it : I2) (gs : List G) (b : S) : S := fun r h => match it r h with
  | .ok (src, k) h1 => sRows src gs b k 0 r h1
  | .exc c d h1 => .exc c d r h1
  | .bad => .bad
end Mini
set_option Elab.async false
set_option autoImplicit false
set_option linter.all false
set_option maxRecDepth 100000
set_option maxHeartbeats 1100000
/-! Bridge: what the machine of Mini does is what the program does. -/
namespace Br
open PySem PySem.Spec PyProof.Rows L2 Mini
/-- a value of Mini, its cells at the addresses ph -/
def vW (ph : Nat → Addr) : Mini.W → V
  | .non => .non
  | .bl b => .bl b
  | .int i => .int i
  | .str s => .str s
  | .ref n => .ref (ph n)
/-- its cell stands below n -/
def wf (n : Nat) : Mini.W → Prop
  | .ref k => k < n
  | _ => True
def fsV (ph : Nat → Addr) (fs : List (Str × Mini.W)) : List (Str × V) := fs.map fun p => (p.1, vW ph p.2)
def kvV (ph : Nat → Addr) (kvs : List (Sum Int Str × Mini.W)) : List (Key × V) := kvs.map fun p => (p.1, vW ph p.2)
/-- is it tracked by the abstract heap -/
def trk : Cell → Prop
  | .ct _ => False
  | .cl _ => False
  | _ => True
/-! built-in kinds by name -/
def tyName : Mini.Ty → String
  | .tInt => "int" | .tBool => "bool" | .tStr => "str" | .tList => "list" | .tTuple => "tuple" | .tDict => "dict"
/-- an own class, as isinstance and attribute reads ask of it -/
structure ClsX (K : PySem.W.Frag) (C : Addr) : Prop where
  cl : Cls K C
  ha : (PySem.W.findIn K (.ref C) "__class__" = some (some (.builtin "object.__class__")))
  hn : (PySem.W.specialIn K (.builtin "object.__class__") "__get__" = some (some (.builtin "getset_descriptor.__get__")))
  htk : (PySem.W.takesIn K (.builtin "object.__class__") = some true)
  hm : (PySem.W.mroIn K C (.type "object") = some true)
  sub : ∀ t : Mini.Ty, PySem.W.subIn K (.ref C) (.type (tyName t)) = some false
/-- an own exception's class, as isinstance and attribute reads ask of it -/
structure ExcX (K : PySem.W.Frag) (C : Addr) : Prop where
  ec : ExcC K C
  xf : XfC K C
  sub : ∀ t : Mini.Ty, PySem.W.subIn K (.ref C) (.type (tyName t)) = some false
/-- an exception's object, of the class cls, its own dict at d -/
def ExQ (cls : Value) (d : Option Addr) (a : Addr) : HO := .ext fun h => ∃ oe, h.get? a = some oe ∧ Zc cls d oe ∧ ∃ vs, oe.data = .fields vs
section
variable (K : PySem.W.Frag) (Ga : Nat → Addr)
/-- the cell c, in a heap of n cells, stands at a -/
def CellAt (ph : Nat → Addr) (n : Nat) (H : Hp) (a : Addr) : Cell → Prop
  | .lst xs => H a = some (.lst (xs.map (vW ph))) ∧ ∀ x ∈ xs, wf n x
  | .tup xs => H a = some (.tup (xs.map (vW ph))) ∧ ∀ x ∈ xs, wf n x
  | .fz xs => (∃ o, H a = some (.frz o (.lst (xs.map (vW ph))))) ∧ ∀ x ∈ xs, wf n x
  | .ct xs => (∃ (o : Obj) (its : Array Value) (m : Nat), K.lookup a = some o ∧ o.cls = .type "tuple" ∧ o.data = .seq its m ∧ its.size ≤ sizeLine ∧ Vals (xs.map (vW ph)) its.toList) ∧ ∀ x ∈ xs, wf n x
  | .cl xs => (∃ (o : Obj) (its : Array Value) (m : Nat), K.lookup a = some o ∧ o.cls = .type "list" ∧ o.dict = none ∧ o.data = .seq its m ∧ its.size ≤ sizeLine ∧ Vals (xs.map (vW ph)) its.toList) ∧ ∀ x ∈ xs, wf n x
  | .dic kvs => H a = some (.dK (kvV ph kvs)) ∧ ∀ p ∈ kvs, wf n p.2
  | .ins c fs => (∃ dx, H a = some (.ins (Ga c) dx (fsV ph fs)) ∧ ClsX K (Ga c)) ∧ ∀ p ∈ fs, wf n p.2
  | .xd fs => H a = some (.xd (fsV ph fs)) ∧ ∀ p ∈ fs, wf n p.2
  | .exo c d => (H a = some (ExQ (.ref (Ga c)) (d.map ph) a) ∧ ExcX K (Ga c)) ∧ ∀ k, d = some k → k < n
/-- the heap h of Mini is held by H -/
structure HR (ph : Nat → Addr) (h : MH) (H : Hp) : Prop where
  cells : ∀ i c, h[i]? = some c → CellAt K Ga ph h.length H (ph i) c
  inj : ∀ i j ci cj, i ≠ j → h[i]? = some ci → h[j]? = some cj → trk ci → trk cj → ph i ≠ ph j
end
/-- what stood stands at its address -/
structure Grow (ph : Nat → Addr) (h : MH) (ph' : Nat → Addr) (h' : MH) : Prop where
  le : h.length ≤ h'.length
  eq : ∀ i, i < h.length → ph' i = ph i
theorem Grow.refl (ph : Nat → Addr) (h : MH) : Grow ph h ph h := ⟨Nat.le_refl _, fun _ _ => rfl⟩
theorem Grow.trans {p1 p2 p3 : Nat → Addr} {h1 h2 h3 : MH} (a : Grow p1 h1 p2 h2) (b : Grow p2 h2 p3 h3) : Grow p1 h1 p3 h3 :=
  ⟨Nat.le_trans a.le b.le, fun i hi => (b.eq i (Nat.lt_of_lt_of_le hi a.le)).trans (a.eq i hi)⟩
theorem wf.mono {n m : Nat} (h : n ≤ m) : ∀ {w : Mini.W}, wf n w → wf m w
  | .ref k, q => Nat.lt_of_lt_of_le (show k < n from q) h
  | .non, _ => trivial
  | .bl _, _ => trivial
  | .int _, _ => trivial
  | .str _, _ => trivial
theorem Grow.v {p1 p2 : Nat → Addr} {h1 h2 : MH} (g : Grow p1 h1 p2 h2) : ∀ {w : Mini.W}, wf h1.length w → vW p2 w = vW p1 w
  | .ref k, q => congrArg V.ref (g.eq k q)
  | .non, _ => rfl
  | .bl _, _ => rfl
  | .int _, _ => rfl
  | .str _, _ => rfl
theorem Grow.vs {p1 p2 : Nat → Addr} {h1 h2 : MH} (g : Grow p1 h1 p2 h2) {xs : List Mini.W} (q : ∀ x ∈ xs, wf h1.length x) : xs.map (vW p2) = xs.map (vW p1) :=
  List.map_congr_left fun x hx => g.v (q x hx)
theorem Grow.fs {p1 p2 : Nat → Addr} {h1 h2 : MH} (g : Grow p1 h1 p2 h2) {xs : List (Str × Mini.W)} (q : ∀ x ∈ xs, wf h1.length x.2) : fsV p2 xs = fsV p1 xs :=
  List.map_congr_left fun x hx => by rw [g.v (q x hx)]
theorem Grow.kv {p1 p2 : Nat → Addr} {h1 h2 : MH} (g : Grow p1 h1 p2 h2) {xs : List (Sum Int Str × Mini.W)} (q : ∀ x ∈ xs, wf h1.length x.2) : kvV p2 xs = kvV p1 xs :=
  List.map_congr_left fun x hx => by rw [g.v (q x hx)]
section
variable {K : PySem.W.Frag} {Ga : Nat → Addr}
/-- a cell's description under more cells, at another heap that is the same at its address -/
theorem CellAt.to {p1 p2 : Nat → Addr} {n m : Nat} {H H' : Hp} {a : Addr} (hn : n ≤ m) (hp : ∀ i, i < n → p2 i = p1 i) : ∀ {c : Cell}, (trk c → H' a = H a) → CellAt K Ga p1 n H a c → CellAt K Ga p2 m H' a c := by
  intro c hH q
  have v : ∀ {w : Mini.W}, wf n w → vW p2 w = vW p1 w := fun {w} z => by
    cases w with
    | ref k => exact congrArg V.ref (hp k z)
    | _ => rfl
  have vs : ∀ {xs : List Mini.W}, (∀ x ∈ xs, wf n x) → xs.map (vW p2) = xs.map (vW p1) := fun z => List.map_congr_left fun x hx => v (z x hx)
  have fs : ∀ {xs : List (Str × Mini.W)}, (∀ x ∈ xs, wf n x.2) → fsV p2 xs = fsV p1 xs := fun z => List.map_congr_left fun x hx => by rw [v (z x hx)]
  have kv : ∀ {xs : List (Sum Int Str × Mini.W)}, (∀ x ∈ xs, wf n x.2) → kvV p2 xs = kvV p1 xs := fun z => List.map_congr_left fun x hx => by rw [v (z x hx)]
  cases c with
  | lst xs => exact ⟨by rw [hH trivial, vs q.2]; exact q.1, fun x hx => (q.2 x hx).mono hn⟩
  | tup xs => exact ⟨by rw [hH trivial, vs q.2]; exact q.1, fun x hx => (q.2 x hx).mono hn⟩
  | fz xs =>
    obtain ⟨⟨o, e⟩, z⟩ := q
    exact ⟨⟨o, by rw [hH trivial, vs z]; exact e⟩, fun x hx => (z x hx).mono hn⟩
  | ct xs =>
    obtain ⟨⟨o, its, k, e1, e2, e3, e4, e5⟩, z⟩ := q
    exact ⟨⟨o, its, k, e1, e2, e3, e4, by rw [vs z]; exact e5⟩, fun x hx => (z x hx).mono hn⟩
  | cl xs =>
    obtain ⟨⟨o, its, k, e1, e2, e3, e4, e5, e6⟩, z⟩ := q
    exact ⟨⟨o, its, k, e1, e2, e3, e4, e5, by rw [vs z]; exact e6⟩, fun x hx => (z x hx).mono hn⟩
  | dic kvs => exact ⟨by rw [hH trivial, kv q.2]; exact q.1, fun x hx => (q.2 x hx).mono hn⟩
  | ins c fs' =>
    obtain ⟨⟨dx, e, cx⟩, z⟩ := q
    exact ⟨⟨dx, (by rw [hH trivial, fs z]; exact e), cx⟩, fun x hx => (z x hx).mono hn⟩
  | xd fs' => exact ⟨by rw [hH trivial, fs q.2]; exact q.1, fun x hx => (q.2 x hx).mono hn⟩
  | exo c d =>
    obtain ⟨⟨e, cx⟩, z⟩ := q
    refine ⟨⟨?_, cx⟩, fun k hk => Nat.lt_of_lt_of_le (z k hk) hn⟩
    rw [hH trivial, e]
    cases d with
    | none => rfl
    | some k => show some (ExQ _ (some (p1 k)) a) = some (ExQ _ (some (p2 k)) a); rw [hp k (z k rfl)]
theorem CellAt.some {ph : Nat → Addr} {n : Nat} {H : Hp} {a : Addr} : ∀ {c : Cell}, trk c → CellAt K Ga ph n H a c → ∃ o, H a = some o
  | .lst _, _, q => ⟨_, q.1⟩
  | .tup _, _, q => ⟨_, q.1⟩
  | .fz _, _, ⟨⟨_, e⟩, _⟩ => ⟨_, e⟩
  | .dic _, _, q => ⟨_, q.1⟩
  | .ins _ _, _, ⟨⟨_, e, _⟩, _⟩ => ⟨_, e⟩
  | .xd _, _, q => ⟨_, q.1⟩
  | .exo _ _, _, q => ⟨_, q.1.1⟩
/-- a new address for a new cell -/
def ext (ph : Nat → Addr) (n : Nat) (a : Addr) : Nat → Addr := fun i => if i = n then a else ph i
theorem ext_at {ph : Nat → Addr} {n : Nat} {a : Addr} : ext ph n a n = a := if_pos rfl
theorem ext_lt {ph : Nat → Addr} {n : Nat} {a : Addr} {i : Nat} (h : i < n) : ext ph n a i = ph i := if_neg (Nat.ne_of_lt h)
theorem Grow.ext {ph : Nat → Addr} {h : MH} {a : Addr} {c : Cell} : Grow ph h (ext ph h.length a) (h ++ [c]) :=
  ⟨by rw [List.length_append]; exact Nat.le_add_right _ _, fun _ hi => ext_lt hi⟩
/-- a new object is laid -/
theorem HR.push {ph : Nat → Addr} {h : MH} {H : Hp} {a : Addr} {o : HO} {c : Cell} (R : HR K Ga ph h H) (ha : H a = none) (hc : CellAt K Ga (ext ph h.length a) (h.length + 1) (upd H a o) a c) :
    HR K Ga (ext ph h.length a) (h ++ [c]) (upd H a o) := by
  have len : (h ++ [c]).length = h.length + 1 := by rw [List.length_append]; rfl
  have old : ∀ {i : Nat} {x : Cell}, i ≠ h.length → (h ++ [c])[i]? = some x → i < h.length ∧ h[i]? = some x := fun {i x} hi e => by
    have hl : i < (h ++ [c]).length := (List.getElem?_eq_some_iff.mp e).1
    have hl' : i < h.length := by omega
    rw [List.getElem?_append_left hl'] at e
    exact ⟨hl', e⟩
  have new : ∀ {x : Cell}, (h ++ [c])[h.length]? = some x → x = c := fun {x} e => by
    rw [List.getElem?_append_right (Nat.le_refl _), Nat.sub_self] at e
    exact (Option.some.inj e).symm
  have ne : ∀ {i : Nat} {x : Cell}, h[i]? = some x → trk x → ph i ≠ a := fun {i x} e t q => by
    obtain ⟨u, hu⟩ := (R.cells i x e).some t
    rw [q, ha] at hu
    cases hu
  constructor
  · intro i x e
    rw [len]
    by_cases hi : i = h.length
    · subst hi
      rw [new e, ext_at]
      exact hc
    · obtain ⟨hl, e'⟩ := old hi e
      rw [ext_lt hl]
      refine (R.cells i x e').to (Nat.le_succ _) (fun j hj => ext_lt hj) fun t => ?_
      exact upd_ne (ne e' t)
  · intro i j ci cj hij ei ej ti tj
    by_cases hi : i = h.length
    · subst hi
      have hj : j ≠ h.length := fun z => hij z.symm
      obtain ⟨hl, e'⟩ := old hj ej
      rw [ext_at, ext_lt hl]
      exact (ne e' tj).symm
    · obtain ⟨hl, e'⟩ := old hi ei
      by_cases hj : j = h.length
      · subst hj
        rw [ext_at, ext_lt hl]
        exact ne e' ti
      · obtain ⟨hl2, e2⟩ := old hj ej
        rw [ext_lt hl, ext_lt hl2]
        exact R.inj i j ci cj hij e' e2 ti tj
/-- an object is changed -/
theorem HR.set {ph : Nat → Addr} {h : MH} {H : Hp} {o : HO} {n : Nat} {c c' : Cell} (R : HR K Ga ph h H) (hn : h[n]? = some c) (ht : trk c) (ht' : trk c') (hc : CellAt K Ga ph h.length (upd H (ph n) o) (ph n) c') :
    HR K Ga ph (h.set n c') (upd H (ph n) o) := by
  have hl : n < h.length := (List.getElem?_eq_some_iff.mp hn).1
  have here : ∀ {x : Cell}, (h.set n c')[n]? = some x → x = c' := fun {x} e => by
    rw [List.getElem?_set_self hl] at e
    exact (Option.some.inj e).symm
  have there : ∀ {i : Nat} {x : Cell}, i ≠ n → (h.set n c')[i]? = some x → h[i]? = some x := fun {i x} hi e => by
    rw [List.getElem?_set_ne (Ne.symm hi)] at e
    exact e
  constructor
  · intro i x e
    rw [List.length_set]
    by_cases hi : i = n
    · subst hi
      rw [here e]
      exact hc
    · have e' := there hi e
      refine (R.cells i x e').to (Nat.le_refl _) (fun _ _ => rfl) fun t => ?_
      exact upd_ne (R.inj i n x c hi e' hn t ht)
  · intro i j ci cj hij ei ej ti tj
    by_cases hi : i = n
    · subst hi
      exact R.inj i j c cj hij hn (there (fun z => hij z.symm) ej) ht tj
    · by_cases hj : j = n
      · subst hj
        exact R.inj i j ci c hij (there hi ei) hn ti ht
      · exact R.inj i j ci cj hij (there hi ei) (there hj ej) ti tj
theorem Grow.set {ph : Nat → Addr} {h : MH} {n : Nat} {c : Cell} : Grow ph h ph (h.set n c) := ⟨by rw [List.length_set]; exact Nat.le_refl _, fun _ _ => rfl⟩
end
/-! ### slots -/
/-- a slot that holds the exception of a suite: at a, its own dict at d, which is the cell n -/
structure PinD where
  i : Nat
  a : Addr
  d : Option Addr
  n : Option Nat
abbrev Pin := Option PinD
def Pin.holds (p : Pin) (ph : Nat → Addr) (len : Nat) (sg : L2.St) : Prop := ∀ q : PinD, p = some q → sg[q.i]? = some (some (.ref q.a)) ∧ q.d = q.n.map ph ∧ ∀ k, q.n = some k → k < len
def Pin.lets (p : Pin) (j : Nat) : Prop := ∀ q : PinD, p = some q → j ≠ q.i
theorem lets0 {j : Nat} : Pin.lets none j := fun _ e => nomatch e
theorem lets1 {q : PinD} {j : Nat} (h : j ≠ q.i) : Pin.lets (some q) j := fun _ e => by cases e; exact h
section
variable (K : PySem.W.Frag) (Ga : Nat → Addr) (pin : Pin)
structure SR (ph : Nat → Addr) (h : MH) (r : Mini.Env) (sg : L2.St) (H : Hp) : Prop where
  hr : HR K Ga ph h H
  len : sg.length = r.length
  val : ∀ (i : Nat) (w : Mini.W), r[i]? = some (some w) → sg[i]? = some (some (vW ph w)) ∧ wf h.length w
  pin : pin.holds ph h.length sg
end
section
variable {K : PySem.W.Frag} {Ga : Nat → Addr} {pin : Pin} {ph ph' : Nat → Addr} {h h' : MH} {r : Mini.Env} {sg : L2.St} {H H' : Hp}
theorem SR.grow (s : SR K Ga pin ph h r sg H) (g : Grow ph h ph' h') (R : HR K Ga ph' h' H') : SR K Ga pin ph' h' r sg H' :=
  ⟨R, s.len, fun i w e => ⟨by rw [g.v (s.val i w e).2]; exact (s.val i w e).1, (s.val i w e).2.mono g.le⟩, fun q e => by
    obtain ⟨z1, z2, z3⟩ := s.pin q e
    refine ⟨z1, ?_, fun k z => Nat.lt_of_lt_of_le (z3 k z) g.le⟩
    rw [z2]
    cases en : q.n with
    | none => rfl
    | some k => exact congrArg some (g.eq k (z3 k en)).symm⟩
theorem SR.put {j : Nat} {w : Mini.W} (s : SR K Ga pin ph h r sg H) (hw : wf h.length w) (hj : pin.lets j) : SR K Ga pin ph h (r.set j (some w)) (sg.set j (some (vW ph w))) H := by
  refine ⟨s.hr, by rw [List.length_set, List.length_set, s.len], fun i x e => ?_, fun q e => ?_⟩
  · by_cases hi : j = i
    · subst hi
      by_cases hl : j < r.length
      · rw [List.getElem?_set_self hl] at e
        cases e
        exact ⟨List.getElem?_set_self (by rw [s.len]; exact hl), hw⟩
      · rw [List.getElem?_eq_none (by rw [List.length_set]; omega)] at e
        cases e
    · rw [List.getElem?_set_ne hi] at e
      rw [List.getElem?_set_ne hi]
      exact s.val i x e
  · rw [List.getElem?_set_ne (hj q e)]
    exact s.pin q e
end
/-! ### the readings that Mini gives -/
section
variable (K : PySem.W.Frag) (Ga : Nat → Addr) (pin : Pin) (Wd : WX)
/-- a run's end is good: with its value what follows holds -/
def rd {α β : Type} (rel : (Nat → Addr) → Nat → α → β → Prop) (ph : Nat → Addr) (h : MH) (sg : L2.St) (q : Mini.R α) (Q : β → Hp → Prop) : Prop := match q with
  | .ok a h' => ∀ ph' H' b, Grow ph h ph' h' → HR K Ga ph' h' H' → rel ph' h'.length a b → Q b H'
  | .exc c d h' => ∀ ph' H', Grow ph h ph' h' → HR K Ga ph' h' H' → (∀ n, d = some n → n < h'.length) → Wd (.ref (Ga c)) (d.map ph') sg H'
  | .bad => False
def relW (ph : Nat → Addr) (n : Nat) (w : Mini.W) (v : V) : Prop := v = vW ph w ∧ wf n w
def relB (_ : Nat → Addr) (_ : Nat) (b c : Bool) : Prop := c = b
def relA (ph : Nat → Addr) (n : Nat) (ws : List Mini.W) (vs : List V) : Prop := vs = ws.map (vW ph) ∧ ∀ w ∈ ws, wf n w
def tE (m : Mini.E) : TE := fun sg H Q => ∃ ph h r, SR K Ga pin ph h r sg H ∧ rd K Ga Wd relW ph h sg (m r h) Q
def tT (m : Mini.T) : TT := fun sg H Q => ∃ ph h r, SR K Ga pin ph h r sg H ∧ rd K Ga Wd relB ph h sg (m r h) Q
def tA (m : Mini.A) : TA := fun sg H Q => ∃ ph h r, SR K Ga pin ph h r sg H ∧ rd K Ga Wd relA ph h sg (m r h) Q
def rdS (ph : Nat → Addr) (h : MH) (q : RS) (D : Ends) : Prop := match q with
  | .ok .nx r' h' => ∀ ph' sg' H', Grow ph h ph' h' → SR K Ga pin ph' h' r' sg' H' → D.nx sg' H'
  | .ok .bk r' h' => ∀ ph' sg' H', Grow ph h ph' h' → SR K Ga pin ph' h' r' sg' H' → D.bk sg' H'
  | .ok .ct r' h' => ∀ ph' sg' H', Grow ph h ph' h' → SR K Ga pin ph' h' r' sg' H' → D.ct sg' H'
  | .ok (.rt w) _ h' => ∀ ph' H', Grow ph h ph' h' → HR K Ga ph' h' H' → wf h'.length w → D.rt (vW ph' w) H'
  | .exc c d r' h' => ∀ ph' sg' H', Grow ph h ph' h' → SR K Ga pin ph' h' r' sg' H' → (∀ n, d = some n → n < h'.length) → Wd (.ref (Ga c)) (d.map ph') sg' H'
  | .bad => False
def tS (m : Mini.S) : TS := fun D sg H => ∃ ph h r, SR K Ga pin ph h r sg H ∧ rdS K Ga pin Wd ph h (m r h) D
end
section
variable {K : PySem.W.Frag} {Ga : Nat → Addr} {pin : Pin} {Wd : WX} {ph ph1 : Nat → Addr} {h h1 : MH} {r : Mini.Env} {sg : L2.St} {H H1 : Hp} {α β γ δ : Type}
theorem rd.base {rel : (Nat → Addr) → Nat → α → β → Prop} {q : Mini.R α} {Q : β → Hp → Prop} (g : Grow ph h ph1 h1) (x : rd K Ga Wd rel ph h sg q Q) : rd K Ga Wd rel ph1 h1 sg q Q := by
  cases q with
  | ok a h' => exact fun ph' H' b g' R rl => x ph' H' b (g.trans g') R rl
  | exc c d h' => exact fun ph' H' g' R z => x ph' H' (g.trans g') R z
  | bad => exact x
theorem rdS.base {q : RS} {D : Ends} (g : Grow ph h ph1 h1) (x : rdS K Ga pin Wd ph h q D) : rdS K Ga pin Wd ph1 h1 q D := by
  cases q with
  | ok f r' h' =>
    cases f with
    | nx => exact fun ph' sg' H' g' R => x ph' sg' H' (g.trans g') R
    | bk => exact fun ph' sg' H' g' R => x ph' sg' H' (g.trans g') R
    | ct => exact fun ph' sg' H' g' R => x ph' sg' H' (g.trans g') R
    | rt w => exact fun ph' H' g' R z => x ph' H' (g.trans g') R z
  | exc c d r' h' => exact fun ph' sg' H' g' R z => x ph' sg' H' (g.trans g') R z
  | bad => exact x
/-- one run behind the other -/
theorem rd.bind {rel : (Nat → Addr) → Nat → α → β → Prop} {rel' : (Nat → Addr) → Nat → γ → δ → Prop} {q : Mini.R α} {f : α → MH → Mini.R γ} {Q : δ → Hp → Prop} {Q1 : β → Hp → Prop}
    (x : rd K Ga Wd rel' ph h sg (q.bind f) Q)
    (k : ∀ a h1, q = .ok a h1 → ∀ ph1 H1 b, Grow ph h ph1 h1 → HR K Ga ph1 h1 H1 → rel ph1 h1.length a b → rd K Ga Wd rel' ph1 h1 sg (f a h1) Q → Q1 b H1) : rd K Ga Wd rel ph h sg q Q1 := by
  cases q with
  | ok a h' => exact fun ph' H' b g R rl => k a h' rfl ph' H' b g R rl (rd.base g x)
  | exc c d h' => exact x
  | bad => exact x
end
theorem PE.imp {X : Cx} {e : Expr} {t t' : TE} (p : PE X e t) (k : ∀ sg H Q, t' sg H Q → t sg H Q) : PE X e t' := ⟨fun pins s sg H Q I h => p.run pins s sg H Q I (k sg H Q h)⟩
theorem PT.imp {X : Cx} {e : Expr} {t t' : TT} (p : PT X e t) (k : ∀ sg H Q, t' sg H Q → t sg H Q) : PT X e t' := ⟨fun pins s sg H Q I h => p.run pins s sg H Q I (k sg H Q h)⟩
theorem PW.imp {X : Cx} {e : Expr} {t t' : TT} (p : PW X e t) (k : ∀ sg H Q, t' sg H Q → t sg H Q) : PW X e t' := ⟨fun wh pins s sg H Q I h => p.run wh pins s sg H Q I (k sg H Q h)⟩
theorem PA.imp {X : Cx} {es : List Expr} {t t' : TA} (p : PA X es t) (k : ∀ sg H Q, t' sg H Q → t sg H Q) : PA X es t' := ⟨fun pos pins s sg H Q I h => p.run pos pins s sg H Q I (k sg H Q h)⟩
theorem PS.imp {X : Cx} {st : Stmt} {t t' : TS} (p : PS X st t) (k : ∀ D sg H, t' D sg H → t D sg H) : PS X st t' := ⟨fun pins s sg H D I h => p.run pins s sg H D I (k D sg H h)⟩
theorem PSs.imp {X : Cx} {st : List Stmt} {t t' : TS} (p : PSs X st t) (k : ∀ D sg H, t' D sg H → t D sg H) : PSs X st t' := ⟨fun pins s sg H D I h => p.run pins s sg H D I (k D sg H h)⟩
end Br
set_option Elab.async false
set_option autoImplicit false
set_option linter.all false
set_option maxRecDepth 100000
set_option maxHeartbeats 1200000
/-! isinstance of an exception's object that has a dict of its own -/
namespace Br
open PySem PySem.Spec PyProof.Rows L2 Mini
/-- a value's type, of exceptions too -/
inductive TyE (K : PySem.W.Frag) (H : Hp) : V → Value → Prop where
  | base {x : V} {t : Value} (h : TyX K H x t) : TyE K H x t
  | exc {a C : Addr} {d : Option Addr} (e : H a = some (ExQ (.ref C) d a)) (c : ExcC K C) (hd : ∀ dd, d = some dd → ∃ fs, H dd = some (.xd fs)) : TyE K H (.ref a) (.ref C)
section
variable {X : Cx} {s : Shared} {H : Hp} {pins : List (Addr × Obj)} {σ : L2.St}
theorem kitE_of {x : V} {u t : Value} (I : Inv X pins σ H s) (rx : RelV x u) (ty : TyE X.K H x t) : ∃ P : Heap → Prop, PySem.W.KitX X.K u t P ∧ P s.heap ∧ u ≠ .builtin "__main__.__loader__#opaque" := by
  cases ty with
  | base b => exact kit_of I rx b
  | @exc a C d e c hd =>
    have eu : u = Value.ref a := rx
    subst eu
    obtain ⟨⟨oe, he, hz, vs, hv⟩, _, _⟩ := I.hok a _ e
    have known : (PySem.W.clsIn X.K C).isSome = true := by
      obtain ⟨q, hq, _⟩ := PySem.W.any_some c.hd
      rw [hq] <;> rfl
    have plain : PySem.W.notCls oe := by unfold PySem.W.notCls; rw [hv] <;> rfl
    have inst : ∃ od, PySem.W.InstAt s.heap a oe C od := by
      cases ed : d with
      | none => exact ⟨none, he, hz.1, plain, by rw [hz.2, ed] <;> trivial⟩
      | some dd =>
        obtain ⟨fs, ef⟩ := hd dd ed
        obtain ⟨mA, own, _⟩ : ObjOk X.prog X.w H s.heap dd (.xd fs) := I.hok dd _ ef
        obtain ⟨od, at_, _⟩ := lookIn_ns own
        exact ⟨some od, he, hz.1, plain, by rw [hz.2, ed]; exact at_⟩
    obtain ⟨od, J⟩ := inst
    exact ⟨_, PySem.W.kitx_exc (od := od) known c.hg c.hk c.hs c.ha c.hn c.ht c.hm, J, fun z => nomatch z⟩
def rIsiE (K : PySem.W.Frag) : List V → Hp → VK → Prop := fun xs H Q => ∃ (x c : V) (t u : Value) (b : Bool), xs = [x, c] ∧ ClsV c u ∧ TyE K H x t ∧ PySem.W.kitOne K t u = some b ∧ Q (.bl b) H
theorem call_isiE : CallR X (.builtin "isinstance") (rIsiE X.K) := by
  intro pins s sg H xs us Q I rv want
  obtain ⟨x, c, t, u, b, rfl, k, ty, e, q⟩ := want
  obtain ⟨u1, u2, rfl, r1, r2⟩ := vals2 rv
  obtain rfl := k.eq r2
  obtain ⟨P, Z, p, hx⟩ := kitE_of I r1 ty
  exact PySem.W.kia_one Z I.kIn p e hx fun tk => ⟨.bl b, H, I.tok (tk : _), rfl, q⟩
def rIsiTE (K : PySem.W.Frag) : List V → Hp → VK → Prop := fun xs H Q => ∃ (x : V) (tp : Addr) (cs : List V) (t : Value) (us : List Value) (b : Bool), xs = [x, .ref tp] ∧ H tp = some (.tup cs) ∧ Paired ClsV cs us ∧ TyE K H x t ∧ PySem.W.kitAny K t us = some b ∧ Q (.bl b) H
theorem call_isiTE : CallR X (.builtin "isinstance") (rIsiTE X.K) := by
  intro pins s sg H xs us Q I rv want
  obtain ⟨x, tp, cs, t, vs, b, rfl, hT, k, ty, e, q⟩ := want
  obtain ⟨u1, u2, rfl, r1, r2⟩ := vals2 rv
  obtain rfl : u2 = Value.ref tp := r2
  obtain ⟨P, Z, p, hx⟩ := kitE_of I r1 ty
  obtain ⟨_, its, rv, o, h1, h2, n, h3⟩ := (show ObjOk X.prog X.w H s.heap tp (.tup cs) by exact I.hok tp _ hT)
  obtain rfl := ClsV.all k rv
  obtain ⟨oc, od, dt, sl⟩ := o
  simp only at h2 h3
  subst h2 h3
  exact PySem.W.kia_tup Z I.kIn p h1 e hx fun tk => ⟨.bl b, H, I.tok (tk : _), rfl, q⟩
end
end Br
set_option Elab.async false
set_option autoImplicit false
set_option linter.all false
set_option maxRecDepth 100000
set_option maxHeartbeats 1100000
namespace Br
open PySem PySem.Spec PyProof.Rows L2 Mini
section
variable {X : Cx} {Ga : Nat → Addr} {pin : Pin} {Wd : WX} {ph : Nat → Addr} {h : MH} {r : Mini.Env} {sg : L2.St} {H : Hp} {a b c e : Expr} {es : List Expr} {pos : Pos} {ma mb mc m : Mini.E}
theorem rd_ok {K : PySem.W.Frag} {w : Mini.W} {Q : VK} (x : rd K Ga Wd relW ph h sg (.ok w h) Q) (R : HR K Ga ph h H) (hw : wf h.length w) : Q (vW ph w) H := x ph H _ (Grow.refl _ _) R ⟨rfl, hw⟩
theorem rd_okB {K : PySem.W.Frag} {b : Bool} {Q : Bool → Hp → Prop} (x : rd K Ga Wd relB ph h sg (.ok b h) Q) (R : HR K Ga ph h H) : Q b H := x ph H _ (Grow.refl _ _) R rfl
theorem rd_okA {K : PySem.W.Frag} {ws : List Mini.W} {Q : List V → Hp → Prop} (x : rd K Ga Wd relA ph h sg (.ok ws h) Q) (R : HR K Ga ph h H) (hw : ∀ w ∈ ws, wf h.length w) : Q (ws.map (vW ph)) H := x ph H _ (Grow.refl _ _) R ⟨rfl, hw⟩
/-- a new cell, laid at any free place -/
theorem rd_new {K : PySem.W.Frag} {cl : Cell} {Q : VK} {o : Addr → HO} (x : rd K Ga Wd relW ph h sg (.ok (.ref h.length) (h ++ [cl])) Q) (R : HR K Ga ph h H) {p : Addr} (hp : H p = none)
    (hc : CellAt K Ga (ext ph h.length p) (h.length + 1) (upd H p (o p)) p cl) : Q (.ref p) (upd H p (o p)) := by
  have q := x (ext ph h.length p) (upd H p (o p)) (.ref p) Grow.ext (R.push hp hc) ⟨by show V.ref p = V.ref (ext ph h.length p h.length); rw [ext_at], by show h.length < (h ++ [cl]).length; rw [List.length_append]; exact Nat.lt_succ_self _⟩
  exact q
theorem ext_vs {p : Addr} {xs : List Mini.W} (q : ∀ x ∈ xs, wf h.length x) : xs.map (vW (ext ph h.length p)) = xs.map (vW ph) := (Grow.ext (c := .lst [])).vs q
theorem wf_up {xs : List Mini.W} (q : ∀ x ∈ xs, wf h.length x) : ∀ x ∈ xs, wf (h.length + 1) x := fun x hx => (q x hx).mono (Nat.le_succ _)
theorem at_lst {K : PySem.W.Frag} {p : Addr} {xs : List Mini.W} (q : ∀ x ∈ xs, wf h.length x) : CellAt K Ga (ext ph h.length p) (h.length + 1) (upd H p (.lst (xs.map (vW ph)))) p (.lst xs) := ⟨by rw [ext_vs q]; exact upd_same, wf_up q⟩
theorem at_tup {K : PySem.W.Frag} {p : Addr} {xs : List Mini.W} (q : ∀ x ∈ xs, wf h.length x) : CellAt K Ga (ext ph h.length p) (h.length + 1) (upd H p (.tup (xs.map (vW ph)))) p (.tup xs) := ⟨by rw [ext_vs q]; exact upd_same, wf_up q⟩
/-! ### leaves -/
theorem e_var {i : Nat} {x : Str} (hN : X.N[i]? = some x) (hv : Vis X.env.scope x) (hd : (x == ("__debug__" : Str)) = false := by decide) (hcd : (x == ("__classdict__" : Str)) = false := by decide) : PE X (.Name x pos) (tE X.K Ga pin Wd (eVar i)) := by
  refine PE.imp (pe_var hN hv hd hcd) fun sg H Q ⟨ph, h, r, s, x⟩ => ?_
  unfold eVar at x
  cases e : r[i]? with
  | none => rw [e] at x; exact x.elim
  | some o =>
    cases o with
    | none => rw [e] at x; exact x.elim
    | some w =>
      rw [e] at x
      obtain ⟨h1, h2⟩ := s.val i w e
      exact ⟨_, h1, rd_ok x s.hr h2⟩
theorem e_c {v : V} {w : Mini.W} (p : PE X e (tC v)) (hv : ∀ ph, vW ph w = v) (hw : ∀ n, wf n w) : PE X e (tE X.K Ga pin Wd (eC w)) := by
  refine PE.imp p fun sg H Q ⟨ph, h, r, s, x⟩ => ?_
  have q := rd_ok x s.hr (hw _)
  rw [hv] at q
  exact q
theorem e_int {i : Int} {j : Nat} : PE X (.Constant (.int i) j pos) (tE X.K Ga pin Wd (eC (.int i))) := e_c pe_int (fun _ => rfl) fun _ => trivial
theorem e_bl {i : Bool} {j : Nat} : PE X (.Constant (.bool i) j pos) (tE X.K Ga pin Wd (eC (.bl i))) := e_c pe_bl (fun _ => rfl) fun _ => trivial
theorem e_non {j : Nat} : PE X (.Constant .none j pos) (tE X.K Ga pin Wd (eC .non)) := e_c pe_non (fun _ => rfl) fun _ => trivial
theorem e_str {x : Str} {j : Nat} : PE X (.Constant (.str x) j pos) (tE X.K Ga pin Wd (eC (.str x))) := e_c pe_str (fun _ => rfl) fun _ => trivial
/-- a module's int -/
theorem e_gint {x : Str} {i : Int} {t : Tok} (hg : Gl X x) (hm : X.mg x = some (.int i t)) (hd : (x == ("__debug__" : Str)) = false := by decide) : PE X (.Name x pos) (tE X.K Ga pin Wd (eC (.int i))) :=
  e_c (pe_glob (v := .int i) hg hm ⟨t, rfl⟩ hd) (fun _ => rfl) fun _ => trivial
/-! ### operators -/
def BinS (X : Cx) (Ga : Nat → Addr) (g : Mini.W → Mini.W → MH → Mini.R Mini.W) (r : R2) : Prop :=
  ∀ (Wd : WX) (ph : Nat → Addr) (h : MH) (H : Hp) (sg : L2.St) (x y : Mini.W) (Q : VK), HR X.K Ga ph h H → wf h.length x → wf h.length y → rd X.K Ga Wd relW ph h sg (g x y h) Q → r (vW ph x) (vW ph y) H Q
theorem two_of {g : Mini.W → Mini.W → MH → Mini.R Mini.W} {Q : VK} {R : V → V → Hp → Prop} (x : tE X.K Ga pin Wd (eBin g ma mb) sg H Q)
    (k : ∀ (ph : Nat → Addr) (h : MH) (H : Hp) (x y : Mini.W), HR X.K Ga ph h H → wf h.length x → wf h.length y → rd X.K Ga Wd relW ph h sg (g x y h) Q → R (vW ph x) (vW ph y) H) :
    tE X.K Ga pin Wd ma sg H fun x H1 => tE X.K Ga pin Wd mb sg H1 fun y H2 => R x y H2 := by
  obtain ⟨ph, h, r, s, x⟩ := x
  refine ⟨ph, h, r, s, x.bind fun u h1 e1 ph1 H1 b1 g1 R1 ⟨eb1, w1⟩ x1 => ?_⟩
  refine ⟨ph1, h1, r, s.grow g1 R1, x1.bind fun v h2 e2 ph2 H2 b2 g2 R2 ⟨eb2, w2⟩ x2 => ?_⟩
  rw [eb1, eb2, ← g2.v w1]
  exact k ph2 h2 H2 u v R2 (w1.mono g2.le) w2 x2
theorem e_bin {op : Operator} {g : Mini.W → Mini.W → MH → Mini.R Mini.W} {r : R2} (ho : OpR X (binaryOp op) r) (hg : BinS X Ga g r) (ha : PE X a (tE X.K Ga pin Wd ma)) (hb : PE X b (tE X.K Ga pin Wd mb)) :
    PE X (.BinOp a op b pos) (tE X.K Ga pin Wd (eBin g ma mb)) :=
  PE.imp (pe_op ho ha hb) fun sg H Q x => two_of x fun ph h H u v R w1 w2 x2 => hg Wd ph h H sg u v Q R w1 w2 x2
theorem e_cmp {op : CmpOp} {g : Mini.W → Mini.W → MH → Mini.R Mini.W} {r : R2} (ho : OpR X (compareOp op) r) (hg : BinS X Ga g r) (ha : PE X a (tE X.K Ga pin Wd ma)) (hb : PE X b (tE X.K Ga pin Wd mb)) (hm : behindInMarks op b = false) :
    PE X (.Compare a [op] [b] pos) (tE X.K Ga pin Wd (eBin g ma mb)) :=
  PE.imp (pe_cmpR ho ha hb hm) fun sg H Q x => two_of x fun ph h H u v R w1 w2 x2 => hg Wd ph h H sg u v Q R w1 w2 x2
theorem e_ix {g : Mini.W → Mini.W → MH → Mini.R Mini.W} {r : R2} (ho : IxR X r) (hg : BinS X Ga g r) (ha : PE X a (tE X.K Ga pin Wd ma)) (hb : PE X b (tE X.K Ga pin Wd mb)) (hs : PlainIx b) :
    PE X (.Subscript a b pos) (tE X.K Ga pin Wd (eBin g ma mb)) :=
  PE.imp (pe_ix ho ha hb hs) fun sg H Q x => two_of x fun ph h H u v R w1 w2 x2 => hg Wd ph h H sg u v Q R w1 w2 x2
theorem s_intOp {f : Int → Int → Int} : BinS X Ga (intOp f) (rI0 fun i j => .int (f i j)) := by
  intro Wd ph h H sg x y Q R w1 w2 q
  cases x with
  | int i => cases y with
    | int j => exact ⟨i, j, rfl, rfl, rd_ok q R trivial⟩
    | _ => exact q.elim
  | _ => exact q.elim
theorem s_intOpC {cc : Int → Int → Bool} {C : Int → Int → Prop} {f : Int → Int → Int} (hC : ∀ i j, cc i j = true → C i j) : BinS X Ga (intOpC cc f) (rI C fun i j => .int (f i j)) := by
  intro Wd ph h H sg x y Q R w1 w2 q
  cases x with
  | int i => cases y with
    | int j =>
      unfold intOpC at q
      by_cases e : cc i j = true
      · simp only [if_pos e] at q
        exact ⟨i, j, rfl, rfl, hC i j e, rd_ok q R trivial⟩
      · simp only [if_neg e] at q
        exact q.elim
    | _ => exact q.elim
  | _ => exact q.elim
theorem s_intCmp {f : Int → Int → Bool} : BinS X Ga (intCmp f) (rI0 fun i j => .bl (f i j)) := by
  intro Wd ph h H sg x y Q R w1 w2 q
  cases x with
  | int i => cases y with
    | int j => exact ⟨i, j, rfl, rfl, rd_ok q R trivial⟩
    | _ => exact q.elim
  | _ => exact q.elim
theorem two64_eq : two64 = 2 ^ 64 := by decide
def CMulA (i j : Int) : Prop := CMul i j ∨ CMulW i j
theorem op_mulA : OpR X (binaryOp .Mult) (rI CMulA fun i j => .int (i * j)) := by
  intro pins s sg H x y v u Q I rx ry q
  obtain ⟨i, j, e1, e2, z | z, q⟩ := q
  · exact op_mul pins s sg H x y v u Q I rx ry ⟨i, j, e1, e2, z, q⟩
  · exact op_mulW pins s sg H x y v u Q I rx ry ⟨i, j, e1, e2, z, q⟩
theorem mulOk_ok {i j : Int} (q : mulOk i j = true) : CMulA i j := by
  unfold mulOk at q
  rw [Bool.or_eq_true, Bool.or_eq_true, decide_eq_true_eq, decide_eq_true_eq, decide_eq_true_eq, two64_eq] at q
  rcases q with (q | q) | q
  · exact .inl (.inl (by omega))
  · exact .inl (.inr (by omega))
  · exact .inr q
theorem e_sub (ha : PE X a (tE X.K Ga pin Wd ma)) (hb : PE X b (tE X.K Ga pin Wd mb)) : PE X (.BinOp a .Sub b pos) (tE X.K Ga pin Wd (eBin gSub ma mb)) := e_bin op_sub s_intOp ha hb
theorem e_mul (ha : PE X a (tE X.K Ga pin Wd ma)) (hb : PE X b (tE X.K Ga pin Wd mb)) : PE X (.BinOp a .Mult b pos) (tE X.K Ga pin Wd (eBin gMul ma mb)) := e_bin op_mulA (s_intOpC fun _ _ => mulOk_ok) ha hb
theorem e_div (ha : PE X a (tE X.K Ga pin Wd ma)) (hb : PE X b (tE X.K Ga pin Wd mb)) : PE X (.BinOp a .FloorDiv b pos) (tE X.K Ga pin Wd (eBin gDiv ma mb)) := e_bin op_fdivW (s_intOpC fun _ _ q => by
  unfold divOk at q; rw [Bool.and_eq_true, decide_eq_true_eq, decide_eq_true_eq] at q; exact q) ha hb
theorem e_mod (ha : PE X a (tE X.K Ga pin Wd ma)) (hb : PE X b (tE X.K Ga pin Wd mb)) : PE X (.BinOp a .Mod b pos) (tE X.K Ga pin Wd (eBin gMod ma mb)) := e_bin op_mod (s_intOpC fun _ _ q => by
  unfold modOk at q; rw [decide_eq_true_eq] at q; exact q) ha hb
theorem e_pow (ha : PE X a (tE X.K Ga pin Wd ma)) (hb : PE X b (tE X.K Ga pin Wd mb)) : PE X (.BinOp a .Pow b pos) (tE X.K Ga pin Wd (eBin gPow ma mb)) := e_bin op_pow (s_intOpC fun _ _ q => by
  unfold powOk at q; rw [Bool.and_eq_true, Bool.and_eq_true, decide_eq_true_eq, decide_eq_true_eq, decide_eq_true_eq, two64_eq] at q; exact ⟨q.1.1, q.1.2, q.2⟩) ha hb
/-- + -/
def rAddA : R2 := fun x y H Q => (∃ i j, x = .int i ∧ y = .int j ∧ Q (.int (i + j)) H) ∨ ((∃ i j, x = .str i ∧ y = .str j ∧ i.length + j.length ≤ sizeLine ∧ Q (.str (i ++ j)) H) ∨ rCat x y H Q)
theorem op_addA : OpR X (binaryOp .Add) rAddA := OpR.or op_add (OpR.or op_add_str op_cat)
theorem m_line {n : Nat} (q : n ≤ 10000000) : n ≤ sizeLine := Nat.le_trans q (by rw [sizeLine_eq]; decide)
theorem m_line1 {n : Nat} (q : n < 10000000) : n < sizeLine := Nat.lt_of_lt_of_le q (by rw [sizeLine_eq]; decide)
theorem m_line6 {n : Nat} (q : n ≤ 1000000) : n ≤ sizeLine := m_line (Nat.le_trans q (by decide))
theorem s_add : BinS X Ga gAdd rAddA := by
  intro Wd ph h H sg x y Q R w1 w2 q
  cases x with
  | int i => cases y with
    | int j => exact .inl ⟨i, j, rfl, rfl, rd_ok q R trivial⟩
    | _ => exact q.elim
  | str s => cases y with
    | str t =>
      simp only [gAdd] at q
      by_cases e : s.length + t.length ≤ 1000000
      · rw [if_pos e] at q
        exact .inr (.inl ⟨s, t, rfl, rfl, m_line6 e, rd_ok q R trivial⟩)
      · rw [if_neg e] at q
        exact q.elim
    | _ => exact q.elim
  | ref n => cases y with
    | ref m =>
      simp only [gAdd] at q
      cases e1 : h[n]? with
      | none => rw [e1] at q; exact q.elim
      | some c1 =>
        cases c1 with
        | lst xs =>
          cases e2 : h[m]? with
          | none => rw [e1, e2] at q; exact q.elim
          | some c2 =>
            cases c2 with
            | lst ys =>
              rw [e1, e2] at q
              simp only [] at q
              by_cases e : xs.length + ys.length ≤ 10000000
              · rw [if_pos e] at q
                obtain ⟨a1, z1⟩ := R.cells n _ e1
                obtain ⟨a2, z2⟩ := R.cells m _ e2
                have z : ∀ x ∈ xs ++ ys, wf h.length x := fun x hx => by
                  rcases (List.mem_append.mp hx : _ ∨ _) with hx | hx
                  · exact z1 x hx
                  · exact z2 x hx
                refine .inr (.inr ⟨ph n, ph m, xs.map (vW ph), ys.map (vW ph), rfl, rfl, a1, a2, by rw [List.length_map, List.length_map]; exact m_line e, fun p hp => ?_⟩)
                have q2 := rd_new (o := fun _ => .lst ((xs ++ ys).map (vW ph))) q R hp (at_lst z)
                rw [← List.map_append]
                exact q2
              · rw [if_neg e] at q
                exact q.elim
            | _ => rw [e1, e2] at q; exact q.elim
        | _ => rw [e1] at q; exact q.elim
    | _ => exact q.elim
  | _ => exact q.elim
theorem e_add (ha : PE X a (tE X.K Ga pin Wd ma)) (hb : PE X b (tE X.K Ga pin Wd mb)) : PE X (.BinOp a .Add b pos) (tE X.K Ga pin Wd (eBin gAdd ma mb)) := e_bin op_addA s_add ha hb
theorem e_lt (ha : PE X a (tE X.K Ga pin Wd ma)) (hb : PE X b (tE X.K Ga pin Wd mb)) : PE X (.Compare a [.Lt] [b] pos) (tE X.K Ga pin Wd (eBin gLt ma mb)) := e_cmp op_lt s_intCmp ha hb (nomark _)
theorem e_le (ha : PE X a (tE X.K Ga pin Wd ma)) (hb : PE X b (tE X.K Ga pin Wd mb)) : PE X (.Compare a [.LtE] [b] pos) (tE X.K Ga pin Wd (eBin gLe ma mb)) := e_cmp op_le s_intCmp ha hb (nomark _)
theorem e_gt (ha : PE X a (tE X.K Ga pin Wd ma)) (hb : PE X b (tE X.K Ga pin Wd mb)) : PE X (.Compare a [.Gt] [b] pos) (tE X.K Ga pin Wd (eBin gGt ma mb)) := e_cmp op_gt s_intCmp ha hb (nomark _)
theorem e_ge (ha : PE X a (tE X.K Ga pin Wd ma)) (hb : PE X b (tE X.K Ga pin Wd mb)) : PE X (.Compare a [.GtE] [b] pos) (tE X.K Ga pin Wd (eBin gGe ma mb)) := e_cmp op_ge s_intCmp ha hb (nomark _)
/-! ### == -/
theorem scl_scal {ph : Nat → Addr} {x y : Mini.W} (e : scl x y = true) : scal (vW ph x) (vW ph y) = true := by
  cases x <;> cases y <;> first | rfl | exact e
theorem scl_inj {ph : Nat → Addr} {x y : Mini.W} (e : scl x y = true) : decide (vW ph x = vW ph y) = decide (x = y) := by
  cases x with
  | bl a => cases y with
    | bl b => simp [vW]
    | _ => first | rfl | exact nomatch e
  | int a => cases y with
    | int b => simp [vW]
    | _ => first | rfl | exact nomatch e
  | str a => cases y with
    | str b => simp [vW]
    | _ => first | rfl | exact nomatch e
  | non => cases y with
    | ref _ => exact nomatch e
    | _ => rfl
  | ref a => cases y <;> exact nomatch e
theorem seqAt_ok {K : PySem.W.Frag} {n : Nat} {xs : List Mini.W} (R : HR K Ga ph h H) (e : seqAt h n = some xs) : (SqL K H (ph n) (xs.map (vW ph)) ∨ SqT K H (ph n) (xs.map (vW ph))) ∧ ∀ x ∈ xs, wf h.length x := by
  unfold seqAt at e
  cases e1 : h[n]? with
  | none => rw [e1] at e; cases e
  | some c =>
    have q := R.cells n c e1
    cases c with
    | lst ys => rw [e1] at e; cases e; exact ⟨.inl (.inl (.inl q.1)), q.2⟩
    | tup ys => rw [e1] at e; cases e; exact ⟨.inr (.inl (.inl q.1)), q.2⟩
    | fz ys => rw [e1] at e; cases e; obtain ⟨⟨o, q1⟩, q2⟩ := q; exact ⟨.inl (.inl (.inr ⟨o, q1⟩)), q2⟩
    | cl ys => rw [e1] at e; cases e; exact ⟨.inl (.inr q.1), q.2⟩
    | ct ys => rw [e1] at e; cases e; exact ⟨.inr (.inr q.1), q.2⟩
    | _ => rw [e1] at e; cases e
theorem dataAll_ok {K : PySem.W.Frag} {f : Mini.W → Option PyData} (hf : ∀ x d, wf h.length x → f x = some d → Dp K H (vW ph x) d) : ∀ {xs : List Mini.W} {ds : List PyData}, (∀ x ∈ xs, wf h.length x) → dataAll f xs = some ds → DpAll K H (xs.map (vW ph)) ds
  | [], ds, _, e => by cases e; exact .nil
  | x :: xs, ds, z, e => by
    simp only [dataAll] at e
    cases e1 : f x with
    | none => rw [e1] at e; cases e
    | some d =>
      cases e2 : dataAll f xs with
      | none => rw [e1, e2] at e; cases e
      | some ds' =>
        rw [e1, e2] at e
        cases e
        exact .cons (hf x d (z x List.mem_cons_self) e1) (dataAll_ok hf (fun y hy => z y (List.mem_cons_of_mem _ hy)) e2)
theorem dataOf_ok {K : PySem.W.Frag} (R : HR K Ga ph h H) : ∀ (n : Nat) (x : Mini.W) (d : PyData), wf h.length x → Mini.dataOf h n x = some d → Dp K H (vW ph x) d
  | 0, x, d, _, e => by cases e
  | n + 1, x, d, z, e => by
    simp only [Mini.dataOf] at e
    cases x with
    | non => cases e; exact .non
    | bl b => cases e; exact .bl b
    | int i => cases e; exact .int i
    | str s => cases e; exact .str s
    | ref k =>
      simp only [] at e
      have ih := dataOf_ok R n
      have go : ∀ {xs : List Mini.W} {f : List PyData → PyData}, (dataAll (Mini.dataOf h n) xs).map f = some d → (∀ x ∈ xs, wf h.length x) → ∃ ds, d = f ds ∧ DpAll K H (xs.map (vW ph)) ds := fun {xs f} e z => by
        cases e1 : dataAll (Mini.dataOf h n) xs with
        | none => rw [e1] at e; cases e
        | some ds => rw [e1] at e; cases e; exact ⟨ds, rfl, dataAll_ok (fun x d => ih x d) z e1⟩
      cases e1 : h[k]? with
      | none => rw [e1] at e; cases e
      | some c =>
        have q := R.cells k c e1
        cases c with
        | lst ys => rw [e1] at e; obtain ⟨ds, rfl, z2⟩ := go e q.2; exact .lst (.inl (.inl q.1)) z2
        | fz ys => rw [e1] at e; obtain ⟨ds, rfl, z2⟩ := go e q.2; obtain ⟨⟨o, q1⟩, q2⟩ := q; exact .lst (.inl (.inr ⟨o, q1⟩)) z2
        | cl ys => rw [e1] at e; obtain ⟨ds, rfl, z2⟩ := go e q.2; exact .lst (.inr q.1) z2
        | tup ys => rw [e1] at e; obtain ⟨ds, rfl, z2⟩ := go e q.2; exact .tup (.inl (.inl q.1)) z2
        | ct ys => rw [e1] at e; obtain ⟨ds, rfl, z2⟩ := go e q.2; exact .tup (.inr q.1) z2
        | _ => rw [e1] at e; cases e
def rEqA (K : PySem.W.Frag) : R2 := fun x y H Q => rEq x y H Q ∨ rEqD K x y H Q
def rNeA (K : PySem.W.Frag) : R2 := fun x y H Q => rNe x y H Q ∨ rNeD K x y H Q
theorem eqB_ok {K : PySem.W.Frag} {x y : Mini.W} {k : Bool} (R : HR K Ga ph h H) (w1 : wf h.length x) (w2 : wf h.length y) (e : eqB x y h = some k) :
    (scal (vW ph x) (vW ph y) = true ∧ decide (vW ph x = vW ph y) = k) ∨ ∃ d f, Dp K H (vW ph x) d ∧ Dp K H (vW ph y) f ∧ SeqAt.shaped d = true ∧ SeqAt.shaped f = true ∧ PyData.eqv d f = k := by
  unfold eqB at e
  by_cases c : scl x y = true
  · rw [if_pos c] at e
    cases e
    exact .inl ⟨scl_scal c, scl_inj c⟩
  · rw [if_neg c] at e
    cases e1 : Mini.dataOf h dep x with
    | none => rw [e1] at e; cases e
    | some d =>
      cases e2 : Mini.dataOf h dep y with
      | none => rw [e1, e2] at e; cases e
      | some f =>
        rw [e1, e2] at e
        simp only [] at e
        by_cases c2 : SeqAt.shaped d = true ∧ SeqAt.shaped f = true
        · rw [if_pos c2] at e
          cases e
          exact .inr ⟨d, f, dataOf_ok R _ _ _ w1 e1, dataOf_ok R _ _ _ w2 e2, c2.1, c2.2, rfl⟩
        · rw [if_neg c2] at e
          cases e
theorem s_eq : BinS X Ga gEq (rEqA X.K) := by
  intro Wd ph h H sg x y Q R w1 w2 q
  unfold gEq at q
  cases e : eqB x y h with
  | none => rw [e] at q; exact q.elim
  | some k =>
    rw [e] at q
    have q' : Q (.bl k) H := rd_ok q R trivial
    rcases eqB_ok R w1 w2 e with ⟨z1, z2⟩ | ⟨d, f, z1, z2, z3, z4, z5⟩
    · exact .inl ⟨z1, by rw [z2]; exact q'⟩
    · exact .inr ⟨d, f, z1, z2, z3, z4, by rw [z5]; exact q'⟩
theorem s_ne : BinS X Ga gNe (rNeA X.K) := by
  intro Wd ph h H sg x y Q R w1 w2 q
  unfold gNe at q
  cases e : eqB x y h with
  | none => rw [e] at q; exact q.elim
  | some k =>
    rw [e] at q
    have q' : Q (.bl (!k)) H := rd_ok q R trivial
    rcases eqB_ok R w1 w2 e with ⟨z1, z2⟩ | ⟨d, f, z1, z2, z3, z4, z5⟩
    · exact .inl ⟨z1, by rw [z2]; exact q'⟩
    · exact .inr ⟨d, f, z1, z2, z3, z4, by rw [z5]; exact q'⟩
theorem e_eq (hu : X.A.units + 64 < cLine) (ha : PE X a (tE X.K Ga pin Wd ma)) (hb : PE X b (tE X.K Ga pin Wd mb)) : PE X (.Compare a [.Eq] [b] pos) (tE X.K Ga pin Wd (eBin gEq ma mb)) := e_cmp (OpR.or op_eq (op_eqD hu)) s_eq ha hb (nomark _)
theorem e_ne (hu : X.A.units + 64 < cLine) (ha : PE X a (tE X.K Ga pin Wd ma)) (hb : PE X b (tE X.K Ga pin Wd mb)) : PE X (.Compare a [.NotEq] [b] pos) (tE X.K Ga pin Wd (eBin gNe ma mb)) := e_cmp (OpR.or op_ne (op_neD hu)) s_ne ha hb (nomark _)
theorem vW_non {ph : Nat → Addr} {x : Mini.W} : decide (vW ph x = .non) = decide (x = .non) := by cases x <;> simp [vW]
theorem s_isN : BinS X Ga gIsN (fun x y H Q => y = .non ∧ Q (.bl (decide (x = .non))) H) := by
  intro Wd ph h H sg x y Q R w1 w2 q
  cases y with
  | non =>
    refine ⟨rfl, ?_⟩
    rw [vW_non]
    exact rd_ok (w := .bl (decide (x = .non))) q R trivial
  | _ => exact q.elim
theorem s_notN : BinS X Ga gNotN (fun x y H Q => y = .non ∧ Q (.bl (!decide (x = .non))) H) := by
  intro Wd ph h H sg x y Q R w1 w2 q
  cases y with
  | non =>
    refine ⟨rfl, ?_⟩
    rw [vW_non]
    exact rd_ok (w := .bl (!decide (x = .non))) q R trivial
  | _ => exact q.elim
theorem e_isN (ha : PE X a (tE X.K Ga pin Wd ma)) (hb : PE X b (tE X.K Ga pin Wd mb)) : PE X (.Compare a [.Is] [b] pos) (tE X.K Ga pin Wd (eBin gIsN ma mb)) := e_cmp op_isN s_isN ha hb (nomark _)
theorem e_notN (ha : PE X a (tE X.K Ga pin Wd ma)) (hb : PE X b (tE X.K Ga pin Wd mb)) : PE X (.Compare a [.IsNot] [b] pos) (tE X.K Ga pin Wd (eBin gNotN ma mb)) := e_cmp op_notN s_notN ha hb (nomark _)
/-! ### subscripts -/
theorem ixOf_eq {n : Nat} {i : Int} : ixOf n i = ixN n i := rfl
theorem s_ix : BinS X Ga gIx (rIx X.K) := by
  intro Wd ph h H sg x y Q R w1 w2 q
  cases x with
  | ref n => cases y with
    | int i =>
      simp only [gIx] at q
      cases e1 : seqAt h n with
      | none => rw [e1] at q; exact q.elim
      | some xs =>
        rw [e1] at q
        simp only [] at q
        obtain ⟨z, zw⟩ := seqAt_ok R e1
        cases e2 : (ixOf xs.length i).bind fun j => xs[j]? with
        | none => rw [e2] at q; exact q.elim
        | some w =>
          rw [e2] at q
          simp only [] at q
          have ha : atI (xs.map (vW ph)) i = some (vW ph w) := by
            unfold atI
            rw [List.length_map, ← ixOf_eq]
            cases e3 : ixOf xs.length i with
            | none => rw [e3] at e2; cases e2
            | some j =>
              rw [e3] at e2
              have e2' : xs[j]? = some w := e2
              show (xs.map (vW ph))[j]? = _
              rw [List.getElem?_map, e2'] <;> rfl
          have hw : wf h.length w := by
            cases e3 : ixOf xs.length i with
            | none => rw [e3] at e2; cases e2
            | some j =>
              rw [e3] at e2
              exact zw w (List.mem_of_getElem? (show xs[j]? = some w from e2))
          have q' := rd_ok q R hw
          rcases z with z | z
          · exact .inl ⟨ph n, _, i, _, rfl, rfl, z, ha, q'⟩
          · exact .inr (.inl ⟨ph n, _, i, _, rfl, rfl, z, ha, q'⟩)
    | _ => exact q.elim
  | _ => exact q.elim
theorem e_sub_ (ha : PE X a (tE X.K Ga pin Wd ma)) (hb : PE X b (tE X.K Ga pin Wd mb)) (hs : PlainIx b) : PE X (.Subscript a b pos) (tE X.K Ga pin Wd (eBin gIx ma mb)) := e_ix ix_seq s_ix ha hb hs
/-! ### one-place -/
theorem e_un {op : UnaryOp} {g : Mini.W → MH → Mini.R Mini.W} {r : V → Hp → VK → Prop} (ho : UnR X (unaryOp op) r)
    (hg : ∀ (ph : Nat → Addr) (h : MH) (H : Hp) (sg : L2.St) (x : Mini.W) (Q : VK), HR X.K Ga ph h H → wf h.length x → rd X.K Ga Wd relW ph h sg (g x h) Q → r (vW ph x) H Q) (ha : PE X a (tE X.K Ga pin Wd ma)) :
    PE X (.UnaryOp op a pos) (tE X.K Ga pin Wd (eUn g ma)) :=
  PE.imp (pe_un ho ha) fun sg H Q ⟨ph, h, r, s, x⟩ => ⟨ph, h, r, s, x.bind fun u h1 _ ph1 H1 b1 g1 R1 ⟨eb1, w1⟩ x1 => by
    rw [eb1]
    exact hg ph1 h1 H1 sg u Q R1 w1 x1⟩
theorem e_neg (ha : PE X a (tE X.K Ga pin Wd ma)) : PE X (.UnaryOp .USub a pos) (tE X.K Ga pin Wd (eUn gNeg ma)) := e_un un_neg (fun ph h H sg x Q R w q => by
  cases x with
  | int i => exact ⟨i, rfl, rd_ok q R trivial⟩
  | _ => exact q.elim) ha
/-! ### arguments, displays -/
theorem a_nil : PA X [] (tA X.K Ga pin Wd aNil) := PA.imp pa_nil fun sg H Q ⟨ph, h, r, s, x⟩ => rd_okA (ws := []) x s.hr (fun _ hx => nomatch hx)
theorem a_cons {me : Mini.E} {ms : Mini.A} (he : PE X e (tE X.K Ga pin Wd me)) (hr : PA X es (tA X.K Ga pin Wd ms)) (hs : starEach (e :: es) X.env = (false, eval e X.env) :: starEach es X.env := by rfl) : PA X (e :: es) (tA X.K Ga pin Wd (aCons me ms)) := by
  refine PA.imp (pa_cons he hr hs) fun sg H Q ⟨ph, h, r, s, x⟩ => ?_
  refine ⟨ph, h, r, s, x.bind fun u h1 _ ph1 H1 b1 g1 R1 ⟨eb1, w1⟩ x1 => ?_⟩
  refine ⟨ph1, h1, r, s.grow g1 R1, x1.bind fun us h2 _ ph2 H2 b2 g2 R2 ⟨eb2, w2⟩ x2 => ?_⟩
  rw [eb1, eb2, ← g2.v w1]
  refine rd_okA (ws := u :: us) x2 R2 fun w hw => ?_
  rcases List.mem_cons.mp hw with hw | hw
  · rw [hw]; exact w1.mono g2.le
  · exact w2 w hw
theorem m_line3 {n : Nat} (q : n ≤ 1000) : n ≤ sizeLine := m_line6 (Nat.le_trans q (by decide))
theorem e_tup {x1 : Nat} {ms : Mini.A} (hes : PA X es (tA X.K Ga pin Wd ms)) : PE X (.Tuple es x1 pos) (tE X.K Ga pin Wd (eTup ms)) := by
  refine PE.imp (pe_tup hes) fun sg H Q ⟨ph, h, r, s, x⟩ => ?_
  refine ⟨ph, h, r, s, x.bind fun us h1 _ ph1 H1 b1 g1 R1 ⟨eb1, w1⟩ x1 => ?_⟩
  by_cases c : us.length ≤ 1000
  · rw [if_pos c] at x1
    rw [eb1]
    exact ⟨by rw [List.length_map]; exact m_line3 c, fun p hp => rd_new (o := fun _ => .tup (us.map (vW ph1))) x1 R1 hp (at_tup w1)⟩
  · rw [if_neg c] at x1
    exact x1.elim
theorem e_lst {ms : Mini.A} (hes : PA X es (tA X.K Ga pin Wd ms)) : PE X (.List es pos) (tE X.K Ga pin Wd (eLst ms)) := by
  refine PE.imp (pe_lst hes) fun sg H Q ⟨ph, h, r, s, x⟩ => ?_
  refine ⟨ph, h, r, s, x.bind fun us h1 _ ph1 H1 b1 g1 R1 ⟨eb1, w1⟩ x1 => ?_⟩
  by_cases c : us.length ≤ 1000
  · rw [if_pos c] at x1
    rw [eb1]
    exact ⟨by rw [List.length_map]; exact m_line3 c, fun p hp => rd_new (o := fun _ => .lst (us.map (vW ph1))) x1 R1 hp (at_lst w1)⟩
  · rw [if_neg c] at x1
    exact x1.elim
theorem e_dic0 : PE X (.Dict [] [] pos) (tE X.K Ga pin Wd eDic0) := PE.imp pe_dnewK fun sg H Q ⟨ph, h, r, s, x⟩ p hp =>
  rd_new (o := fun _ => .dK []) x s.hr hp ⟨upd_same, fun _ hx => nomatch hx⟩
end
end Br
set_option Elab.async false
set_option autoImplicit false
set_option linter.all false
set_option maxRecDepth 100000
set_option maxHeartbeats 1100000
namespace Br
open PySem PySem.Spec PyProof.Rows L2 Mini
section
variable {X : Cx} {Ga : Nat → Addr} {pin : Pin} {Wd : WX} {ph : Nat → Addr} {h : MH} {r : Mini.Env} {sg : L2.St} {H : Hp} {a b c e : Expr} {es rest : List Expr} {pos : Pos} {ma mb mc m : Mini.E} {ta tb : Mini.T} {ms : Mini.A}
/-! ### tests -/
theorem isEmptyV {xs : List Mini.W} : (xs.map (vW ph)).isEmpty = xs.isEmpty := by cases xs <;> rfl
theorem isEmptyK {xs : List (Sum Int Str × Mini.W)} : (kvV ph xs).isEmpty = xs.isEmpty := by cases xs <;> rfl
theorem tru_is {K : PySem.W.Frag} {w : Mini.W} {k : Bool} (R : HR K Ga ph h H) (e : tru w h = some k) : TruV K (vW ph w) H k := by
  cases w with
  | non => cases e; rfl
  | bl b => cases e; rfl
  | int i => cases e; rfl
  | str s =>
    simp only [tru] at e
    by_cases c : s.length ≤ 1000000
    · rw [if_pos c] at e
      cases e
      refine ⟨m_line6 c, ?_⟩
      rw [Bool.eq_iff_iff, bne_iff_ne, bne_iff_ne]
      omega
    · rw [if_neg c] at e
      cases e
  | ref n =>
    simp only [tru] at e
    cases e1 : h[n]? with
    | none => rw [e1] at e; cases e
    | some cl =>
      have q := R.cells n cl e1
      rw [e1] at e
      cases cl with
      | lst xs => cases e; exact .inl ⟨_, .inl (.inl q.1), by rw [isEmptyV]⟩
      | fz xs => cases e; obtain ⟨⟨o, q1⟩, _⟩ := q; exact .inl ⟨_, .inl (.inr ⟨o, q1⟩), by rw [isEmptyV]⟩
      | cl xs => cases e; exact .inl ⟨_, .inr q.1, by rw [isEmptyV]⟩
      | tup xs => cases e; exact .inr (.inl ⟨_, .inl (.inl q.1), by rw [isEmptyV]⟩)
      | ct xs => cases e; exact .inr (.inl ⟨_, .inr q.1, by rw [isEmptyV]⟩)
      | dic kvs => cases e; exact .inr (.inr ⟨_, q.1, by rw [isEmptyK]⟩)
      | _ => cases e
theorem t_tru (ha : PE X a (tE X.K Ga pin Wd ma)) (he : ∀ whole, isTrue a X.env whole = (do let v ← whole; standAt a.pos; holding [v] (truthy v))) : PT X a (tT X.K Ga pin Wd (tTru ma)) := by
  refine PT.imp (pt_truth ha he) fun sg H Q ⟨ph, h, r, s, x⟩ => ?_
  refine ⟨ph, h, r, s, x.bind fun u h1 _ ph1 H1 b1 g1 R1 ⟨eb1, w1⟩ x1 => ?_⟩
  cases e1 : tru u h1 with
  | none => rw [e1] at x1; exact x1.elim
  | some k =>
    rw [e1] at x1
    rw [eb1]
    exact ⟨k, tru_is R1 e1, rd_okB x1 R1⟩
theorem t_bl (ha : PE X a (tE X.K Ga pin Wd ma)) (he : ∀ whole, isTrue a X.env whole = (do let v ← whole; standAt a.pos; holding [v] (truthy v)) := by intro _; rfl) : PT X a (tT X.K Ga pin Wd (tBl ma)) := by
  refine PT.imp (pt_val ha he) fun sg H Q ⟨ph, h, r, s, x⟩ => ?_
  refine ⟨ph, h, r, s, x.bind fun u h1 _ ph1 H1 b1 g1 R1 ⟨eb1, w1⟩ x1 => ?_⟩
  cases u with
  | bl k => exact ⟨k, eb1, rd_okB x1 R1⟩
  | _ => exact x1.elim
theorem t_cmp {op : CmpOp} {g : Mini.W → Mini.W → MH → Mini.R Mini.W} {rr : R2} (ho : OpR X (compareOp op) rr) (hg : BinS X Ga g rr) (ha : PE X a (tE X.K Ga pin Wd ma)) (hb : PE X b (tE X.K Ga pin Wd mb)) (hm : behindInMarks op b = false) :
    PT X (.Compare a [op] [b] pos) (tT X.K Ga pin Wd (tBl (eBin g ma mb))) := by
  refine PT.imp (pt_cmpR ho ha hb hm) fun sg H Q ⟨ph, h, r, s, x⟩ => ?_
  have y : tE X.K Ga pin Wd (eBin g ma mb) sg H fun v H' => ∃ k, v = .bl k ∧ Q k H' := ⟨ph, h, r, s, x.bind fun u h1 _ ph1 H1 b1 g1 R1 ⟨eb1, w1⟩ x1 => by
    cases u with
    | bl k => exact ⟨k, eb1, rd_okB x1 R1⟩
    | _ => exact x1.elim⟩
  exact two_of y fun ph h H u v R w1 w2 x2 => hg Wd ph h H sg u v _ R w1 w2 x2
theorem w_and1 (ha : PT X a (tT X.K Ga pin Wd ta)) : PW X (.BoolOp .And [a] pos) (tT X.K Ga pin Wd ta) := pw_and1 ha
theorem w_or1 (ha : PT X a (tT X.K Ga pin Wd ta)) : PW X (.BoolOp .Or [a] pos) (tT X.K Ga pin Wd ta) := pw_or1 ha
theorem w_and (ha : PT X a (tT X.K Ga pin Wd ta)) (hb : PW X (.BoolOp .And (b :: rest) pos) (tT X.K Ga pin Wd tb)) : PW X (.BoolOp .And (a :: b :: rest) pos) (tT X.K Ga pin Wd (Mini.tAnd ta tb)) := by
  refine PW.imp (pw_and ha hb) fun sg H Q ⟨ph, h, r, s, x⟩ => ?_
  refine ⟨ph, h, r, s, x.bind fun k h1 _ ph1 H1 b1 g1 R1 eb1 x1 => ?_⟩
  cases k with
  | true =>
    rw [show b1 = true from eb1, if_pos rfl]
    exact ⟨ph1, h1, r, s.grow g1 R1, x1⟩
  | false =>
    rw [show b1 = false from eb1, if_neg Bool.false_ne_true]
    exact rd_okB x1 R1
theorem w_or (ha : PT X a (tT X.K Ga pin Wd ta)) (hb : PW X (.BoolOp .Or (b :: rest) pos) (tT X.K Ga pin Wd tb)) : PW X (.BoolOp .Or (a :: b :: rest) pos) (tT X.K Ga pin Wd (Mini.tOr ta tb)) := by
  refine PW.imp (pw_or ha hb) fun sg H Q ⟨ph, h, r, s, x⟩ => ?_
  refine ⟨ph, h, r, s, x.bind fun k h1 _ ph1 H1 b1 g1 R1 eb1 x1 => ?_⟩
  cases k with
  | true =>
    rw [show b1 = true from eb1, if_pos rfl]
    exact rd_okB x1 R1
  | false =>
    rw [show b1 = false from eb1, if_neg Bool.false_ne_true]
    exact ⟨ph1, h1, r, s.grow g1 R1, x1⟩
theorem t_not (ha : PT X a (tT X.K Ga pin Wd ta)) : PT X (.UnaryOp .Not a pos) (tT X.K Ga pin Wd (Mini.tNot ta)) := by
  refine PT.imp (pt_not ha) fun sg H Q ⟨ph, h, r, s, x⟩ => ?_
  refine ⟨ph, h, r, s, x.bind fun k h1 _ ph1 H1 b1 g1 R1 eb1 x1 => ?_⟩
  rw [show b1 = k from eb1]
  exact rd_okB x1 R1
theorem e_if (hc : PT X c (tT X.K Ga pin Wd ta)) (ha : PE X a (tE X.K Ga pin Wd ma)) (hb : PE X b (tE X.K Ga pin Wd mb)) : PE X (.IfExp c a b pos) (tE X.K Ga pin Wd (eIf ta ma mb)) := by
  refine PE.imp (pe_ifExp hc ha hb) fun sg H Q ⟨ph, h, r, s, x⟩ => ?_
  refine ⟨ph, h, r, s, x.bind fun k h1 _ ph1 H1 b1 g1 R1 eb1 x1 => ?_⟩
  cases k with
  | true =>
    rw [show b1 = true from eb1, if_pos rfl]
    exact ⟨ph1, h1, r, s.grow g1 R1, x1⟩
  | false =>
    rw [show b1 = false from eb1, if_neg Bool.false_ne_true]
    exact ⟨ph1, h1, r, s.grow g1 R1, x1⟩
theorem e_one {op : BoolOp} (ha : PE X a (tE X.K Ga pin Wd ma)) : PE X (.BoolOp op [a] pos) (tE X.K Ga pin Wd ma) := pe_one ha
theorem e_and (ha : PE X a (tE X.K Ga pin Wd ma)) (hb : PE X (.BoolOp .And (b :: rest) pos) (tE X.K Ga pin Wd mb)) : PE X (.BoolOp .And (a :: b :: rest) pos) (tE X.K Ga pin Wd (eAnd ma mb)) := by
  refine PE.imp (pe_and ha hb) fun sg H Q ⟨ph, h, r, s, x⟩ => ?_
  refine ⟨ph, h, r, s, x.bind fun u h1 _ ph1 H1 b1 g1 R1 ⟨eb1, w1⟩ x1 => ?_⟩
  cases u with
  | bl k =>
    refine ⟨k, eb1, ?_⟩
    cases k with
    | true =>
      rw [if_pos rfl]
      exact ⟨ph1, h1, r, s.grow g1 R1, x1⟩
    | false =>
      rw [if_neg (fun z => nomatch z)]
      exact rd_ok (w := .bl false) x1 R1 trivial
  | _ => exact x1.elim
theorem e_or (ha : PE X a (tE X.K Ga pin Wd ma)) (hb : PE X (.BoolOp .Or (b :: rest) pos) (tE X.K Ga pin Wd mb)) : PE X (.BoolOp .Or (a :: b :: rest) pos) (tE X.K Ga pin Wd (eOr ma mb)) := by
  refine PE.imp (pe_or ha hb) fun sg H Q ⟨ph, h, r, s, x⟩ => ?_
  refine ⟨ph, h, r, s, x.bind fun u h1 _ ph1 H1 b1 g1 R1 ⟨eb1, w1⟩ x1 => ?_⟩
  cases u with
  | bl k =>
    refine ⟨k, eb1, ?_⟩
    cases k with
    | true =>
      rw [if_pos rfl]
      exact rd_ok (w := .bl true) x1 R1 trivial
    | false =>
      rw [if_neg (fun z => nomatch z)]
      exact ⟨ph1, h1, r, s.grow g1 R1, x1⟩
  | _ => exact x1.elim
theorem e_not (ha : PE X a (tE X.K Ga pin Wd ma)) : PE X (.UnaryOp .Not a pos) (tE X.K Ga pin Wd (eNot ma)) := by
  refine PE.imp (pe_not ha) fun sg H Q ⟨ph, h, r, s, x⟩ => ?_
  refine ⟨ph, h, r, s, x.bind fun u h1 _ ph1 H1 b1 g1 R1 ⟨eb1, w1⟩ x1 => ?_⟩
  cases u with
  | bl k => exact ⟨k, eb1, rd_ok (w := .bl (!k)) x1 R1 trivial⟩
  | _ => exact x1.elim
/-- a OP b OP' c -/
theorem chain_of {g g' : Mini.W → Mini.W → MH → Mini.R Mini.W} {rr rr' : R2} (hg : BinS X Ga g rr) (hg' : BinS X Ga g' rr') (sg : L2.St) (H : Hp) (Q : VK) (x : tE X.K Ga pin Wd (eChain g g' ma mb mc) sg H Q) :
    tChain rr rr' (tE X.K Ga pin Wd ma) (tE X.K Ga pin Wd mb) (tE X.K Ga pin Wd mc) sg H Q := by
  obtain ⟨ph, h, r, s, x⟩ := x
  refine ⟨ph, h, r, s, x.bind fun u h1 e1 ph1 H1 b1 g1 R1 ⟨eb1, w1⟩ x1 => ?_⟩
  refine ⟨ph1, h1, r, s.grow g1 R1, x1.bind fun v h2 e2 ph2 H2 b2 g2 R2 ⟨eb2, w2⟩ x2 => ?_⟩
  rw [eb1, eb2, ← g2.v w1]
  refine hg Wd ph2 h2 H2 sg u v _ R2 (w1.mono g2.le) w2 (x2.bind fun z h3 e3 ph3 H3 b3 g3 R3 ⟨eb3, w3⟩ x3 => ?_)
  cases z with
  | bl k =>
    refine ⟨k, eb3, ?_⟩
    cases k with
    | true =>
      rw [if_pos rfl]
      refine ⟨ph3, h3, r, (s.grow g1 R1).grow (g2.trans g3) R3, x3.bind fun t h4 e4 ph4 H4 b4 g4 R4 ⟨eb4, w4⟩ x4 => ?_⟩
      rw [eb4, ← g3.v w2, ← g4.v (w2.mono g3.le)]
      exact hg' Wd ph4 h4 H4 sg v t Q R4 ((w2.mono g3.le).mono g4.le) w4 x4
    | false =>
      rw [if_neg (fun z => nomatch z)]
      exact rd_ok (w := .bl false) x3 R3 trivial
  | _ => exact x3.elim
theorem e_chain {op op' : CmpOp} {g g' : Mini.W → Mini.W → MH → Mini.R Mini.W} {rr rr' : R2} (ho : OpR X (compareOp op) rr) (hg : BinS X Ga g rr) (ho' : OpR X (compareOp op') rr') (hg' : BinS X Ga g' rr')
    (ha : PE X a (tE X.K Ga pin Wd ma)) (hb : PE X b (tE X.K Ga pin Wd mb)) (hc : PE X c (tE X.K Ga pin Wd mc)) (hm : lastMarks [op, op'] [b, c] = false := by with_unfolding_all rfl) :
    PE X (.Compare a [op, op'] [b, c] pos) (tE X.K Ga pin Wd (eChain g g' ma mb mc)) := PE.imp (pe_chain ho ho' ha hb hc hm) (chain_of hg hg')
theorem t_chain {op op' : CmpOp} {g g' : Mini.W → Mini.W → MH → Mini.R Mini.W} {rr rr' : R2} (ho : OpR X (compareOp op) rr) (hg : BinS X Ga g rr) (ho' : OpR X (compareOp op') rr') (hg' : BinS X Ga g' rr')
    (ha : PE X a (tE X.K Ga pin Wd ma)) (hb : PE X b (tE X.K Ga pin Wd mb)) (hc : PE X c (tE X.K Ga pin Wd mc)) (hm : lastMarks [op, op'] [b, c] = false := by with_unfolding_all rfl) :
    PT X (.Compare a [op, op'] [b, c] pos) (tT X.K Ga pin Wd (tBl (eChain g g' ma mb mc))) := by
  refine PT.imp (pt_chain ho ho' ha hb hc hm) fun sg H Q ⟨ph, h, r, s, x⟩ => ?_
  exact chain_of hg hg' sg H _ ⟨ph, h, r, s, x.bind fun u h1 _ ph1 H1 b1 g1 R1 ⟨eb1, w1⟩ x1 => by
    cases u with
    | bl k => exact ⟨k, eb1, rd_okB x1 R1⟩
    | _ => exact x1.elim⟩
/-! ### built-in functions -/
def FnS (X : Cx) (Ga : Nat → Addr) (g : List Mini.W → MH → Mini.R Mini.W) (rr : List V → Hp → VK → Prop) : Prop :=
  ∀ (Wd : WX) (ph : Nat → Addr) (h : MH) (H : Hp) (sg : L2.St) (xs : List Mini.W) (Q : VK), HR X.K Ga ph h H → (∀ x ∈ xs, wf h.length x) → rd X.K Ga Wd relW ph h sg (g xs h) Q → rr (xs.map (vW ph)) H Q
theorem fn_of_ {g : List Mini.W → MH → Mini.R Mini.W} {rr : List V → Hp → VK → Prop} (hg : FnS X Ga g rr) (sg : L2.St) (H : Hp) (Q : VK) (x : tE X.K Ga pin Wd (eFn g ms) sg H Q) : tA X.K Ga pin Wd ms sg H fun vs H1 => rr vs H1 Q := by
  obtain ⟨ph, h, r, s, x⟩ := x
  refine ⟨ph, h, r, s, x.bind fun us h1 _ ph1 H1 b1 g1 R1 ⟨eb1, w1⟩ x1 => ?_⟩
  rw [eb1]
  exact hg Wd ph1 h1 H1 sg us Q R1 w1 x1
theorem e_fnB {x : Str} {id : String} {p : Pos} {g : List Mini.W → MH → Mini.R Mini.W} {rr : List V → Hp → VK → Prop} (hc : CallR X (.builtin id) rr) (hg : FnS X Ga g rr) (hgl : Gl X x) (hm : X.mg x = none) (hv : bootBuiltins x = some (.builtin id)) (ha : PA X (e :: es) (tA X.K Ga pin Wd ms))
    (hn : x ≠ "__name__" := by decide) (hdb : (x == ("__debug__" : Str)) = false := by decide) (he : starEach (e :: es) X.env = (false, eval e X.env) :: starEach es X.env := by rfl) (hpl : (backTo pos (starEach es X.env)).any (·.1) = false := by rfl) :
    PE X (.Call (.Name x p) (e :: es) [] pos) (tE X.K Ga pin Wd (eFn g ms)) := PE.imp (pe_callB hc hgl hm hv ha hn hdb he hpl) (fn_of_ hg)
theorem e_fnT {x : Str} {ty : String} {p : Pos} {g : List Mini.W → MH → Mini.R Mini.W} {rr : List V → Hp → VK → Prop} (hc : CallR X (.type ty) rr) (hg : FnS X Ga g rr) (hgl : Gl X x) (hm : X.mg x = none) (hv : bootBuiltins x = some (.type ty)) (ha : PA X (e :: es) (tA X.K Ga pin Wd ms))
    (hn : x ≠ "__name__" := by decide) (hdb : (x == ("__debug__" : Str)) = false := by decide) (he : starEach (e :: es) X.env = (false, eval e X.env) :: starEach es X.env := by rfl) (hpl : (backTo pos (starEach es X.env)).any (·.1) = false := by rfl) :
    PE X (.Call (.Name x p) (e :: es) [] pos) (tE X.K Ga pin Wd (eFn g ms)) := PE.imp (pe_callTy hc hgl hm hv ha hn hdb he hpl) (fn_of_ hg)
theorem seq_len {K : PySem.W.Frag} {n : Nat} {xs : List Mini.W} (R : HR K Ga ph h H) (e : seqAt h n = some xs) : LenV K (.ref (ph n)) H xs.length := by
  rcases (seqAt_ok R e).1 with z | z
  · exact .inl ⟨_, z, by rw [List.length_map]⟩
  · exact .inr ⟨_, z, by rw [List.length_map]⟩
theorem f_len : FnS X Ga fLen (fun xs H Q => ∃ x n, xs = [x] ∧ LenV X.K x H n ∧ Q (.int n) H) := by
  intro Wd ph h H sg xs Q R wx q
  cases xs with
  | nil => exact q.elim
  | cons x r =>
    cases r with
    | cons y r => cases x <;> exact q.elim
    | nil =>
      cases x with
      | ref n =>
        simp only [fLen] at q
        cases e1 : seqAt h n with
        | none => rw [e1] at q; exact q.elim
        | some ys =>
          rw [e1] at q
          exact ⟨_, _, rfl, seq_len R e1, rd_ok (w := .int (ys.length : Nat)) q R trivial⟩
      | str s =>
        simp only [fLen] at q
        by_cases c : s.length ≤ 1000000
        · rw [if_pos c] at q
          exact ⟨_, _, rfl, ⟨m_line6 c, rfl⟩, rd_ok (w := .int (s.length : Nat)) q R trivial⟩
        · rw [if_neg c] at q
          exact q.elim
      | _ => exact q.elim
theorem f_abs : FnS X Ga fAbs (fun xs H Q => ∃ i, xs = [.int i] ∧ Q (.int (if i < 0 then -i else i)) H) := by
  intro Wd ph h H sg xs Q R wx q
  cases xs with
  | nil => exact q.elim
  | cons x r => cases r with
    | cons y r => cases x <;> exact q.elim
    | nil => cases x with
      | int i => exact ⟨i, rfl, rd_ok (w := .int (if i < 0 then -i else i)) q R trivial⟩
      | _ => exact q.elim
theorem f_int : FnS X Ga fInt (fun xs H Q => (∃ i, xs = [.int i] ∧ Q (.int i) H) ∨ ∃ k, xs = [.bl k] ∧ Q (.int (if k then 1 else 0)) H) := by
  intro Wd ph h H sg xs Q R wx q
  cases xs with
  | nil => exact q.elim
  | cons x r => cases r with
    | cons y r => cases x <;> exact q.elim
    | nil => cases x with
      | int i => exact .inl ⟨i, rfl, rd_ok (w := .int i) q R trivial⟩
      | _ => exact q.elim
theorem f_max2 : FnS X Ga fMax2 (fun xs H Q => ∃ i j, xs = [.int i, .int j] ∧ Q (.int (if j > i then j else i)) H) := by
  intro Wd ph h H sg xs Q R wx q
  match xs, q with
  | [.int i, .int j], q => exact ⟨i, j, rfl, rd_ok (w := .int (if j > i then j else i)) q R trivial⟩
theorem f_min2 : FnS X Ga fMin2 (fun xs H Q => ∃ i j, xs = [.int i, .int j] ∧ Q (.int (if j < i then j else i)) H) := by
  intro Wd ph h H sg xs Q R wx q
  match xs, q with
  | [.int i, .int j], q => exact ⟨i, j, rfl, rd_ok (w := .int (if j < i then j else i)) q R trivial⟩
theorem intsOf_ok : ∀ {xs : List Mini.W} {ns : List Int}, intsOf xs = some ns → xs = ns.map .int
  | [], ns, e => by cases e; rfl
  | .int i :: r, ns, e => by
    simp only [intsOf] at e
    cases e1 : intsOf r with
    | none => rw [e1] at e; cases e
    | some ms => rw [e1] at e; cases e; rw [intsOf_ok e1]; rfl
  | .non :: _, _, e => nomatch e
  | .bl _ :: _, _, e => nomatch e
  | .str _ :: _, _, e => nomatch e
  | .ref _ :: _, _, e => nomatch e
theorem map_int {ns : List Int} : (ns.map Mini.W.int).map (vW ph) = ns.map V.int := by rw [List.map_map]; rfl
theorem f_sum : FnS X Ga fSum (rSum X.K) := by
  intro Wd ph h H sg xs Q R wx q
  match xs, q with
  | [.ref a], q =>
    simp only [fSum] at q
    cases e1 : h[a]? with
    | none => rw [e1] at q; exact q.elim
    | some cl =>
      cases cl with
      | lst ys =>
        rw [e1] at q
        simp only [] at q
        cases e2 : intsOf ys with
        | none => rw [e2] at q; exact q.elim
        | some ns =>
          rw [e2] at q
          refine ⟨ph a, ns, rfl, ?_, rd_ok (w := .int ns.sum) q R trivial⟩
          have z := (R.cells a _ e1).1
          rw [intsOf_ok e2, map_int] at z
          exact .inl (.inl z)
      | _ => rw [e1] at q; exact q.elim
theorem f_list : FnS X Ga fList (fun xs H Q => ∃ p ys, xs = [.ref p] ∧ (SqL X.K H p ys ∨ SqT X.K H p ys) ∧ ∀ l, H l = none → Q (.ref l) (upd H l (.lst ys))) := by
  intro Wd ph h H sg xs Q R wx q
  match xs, q with
  | [.ref a], q =>
    simp only [fList] at q
    cases e1 : seqAt h a with
    | none => rw [e1] at q; exact q.elim
    | some ys =>
      rw [e1] at q
      obtain ⟨z1, z2⟩ := seqAt_ok R e1
      exact ⟨ph a, _, rfl, z1, fun l hl => rd_new (o := fun _ => .lst (ys.map (vW ph))) q R hl (at_lst z2)⟩
/-! ### isinstance of built-in classes -/
def kindName : Option Mini.Ty → String
  | none => "NoneType"
  | some t => tyName t
theorem kit_kind {K : PySem.W.Frag} (k : Option Mini.Ty) (t : Mini.Ty) : PySem.W.kitOne K (.type (kindName k)) (.type (tyName t)) = some (Mini.isTy k t) := by
  refine kit_ty ?_
  cases k with
  | none => cases t <;> decide +kernel
  | some u => cases u <;> cases t <;> decide +kernel
theorem kit_ins {K : PySem.W.Frag} {C : Addr} {ty : Mini.Ty} {b : Bool} (h : PySem.W.subIn K (.ref C) (.type (tyName ty)) = some b) : PySem.W.kitOne K (.ref C) (.type (tyName ty)) = some b := by
  have m : PySem.W.kitMeta (tyName ty) = true := by cases ty <;> decide +kernel
  unfold PySem.W.kitOne PySem.W.kitCls
  have n : ¬ (Value.ref C == Value.type (tyName ty)) = true := fun z => by have := beq_iff_eq.mp z; cases this
  rw [if_neg n]
  show (if PySem.W.kitMeta (tyName ty) = true then PySem.W.subIn K (.ref C) (.type (tyName ty)) else none) = some b
  rw [if_pos m]
  exact h
theorem xd_there {K : PySem.W.Frag} {d : Option Nat} (R : HR K Ga ph h H) (e : Mini.xdAt h d = true) : ∀ dd, d.map ph = some dd → ∃ fs, H dd = some (.xd fs) := by
  intro dd hd
  cases d with
  | none => cases hd
  | some k =>
    cases hd
    simp only [Mini.xdAt] at e
    cases e1 : h[k]? with
    | none => rw [e1] at e; cases e
    | some cl =>
      rw [e1] at e
      cases cl with
      | xd fs => exact ⟨_, (R.cells k _ e1).1⟩
      | _ => cases e
theorem tyx_of {K : PySem.W.Frag} {w : Mini.W} (R : HR K Ga ph h H) (e : known w h = true) : ∃ t, TyE K H (vW ph w) t ∧ ∀ ty : Mini.Ty, PySem.W.kitOne K t (.type (tyName ty)) = some (Mini.isTy (Mini.kindOf w h) ty) := by
  cases w with
  | non => exact ⟨_, .base (.base .non), kit_kind none⟩
  | bl b => exact ⟨_, .base (.base (.bl b)), kit_kind (some .tBool)⟩
  | int i => exact ⟨_, .base (.base (.int i)), kit_kind (some .tInt)⟩
  | str s => exact ⟨_, .base (.base (.str s)), kit_kind (some .tStr)⟩
  | ref n =>
    simp only [known] at e
    simp only [Mini.kindOf]
    cases e1 : h[n]? with
    | none => rw [e1] at e; cases e
    | some cl =>
      have q := R.cells n cl e1
      rw [e1] at e
      cases cl with
      | lst xs => exact ⟨_, .base (.base (.lst q.1)), kit_kind (some .tList)⟩
      | fz xs => obtain ⟨⟨o, q1⟩, _⟩ := q; exact ⟨_, .base (.base (.frz q1)), kit_kind (some .tList)⟩
      | cl xs => obtain ⟨⟨o, its, m, e1, e2, _⟩, _⟩ := q; exact ⟨_, .base (.kList e1 e2), kit_kind (some .tList)⟩
      | tup xs => exact ⟨_, .base (.base (.tup q.1)), kit_kind (some .tTuple)⟩
      | ct xs => obtain ⟨⟨o, its, m, e1, e2, _⟩, _⟩ := q; exact ⟨_, .base (.kTuple e1 e2), kit_kind (some .tTuple)⟩
      | dic kvs => exact ⟨_, .base (.base (.dK q.1)), kit_kind (some .tDict)⟩
      | ins c fs =>
        obtain ⟨⟨dx, q1, cx⟩, _⟩ := q
        exact ⟨_, .base (.base (.ins q1 cx.cl cx.ha cx.hn cx.htk cx.hm)), fun ty => kit_ins (cx.sub ty)⟩
      | exo c d =>
        obtain ⟨⟨q1, cx⟩, _⟩ := q
        exact ⟨_, .exc q1 cx.ec (xd_there R e), fun ty => kit_ins (cx.sub ty)⟩
      | _ => cases e
/-- isinstance(x, T) -/
theorem e_isi {x T : Str} {ty : Mini.Ty} {p p2 : Pos} (hx : x = "isinstance") (hgl : Gl X x) (hm : X.mg x = none) (hgl2 : Gl X T) (hm2 : X.mg T = none) (hv2 : bootBuiltins T = some (.type (tyName ty))) (hn2 : T ≠ "__name__" := by decide) (hd2 : (T == ("__debug__" : Str)) = false := by decide)
    (ha : PE X a (tE X.K Ga pin Wd ma)) (he : starEach (a :: [.Name T p2]) X.env = (false, eval a X.env) :: starEach [.Name T p2] X.env := by rfl) (he2 : starEach (.Name T p2 :: []) X.env = (false, eval (.Name T p2) X.env) :: starEach [] X.env := by rfl) (hpl : (backTo pos (starEach [.Name T p2] X.env)).any (·.1) = false := by rfl) :
    PE X (.Call (.Name x p) [a, .Name T p2] [] pos) (tE X.K Ga pin Wd (eUn (gIsi ty) ma)) := by
  subst hx
  have ht : PE X (.Name T p2) (tC (.ty (tyName ty))) := pe_bltn hgl2 hm2 hv2 rfl hn2 hd2
  refine PE.imp (pe_callB call_isiE hgl hm (by decide +kernel) (pa_cons ha (pa_cons ht pa_nil he2) he) (by decide) (by decide) he hpl) fun sg H Q ⟨ph, h, r, s, x⟩ => ?_
  refine ⟨ph, h, r, s, x.bind fun u h1 _ ph1 H1 b1 g1 R1 ⟨eb1, w1⟩ x1 => ?_⟩
  unfold gIsi at x1
  by_cases k : known u h1 = true
  · rw [if_pos k] at x1
    rw [eb1]
    obtain ⟨t, tx, kt⟩ := tyx_of R1 k
    exact ⟨_, _, _, _, _, rfl, .ty _, tx, kt _, rd_ok (w := .bl _) x1 R1 trivial⟩
  · rw [if_neg k] at x1
    exact x1.elim
end
end Br
set_option Elab.async false
set_option autoImplicit false
set_option linter.all false
set_option maxRecDepth 100000
set_option maxHeartbeats 1100000
namespace Br
open PySem PySem.Spec PyProof.Rows L2 Mini
section
variable {X : Cx} {Ga : Nat → Addr} {pin : Pin} {Wd : WX} {ph : Nat → Addr} {h : MH} {r : Mini.Env} {sg : L2.St} {H : Hp} {a b c e tg iter : Expr} {es rest : List Expr} {pos : Pos} {ma mb mc m : Mini.E} {ta tb : Mini.T} {ms : Mini.A} {st : Stmt} {sts body orelse : List Stmt} {sa sb : Mini.S} {α β : Type}
theorem exc_of {K : PySem.W.Frag} {rel : (Nat → Addr) → Nat → α → β → Prop} {cl : Nat} {d : Option Nat} {h1 : MH} {D : Ends} {Q : β → Hp → Prop} (s : SR K Ga pin ph h r sg H) (x : rdS K Ga pin Wd ph h (.exc cl d r h1) D) : rd K Ga Wd rel ph h sg (.exc cl d h1) Q :=
  fun ph' H' g R z => x ph' sg H' g (s.grow g R) z
/-- an expression, and the statement that goes on with it -/
theorem st_of {K : PySem.W.Frag} {rel : (Nat → Addr) → Nat → α → β → Prop} {q : Mini.R α} {k : α → MH → RS} {D : Ends} {Q1 : β → Hp → Prop} (s : SR K Ga pin ph h r sg H)
    (x : rdS K Ga pin Wd ph h (match q with | .ok a h1 => k a h1 | .exc c d h1 => .exc c d r h1 | .bad => .bad) D)
    (hk : ∀ a h1 ph1 H1 b, Grow ph h ph1 h1 → SR K Ga pin ph1 h1 r sg H1 → rel ph1 h1.length a b → rdS K Ga pin Wd ph1 h1 (k a h1) D → Q1 b H1) : rd K Ga Wd rel ph h sg q Q1 := by
  cases q with
  | ok a h1 => exact fun ph' H' b g R rl => hk a h1 ph' H' b g (s.grow g R) rl (rdS.base g x)
  | exc c d h1 => exact exc_of s x
  | bad => exact x
theorem ss_nil : PSs X [] (tS X.K Ga pin Wd sNx) := PSs.imp pss_nil fun D sg H ⟨ph, h, r, s, x⟩ => x ph sg H (Grow.refl _ _) s
theorem rdS_seq {K : PySem.W.Frag} {q : RS} {k : Mini.Env → MH → RS} {D : Ends} {N : L2.St → Hp → Prop}
    (x : rdS K Ga pin Wd ph h (match q with | .ok .nx r1 h1 => k r1 h1 | z => z) D)
    (hk : ∀ r1 h1 ph1 sg1 H1, q = .ok .nx r1 h1 → Grow ph h ph1 h1 → SR K Ga pin ph1 h1 r1 sg1 H1 → rdS K Ga pin Wd ph1 h1 (k r1 h1) D → N sg1 H1) : rdS K Ga pin Wd ph h q { D with nx := N } := by
  cases q with
  | ok f r1 h1 =>
    cases f with
    | nx => exact fun ph' sg' H' g S => hk r1 h1 ph' sg' H' rfl g S (rdS.base g x)
    | rt w => exact x
    | bk => exact x
    | ct => exact x
  | exc c d r1 h1 => exact x
  | bad => exact x
theorem ss_cons (h1 : PS X st (tS X.K Ga pin Wd sa)) (h2 : PSs X sts (tS X.K Ga pin Wd sb)) : PSs X (st :: sts) (tS X.K Ga pin Wd (sSeq sa sb)) := by
  refine PSs.imp (pss_cons h1 h2) fun D sg H ⟨ph, h, r, s, x⟩ => ⟨ph, h, r, s, ?_⟩
  refine rdS_seq (k := sb) (D := D) ?_ fun r1 h1 ph1 sg1 H1 _ g S x1 => ⟨ph1, h1, r1, S, x1⟩
  unfold sSeq at x
  cases e : sa r h with
  | ok f r1 h1 => cases f <;> (rw [e] at x; exact x)
  | exc c d r1 h1 => rw [e] at x; exact x
  | bad => rw [e] at x; exact x
theorem ss_one (h1 : PS X st (tS X.K Ga pin Wd sa)) : PSs X [st] (tS X.K Ga pin Wd sa) := pss_one h1
theorem s_pass : PS X (.Pass pos) (tS X.K Ga pin Wd sNx) := PS.imp ps_pass fun D sg H ⟨ph, h, r, s, x⟩ => x ph sg H (Grow.refl _ _) s
theorem s_doc {x : Str} {j : Nat} {p p' : Pos} : PS X (.Expr (.Constant (.str x) j p) p') (tS X.K Ga pin Wd sNx) := PS.imp ps_doc fun D sg H ⟨ph, h, r, s, x⟩ => x ph sg H (Grow.refl _ _) s
theorem s_break : PS X (.Break pos) (tS X.K Ga pin Wd sBrk) := PS.imp ps_break fun D sg H ⟨ph, h, r, s, x⟩ => x ph sg H (Grow.refl _ _) s
theorem s_continue : PS X (.Continue pos) (tS X.K Ga pin Wd sCnt) := PS.imp ps_continue fun D sg H ⟨ph, h, r, s, x⟩ => x ph sg H (Grow.refl _ _) s
theorem s_expr (he : PE X e (tE X.K Ga pin Wd m)) (hs : swapsWith e none pos.line X.env = pure false := by rfl) : PS X (.Expr e pos) (tS X.K Ga pin Wd (sExpr m)) := by
  refine PS.imp (ps_expr he hs) fun D sg H ⟨ph, h, r, s, x⟩ => ⟨ph, h, r, s, ?_⟩
  refine st_of (k := fun _ h1 => .ok .nx r h1) (D := D) s ?_ fun w h1 ph1 H1 b g S rl x1 => x1 ph1 sg H1 (Grow.refl _ _) S
  unfold sExpr at x
  cases e : m r h <;> (rw [e] at x; exact x)
theorem s_ret (he : PE X e (tE X.K Ga pin Wd m)) : PS X (.Return (some e) pos) (tS X.K Ga pin Wd (sRet m)) := by
  refine PS.imp (ps_ret he) fun D sg H ⟨ph, h, r, s, x⟩ => ⟨ph, h, r, s, ?_⟩
  refine st_of (k := fun w h1 => .ok (.rt w) r h1) (D := D) s ?_ fun w h1 ph1 H1 b g S rl x1 => ?_
  · unfold sRet at x
    cases e : m r h <;> (rw [e] at x; exact x)
  · rw [rl.1]
    exact x1 ph1 H1 (Grow.refl _ _) S.hr rl.2
theorem s_retN : PS X (.Return none pos) (tS X.K Ga pin Wd (sRet (eC .non))) := PS.imp ps_retN fun D sg H ⟨ph, h, r, s, x⟩ => x ph H (Grow.refl _ _) s.hr trivial
theorem s_if (hc : PT X c (tT X.K Ga pin Wd ta)) (ha : PSs X body (tS X.K Ga pin Wd sa)) (hb : PSs X orelse (tS X.K Ga pin Wd sb)) : PS X (.If c body orelse pos) (tS X.K Ga pin Wd (Mini.sIf ta sa sb)) := by
  refine PS.imp (ps_if hc ha hb) fun D sg H ⟨ph, h, r, s, x⟩ => ⟨ph, h, r, s, ?_⟩
  refine st_of (k := fun c h1 => if c = true then sa r h1 else sb r h1) (D := D) s ?_ fun k h1 ph1 H1 b g S rl x1 => ?_
  · unfold Mini.sIf at x
    cases e : ta r h <;> (rw [e] at x; exact x)
  · rw [show b = k from rl]
    cases k with
    | true =>
      rw [if_pos rfl]
      exact ⟨ph1, h1, r, S, x1⟩
    | false =>
      rw [if_neg (fun z => nomatch z)]
      exact ⟨ph1, h1, r, S, x1⟩
/-! ### targets -/
/-- the slots is alone change -/
def Fr_ (is : List Nat) (sg sg' : L2.St) : Prop := sg'.length = sg.length ∧ ∀ j : Nat, j ∉ is → sg'[j]? = sg[j]?
def rdG (K : PySem.W.Frag) (Ga : Nat → Addr) (pin : Pin) (is : List Nat) (ph : Nat → Addr) (h : MH) (sg : L2.St) (q : Mini.R Mini.Env) (Q : L2.St → Hp → Prop) : Prop := match q with
  | .ok r1 h1 => ∀ ph' sg' H', Grow ph h ph' h1 → SR K Ga pin ph' h1 r1 sg' H' → Fr_ is sg sg' → Q sg' H'
  | _ => False
def TgS (X : Cx) (Ga : Nat → Addr) (pin : Pin) (is : List Nat) (g : Mini.G) (t : TG) : Prop := ∀ (ph : Nat → Addr) (h : MH) (r : Mini.Env) (sg : L2.St) (H : Hp) (w : Mini.W) (Q : L2.St → Hp → Prop), SR X.K Ga pin ph h r sg H → wf h.length w → rdG X.K Ga pin is ph h sg (g w r h) Q → t (vW ph w) sg H Q
def TgsS (X : Cx) (Ga : Nat → Addr) (pin : Pin) (is : List Nat) (gs : List Mini.G) (t : TGs) : Prop := ∀ (ph : Nat → Addr) (h : MH) (r : Mini.Env) (sg : L2.St) (H : Hp) (ws : List Mini.W) (Q : L2.St → Hp → Prop), SR X.K Ga pin ph h r sg H → (∀ w ∈ ws, wf h.length w) → rdG X.K Ga pin is ph h sg (gAll gs ws r h) Q → t (ws.map (vW ph)) sg H Q
/-- a target, what Mini does with it, the slots that it stores into -/
structure Tg (X : Cx) (Ga : Nat → Addr) (pin : Pin) (is : List Nat) (tg : Expr) (g : Mini.G) : Prop where
  ex : ∃ t : TG, PG X tg t ∧ TgS X Ga pin is g t
structure Tgs (X : Cx) (Ga : Nat → Addr) (pin : Pin) (is : List Nat) (tgs : List Expr) (gs : List Mini.G) : Prop where
  ex : ∃ t : TGs, PGs X tgs t ∧ TgsS X Ga pin is gs t
theorem Fr_.refl (is : List Nat) (sg : L2.St) : Fr_ is sg sg := ⟨rfl, fun _ _ => rfl⟩
theorem g_name {i : Nat} {x : Str} (hN : X.N.Nodup) (hi : X.N[i]? = some x) (hx : Loc X.env.scope x) (hl : pin.lets i) (hf : X.fn x = true ∨ X.env.scope.names.lookup x = some .local := by first | exact .inl rfl | exact .inr rfl | assumption) : Tg X Ga pin [i] (.Name x pos) (gSet i) :=
  ⟨gName i, pg_name hN hi hx hf, fun ph h r sg H w Q s hw q => q ph _ H (Grow.refl _ _) (s.put hw hl) ⟨List.length_set, fun j hj => List.getElem?_set_ne (fun z => hj (by rw [← z]; exact List.mem_cons_self))⟩⟩
theorem gs_nil : Tgs X Ga pin [] [] [] := ⟨gNil, pgs_nil, fun ph h r sg H ws Q s hw q => by
  cases ws with
  | nil => exact ⟨rfl, q ph sg H (Grow.refl _ _) s (Fr_.refl _ _)⟩
  | cons w ws => exact q.elim⟩
theorem gs_cons {is js : List Nat} {g : Mini.G} {gs : List Mini.G} (h1 : Tg X Ga pin is e g) (h2 : Tgs X Ga pin js es gs) (hs : (assignEach (e :: es) X.env).map (·.2) = assign e X.env :: (assignEach es X.env).map (·.2) := by rfl) : Tgs X Ga pin (is ++ js) (e :: es) (g :: gs) := by
  obtain ⟨t, p1, z1⟩ := h1.ex
  obtain ⟨ts, p2, z2⟩ := h2.ex
  refine ⟨gCons t ts, pgs_cons p1 p2 hs, fun ph h r sg H ws Q s hw q => ?_⟩
  cases ws with
  | nil => exact q.elim
  | cons w ws =>
    refine ⟨vW ph w, ws.map (vW ph), rfl, z1 ph h r sg H w _ s (hw w List.mem_cons_self) ?_⟩
    have q' : rdG X.K Ga pin (is ++ js) ph h sg ((g w r h).bind fun r1 h1 => gAll gs ws r1 h1) Q := q
    cases e : g w r h with
    | ok r1 h1 =>
      rw [e] at q'
      intro ph' sg' H' g' S' f'
      have hw' : ∀ x ∈ ws, wf h.length x := fun x hx => hw x (List.mem_cons_of_mem _ hx)
      rw [← g'.vs hw']
      refine z2 ph' h1 r1 sg' H' ws _ S' (fun x hx => (hw' x hx).mono g'.le) ?_
      have q2 : rdG X.K Ga pin (is ++ js) ph h sg (gAll gs ws r1 h1) Q := q'
      cases e2 : gAll gs ws r1 h1 with
      | ok r2 h2 =>
        rw [e2] at q2
        exact fun ph2 sg2 H2 g2 S2 f2 => q2 ph2 sg2 H2 (g'.trans g2) S2 ⟨f2.1.trans f'.1, fun j hj => (f2.2 j (fun z => hj (List.mem_append_right _ z))).trans (f'.2 j (fun z => hj (List.mem_append_left _ z)))⟩
      | exc c d h2 => rw [e2] at q2; exact q2.elim
      | bad => rw [e2] at q2; exact q2.elim
    | exc c d h1 => rw [e] at q'; exact q'.elim
    | bad => rw [e] at q'; exact q'.elim
theorem gAll_len : ∀ {gs : List Mini.G} {ws : List Mini.W} {r : Mini.Env} {h : MH} {r1 : Mini.Env} {h1 : MH}, gAll gs ws r h = .ok r1 h1 → ws.length = gs.length
  | [], [], _, _, _, _, _ => (rfl)
  | [], _ :: _, _, _, _, _, e => nomatch e
  | _ :: _, [], _, _, _, _, e => nomatch e
  | g :: gs, w :: ws, r, h, r1, h1, e => by
    have e' : ((g w r h).bind fun r1 h1 => gAll gs ws r1 h1) = .ok r1 h1 := e
    cases q : g w r h with
    | ok r2 h2 => rw [q] at e'; rw [List.length_cons, List.length_cons, gAll_len (show gAll gs ws r2 h2 = _ from e')]
    | exc c d h2 => rw [q] at e'; exact nomatch e'
    | bad => rw [q] at e'; exact nomatch e'
theorem g_tup {is : List Nat} {k n : Nat} {gs : List Mini.G} (hc : X.calm = true) (hg : Tgs X Ga pin is es gs) (hl : gs.length = n := by rfl) (hn : (assignEach es X.env).length = n := by rfl) (hst : (assignEach es X.env).findIdx? (·.1) = none := by rfl) : Tg X Ga pin is (.Tuple es k pos) (gTupT gs) := by
  obtain ⟨ts, p, z⟩ := hg.ex
  refine ⟨gTup X.K n ts, pg_tup hc p hn hst, fun ph h r sg H w Q s hw q => ?_⟩
  cases w with
  | ref a =>
    have q' : rdG X.K Ga pin is ph h sg (match h[a]? with | some (.tup xs) => gAll gs xs r h | some (.ct xs) => gAll gs xs r h | _ => .bad) Q := q
    have go : ∀ {xs : List Mini.W}, rdG X.K Ga pin is ph h sg (gAll gs xs r h) Q → SqT X.K H (ph a) (xs.map (vW ph)) → (∀ x ∈ xs, wf h.length x) → gTup X.K n ts (vW ph (.ref a)) sg H Q := fun {xs} q1 q2 q3 => by
      refine ⟨ph a, xs.map (vW ph), rfl, q2, ?_, z ph h r sg H xs Q s q3 q1⟩
      cases e : gAll gs xs r h with
      | ok r1 h1 => rw [List.length_map, gAll_len e, hl]
      | exc c d h1 => rw [e] at q1; exact q1.elim
      | bad => rw [e] at q1; exact q1.elim
    cases e1 : h[a]? with
    | none => rw [e1] at q'; exact q'.elim
    | some cl =>
      have y := s.hr.cells a cl e1
      rw [e1] at q'
      cases cl with
      | tup xs => exact go q' (.inl (.inl y.1)) y.2
      | ct xs => exact go q' (.inr y.1) y.2
      | _ => exact q'.elim
  | _ => exact q.elim
theorem s_asg {is : List Nat} {g : Mini.G} (he : PE X e (tE X.K Ga pin Wd m)) (hg : Tg X Ga pin is tg g) (hs : swapsWithSole [tg] e pos.line X.env = pure false := by rfl) (hw : swappedStores [tg] e X.env = pure none := by rfl)
    (h1 : (assignEach [tg] X.env).map (·.2) = [assign tg X.env] := by rfl) : PS X (.Assign [tg] e pos) (tS X.K Ga pin Wd (sAsg m g)) := by
  obtain ⟨t, p, z⟩ := hg.ex
  refine PS.imp (ps_asg he p hs hw h1) fun D sg H ⟨ph, h, r, s, x⟩ => ⟨ph, h, r, s, ?_⟩
  refine st_of (k := fun w h1 => match g w r h1 with | .ok r1 h2 => .ok .nx r1 h2 | _ => .bad) (D := D) s ?_ fun w h1 ph1 H1 b g1 S rl x1 => ?_
  · unfold sAsg at x
    cases e : m r h with
    | ok w h1 =>
      rw [e] at x
      show rdS X.K Ga pin Wd ph h (match g w r h1 with | .ok r1 h2 => .ok .nx r1 h2 | _ => .bad) D
      have x' : rdS X.K Ga pin Wd ph h (match g w r h1 with | .ok r1 h2 => RS.ok .nx r1 h2 | _ => RS.bad) D := x
      exact x'
    | exc c d h1 => rw [e] at x; exact x
    | bad => rw [e] at x; exact x
  · rw [rl.1]
    refine z ph1 h1 r sg H1 w _ S rl.2 ?_
    cases e : g w r h1 with
    | ok r1 h2 =>
      rw [e] at x1
      exact fun ph2 sg2 H2 g2 S2 _ => x1 ph2 sg2 H2 g2 S2
    | exc c d h2 => rw [e] at x1; exact x1.elim
    | bad => rw [e] at x1; exact x1.elim
theorem s_set {i : Nat} {x : Str} {pos' : Pos} (hN : X.N.Nodup) (hi : X.N[i]? = some x) (hx : Loc X.env.scope x) (hl : pin.lets i) (he : PE X e (tE X.K Ga pin Wd m)) (hs : swapsWith e (some (.Name x pos')) pos.line X.env = pure false := by rfl)
    (hf : X.fn x = true ∨ X.env.scope.names.lookup x = some .local := by first | exact .inl rfl | exact .inr rfl | assumption) : PS X (.Assign [.Name x pos'] e pos) (tS X.K Ga pin Wd (sSet i m)) := by
  refine PS.imp (ps_set hN hi hx he hs hf) fun D sg H ⟨ph, h, r, s, x⟩ => ⟨ph, h, r, s, ?_⟩
  refine st_of (k := fun w h1 => .ok .nx (r.set i (some w)) h1) (D := D) s ?_ fun w h1 ph1 H1 b g1 S rl x1 => ?_
  · unfold sSet sAsg at x
    cases e : m r h <;> (rw [e] at x; exact x)
  · rw [rl.1]
    exact x1 ph1 _ H1 (Grow.refl _ _) (S.put rl.2 hl)
end
end Br
set_option Elab.async false
set_option autoImplicit false
set_option linter.all false
set_option maxRecDepth 100000
set_option maxHeartbeats 1100000
namespace Br
open PySem PySem.Spec PyProof.Rows L2 Mini
section
variable {X : Cx} {Ga : Nat → Addr} {pin : Pin} {Wd : WX} {ph : Nat → Addr} {h : MH} {r : Mini.Env} {sg : L2.St} {H : Hp} {a b c e tg iter o i : Expr} {es rest : List Expr} {pos : Pos} {ma mb mc m mo mi : Mini.E} {ta tb : Mini.T} {ms : Mini.A} {st : Stmt} {sts body orelse : List Stmt} {sa sb : Mini.S} {α β : Type}
/-! ### stores -/
theorem map_set {xs : List Mini.W} {j : Nat} {w : Mini.W} : (xs.set j w).map (vW ph) = (xs.map (vW ph)).set j (vW ph w) := by rw [List.map_set]
theorem wf_set {n : Nat} {xs : List Mini.W} {j : Nat} {w : Mini.W} (q : ∀ x ∈ xs, wf n x) (hw : wf n w) : ∀ x ∈ xs.set j w, wf n x := fun x hx => by
  rcases List.mem_or_eq_of_mem_set hx with z | z
  · exact q x z
  · rw [z]; exact hw
theorem rdG_ok {K : PySem.W.Frag} {is : List Nat} {r1 : Mini.Env} {h1 : MH} {Q : L2.St → Hp → Prop} (x : rdG K Ga pin is ph h sg (.ok r1 h1) Q) : ∀ ph' sg' H', Grow ph h ph' h1 → SR K Ga pin ph' h1 r1 sg' H' → Fr_ is sg sg' → Q sg' H' := x
/-- xs[i] = w -/
theorem g_subL (hp : PG X (.Subscript o i pos) (gSub (tE X.K Ga pin Wd mo) (tE X.K Ga pin Wd mi) rSetL)) : Tg X Ga pin [] (.Subscript o i pos) (gSubL mo mi) := by
  refine ⟨_, hp, fun ph h r sg H w Q s hw q => ?_⟩
  unfold gSubL at q
  refine ⟨ph, h, r, s, ?_⟩
  cases e1 : mo r h with
  | exc c d h1 => rw [e1] at q; exact q.elim
  | bad => rw [e1] at q; exact q.elim
  | ok x h1 =>
    rw [e1] at q
    intro ph1 H1 b1 g1 R1 rl1
    refine ⟨ph1, h1, r, s.grow g1 R1, ?_⟩
    have q2 : rdG X.K Ga pin [] ph h sg ((mi r h1).bind fun y h2 => putL w r x y h2) Q := q
    cases e2 : mi r h1 with
    | exc c d h2 => rw [e2] at q2; exact q2.elim
    | bad => rw [e2] at q2; exact q2.elim
    | ok y h2 =>
      rw [e2] at q2
      intro ph2 H2 b2 g2 R2 rl2
      have q3 : rdG X.K Ga pin [] ph h sg (putL w r x y h2) Q := q2
      unfold putL at q3
      cases x with
      | ref n =>
        cases y with
        | int k =>
          simp only [] at q3
          cases e3 : h2[n]? with
          | none => rw [e3] at q3; exact q3.elim
          | some cl =>
            rw [e3] at q3
            cases cl with
            | lst xs =>
              simp only [] at q3
              cases e4 : ixOf xs.length k with
              | none => rw [e4] at q3; exact q3.elim
              | some j =>
                rw [e4] at q3
                obtain ⟨z1, z2⟩ := R2.cells n _ e3
                have g12 := g1.trans g2
                have hw2 : wf h2.length w := hw.mono g12.le
                refine ⟨ph2 n, xs.map (vW ph2), k, j, ?_, rl2.1, z1, by rw [List.length_map]; exact e4, ?_⟩
                · rw [rl1.1]
                  exact (g2.v rl1.2).symm
                · have R3 : HR X.K Ga ph2 (h2.set n (.lst (xs.set j w))) (upd H2 (ph2 n) (.lst ((xs.map (vW ph2)).set j (vW ph w)))) :=
                    R2.set e3 trivial trivial ⟨by rw [map_set, g12.v hw]; exact upd_same, wf_set z2 hw2⟩
                  exact rdG_ok q3 ph2 sg _ (g12.trans Grow.set) ((s.grow g12 R2).grow Grow.set R3) (Fr_.refl _ _)
            | _ => exact q3.elim
        | _ => exact q3.elim
      | _ => cases y <;> exact q3.elim
theorem setAll2 {i j : Nat} {ws : List Mini.W} {r r1 : Mini.Env} (e : setAll [i, j] ws r = some r1) : ∃ v w, ws = [v, w] ∧ r1 = (r.set i (some v)).set j (some w) := by
  match ws, e with
  | [v, w], e => exact ⟨v, w, rfl, (Option.some.inj e).symm⟩
theorem setAll3 {i j k : Nat} {ws : List Mini.W} {r r1 : Mini.Env} (e : setAll [i, j, k] ws r = some r1) : ∃ v w u, ws = [v, w, u] ∧ r1 = ((r.set i (some v)).set j (some w)).set k (some u) := by
  match ws, e with
  | [v, w, u], e => exact ⟨v, w, u, rfl, (Option.some.inj e).symm⟩
theorem st_par {K : PySem.W.Frag} {is : List Nat} {D : Ends} {Q1 : List V → Hp → Prop} (s : SR K Ga pin ph h r sg H) (x : rdS K Ga pin Wd ph h (sPar is ms r h) D)
    (hk : ∀ ws h1 r1 ph1 H1, setAll is ws r = some r1 → Grow ph h ph1 h1 → SR K Ga pin ph1 h1 r sg H1 → (∀ w ∈ ws, wf h1.length w) → rdS K Ga pin Wd ph1 h1 (.ok .nx r1 h1) D → Q1 (ws.map (vW ph1)) H1) : rd K Ga Wd relA ph h sg (ms r h) Q1 := by
  refine st_of (k := fun ws h1 => match setAll is ws r with | some r1 => .ok .nx r1 h1 | none => .bad) (D := D) s ?_ fun ws h1 ph1 H1 b g S rl x1 => ?_
  · unfold sPar at x
    cases e : ms r h <;> (rw [e] at x; exact x)
  · rw [rl.1]
    cases e : setAll is ws r with
    | none => rw [e] at x1; exact x1.elim
    | some r1 => rw [e] at x1; exact hk ws h1 r1 ph1 H1 e g S rl.2 x1
theorem s_par2 {i j : Nat} {x y : Str} {px py pt : Pos} {kt k2 : Nat} {pt2 : Pos} (hc : X.calm = true) (hN : X.N.Nodup) (hi : X.N[i]? = some x) (hj : X.N[j]? = some y) (hij : i ≠ j) (hx : X.env.scope.names.lookup x = some .local) (hy : X.env.scope.names.lookup y = some .local) (hl1 : pin.lets i) (hl2 : pin.lets j)
    (ha : PA X [a, b] (tA X.K Ga pin Wd ms)) (hw : swappedStores [.Tuple [.Name x px, .Name y py] kt pt] (.Tuple [a, b] k2 pt2) X.env = pure (some [x, y]))
    (hs : swapsWithSole [.Tuple [.Name x px, .Name y py] kt pt] (.Tuple [a, b] k2 pt2) pos.line X.env
      = pure false := by rfl) :
    PS X (.Assign [.Tuple [.Name x px, .Name y py] kt pt] (.Tuple [a, b] k2 pt2) pos) (tS X.K Ga pin Wd (sPar [i, j] ms)) := by
  refine PS.imp (ps_par hc hN hi hj hij hx hy ha hw hs) fun D sg H ⟨ph, h, r, s, x⟩ => ⟨ph, h, r, s, ?_⟩
  refine st_par s x fun ws h1 r1 ph1 H1 e g S wfs x1 => ?_
  obtain ⟨v, w, rfl, rfl⟩ := setAll2 e
  exact ⟨_, _, rfl, x1 ph1 _ H1 (Grow.refl _ _) ((S.put (wfs v (by simp)) hl1).put (wfs w (by simp)) hl2)⟩
theorem s_par3 {i j l : Nat} {x y z : Str} {px py pz pt : Pos} {kt k2 : Nat} {pt2 : Pos} (hc : X.calm = true) (hN : X.N.Nodup) (hi : X.N[i]? = some x) (hj : X.N[j]? = some y) (hl : X.N[l]? = some z) (hij : i ≠ j) (hil : i ≠ l) (hjl : j ≠ l)
    (hx : X.env.scope.names.lookup x = some .local) (hy : X.env.scope.names.lookup y = some .local) (hz : X.env.scope.names.lookup z = some .local) (hl1 : pin.lets i) (hl2 : pin.lets j) (hl3 : pin.lets l)
    (ha : PA X [a, b, c] (tA X.K Ga pin Wd ms)) (hw : swappedStores [.Tuple [.Name x px, .Name y py, .Name z pz] kt pt] (.Tuple [a, b, c] k2 pt2) X.env = pure (some [x, y, z]))
    (hs : swapsWithSole [.Tuple [.Name x px, .Name y py, .Name z pz] kt pt] (.Tuple [a, b, c] k2 pt2) pos.line X.env
      = pure false := by rfl) :
    PS X (.Assign [.Tuple [.Name x px, .Name y py, .Name z pz] kt pt] (.Tuple [a, b, c] k2 pt2) pos) (tS X.K Ga pin Wd (sPar [i, j, l] ms)) := by
  refine PS.imp (ps_par3 hc hN hi hj hl hij hil hjl hx hy hz ha hw hs) fun D sg H ⟨ph, h, r, s, x⟩ => ⟨ph, h, r, s, ?_⟩
  refine st_par s x fun ws h1 r1 ph1 H1 e g S wfs x1 => ?_
  obtain ⟨v, w, u, rfl, rfl⟩ := setAll3 e
  exact ⟨_, _, _, rfl, x1 ph1 _ H1 (Grow.refl _ _) (((S.put (wfs v (by simp)) hl1).put (wfs w (by simp)) hl2).put (wfs u (by simp)) hl3)⟩
/-- x op= e -/
theorem s_aug {i : Nat} {x : Str} {op : Operator} {f : Int → Int → Int} {pos' : Pos} (hN : X.N.Nodup) (hi : X.N[i]? = some x) (hx : Loc X.env.scope x) (hl : pin.lets i) (he : PE X e (tE X.K Ga pin Wd m)) (ho : PIp X op (ipI f))
    (hf : X.fn x = true ∨ X.env.scope.names.lookup x = some .local := by first | exact .inl rfl | exact .inr rfl | assumption) : PS X (.AugAssign (.Name x pos') op e pos) (tS X.K Ga pin Wd (Mini.sAug i (intOp f) m)) := by
  refine PS.imp (ps_aug hN hi hx he ho hf) fun D sg H ⟨ph, h, r, s, x⟩ => ?_
  unfold Mini.sAug at x
  cases e0 : r[i]? with
  | none => rw [e0] at x; exact x.elim
  | some q =>
    cases q with
    | none => rw [e0] at x; exact x.elim
    | some w =>
      rw [e0] at x
      obtain ⟨v1, v2⟩ := s.val i w e0
      refine ⟨_, v1, ph, h, r, s, ?_⟩
      refine st_of (k := fun y h1 => match intOp f w y h1 with | .ok z h2 => .ok .nx (r.set i (some z)) h2 | _ => .bad) (D := D) s ?_ fun y h1 ph1 H1 b g S rl x1 => ?_
      · cases e : m r h <;> (rw [e] at x; exact x)
      · rw [rl.1]
        cases w with
        | int j =>
          cases y with
          | int k => exact ⟨j, k, rfl, rfl, x1 ph1 _ H1 (Grow.refl _ _) (S.put (w := .int (f j k)) trivial hl)⟩
          | _ => exact x1.elim
        | _ => exact x1.elim
theorem s_asg2 {i j : Nat} {t1 t2 : Expr} (he : PE X e (tE X.K Ga pin Wd m)) (h1 : PG X t1 (gName i)) (h2 : PG X t2 (gName j)) (hl1 : pin.lets i) (hl2 : pin.lets j)
    (ha : (assignEach [t1, t2] X.env).map (·.2) = [assign t1 X.env, assign t2 X.env] := by rfl) (hw : swappedStores [t1, t2] e X.env = pure none := by rfl) : PS X (.Assign [t1, t2] e pos) (tS X.K Ga pin Wd (sAsg2 m i j)) := by
  refine PS.imp (ps_asg2 he h1 h2 ha hw) fun D sg H ⟨ph, h, r, s, x⟩ => ⟨ph, h, r, s, ?_⟩
  refine st_of (k := fun w h1 => .ok .nx ((r.set i (some w)).set j (some w)) h1) (D := D) s ?_ fun w h1 ph1 H1 b g1 S rl x1 => ?_
  · unfold sAsg2 at x
    cases e : m r h <;> (rw [e] at x; exact x)
  · rw [rl.1]
    exact x1 ph1 _ H1 (Grow.refl _ _) ((S.put rl.2 hl1).put rl.2 hl2)
/-! ### while -/
theorem s_while {k : Nat} (hp : PassesOwn (model X.prog X.w) X.A X.env X.xe) (hc : PT X c (tT X.K Ga pin Wd ta)) (hb : PSs X body (tS X.K Ga pin Wd sb)) : PS X (.While c body [] pos) (tS X.K Ga pin Wd (Mini.sWhile ta sb k)) := by
  refine PS.imp (ps_while hp hc hb) fun D sg H ⟨ph, h, r, s, x⟩ => ?_
  refine ⟨fun n sg H => ∃ ph h r, SR X.K Ga pin ph h r sg H ∧ rdS X.K Ga pin Wd ph h (Mini.sWhile ta sb n r h) D, ⟨k, ph, h, r, s, x⟩, fun n sg H ⟨ph, h, r, s, x⟩ => ?_⟩
  cases n with
  | zero => exact x.elim
  | succ n =>
    refine ⟨ph, h, r, s, ?_⟩
    refine st_of (k := fun c h1 => if c = true then (match sb r h1 with
      | .ok .nx r2 h2 => Mini.sWhile ta sb n r2 h2
      | .ok .ct r2 h2 => Mini.sWhile ta sb n r2 h2
      | .ok .bk r2 h2 => .ok .nx r2 h2
      | x => x) else .ok .nx r h1) (D := D) s ?_ fun k h1 ph1 H1 b g S rl x1 => ?_
    · simp only [Mini.sWhile] at x
      cases e : ta r h with
      | ok k h1 => cases k <;> (rw [e] at x; exact x)
      | exc c d h1 => rw [e] at x; exact x
      | bad => rw [e] at x; exact x
    · rw [show b = k from rl]
      cases k with
      | false =>
        rw [if_neg (fun z => nomatch z)]
        exact x1 ph1 sg H1 (Grow.refl _ _) S
      | true =>
        rw [if_pos rfl]
        rw [if_pos rfl] at x1
        refine ⟨fun sg H => ∃ ph h r, SR X.K Ga pin ph h r sg H ∧ rdS X.K Ga pin Wd ph h (Mini.sWhile ta sb n r h) D, fun sg' H' y => ⟨n, Nat.lt_succ_self n, y⟩, ph1, h1, r, S, ?_⟩
        cases e : sb r h1 with
        | ok f r2 h2 =>
          rw [e] at x1
          cases f with
          | nx => exact fun ph2 sg2 H2 g2 S2 => ⟨ph2, h2, r2, S2, rdS.base g2 x1⟩
          | ct => exact fun ph2 sg2 H2 g2 S2 => ⟨ph2, h2, r2, S2, rdS.base g2 x1⟩
          | bk => exact x1
          | rt w => exact x1
        | exc c d r2 h2 => rw [e] at x1; exact x1
        | bad => rw [e] at x1; exact x1
/-! ### for -/
def SrcAt (K : PySem.W.Frag) (J : It) (src : Mini.Src) (ph : Nat → Addr) (n : Nat) : Prop := match src with
  | .lst a => a < n ∧ J = Itl K (ph a)
  | .tup a => a < n ∧ J = Itt K (ph a)
  | .rng lo k => J = Itr lo k
theorem SrcAt.grow {K : PySem.W.Frag} {J : It} {src : Mini.Src} {ph1 : Nat → Addr} {h1 : MH} (g : Grow ph h ph1 h1) (q : SrcAt K J src ph h.length) : SrcAt K J src ph1 h1.length := by
  cases src with
  | lst a => exact ⟨Nat.lt_of_lt_of_le q.1 g.le, by rw [g.eq a q.1]; exact q.2⟩
  | tup a => exact ⟨Nat.lt_of_lt_of_le q.1 g.le, by rw [g.eq a q.1]; exact q.2⟩
  | rng lo k => exact q
theorem lstAt_ok {K : PySem.W.Frag} {n : Nat} {xs : List Mini.W} (R : HR K Ga ph h H) (e : lstAt h n = some xs) : SqL K H (ph n) (xs.map (vW ph)) ∧ ∀ x ∈ xs, wf h.length x := by
  unfold lstAt at e
  cases e1 : h[n]? with
  | none => rw [e1] at e; cases e
  | some c =>
    have q := R.cells n c e1
    cases c with
    | lst ys => rw [e1] at e; cases e; exact ⟨.inl (.inl q.1), q.2⟩
    | fz ys => rw [e1] at e; cases e; obtain ⟨⟨o, q1⟩, q2⟩ := q; exact ⟨.inl (.inr ⟨o, q1⟩), q2⟩
    | cl ys => rw [e1] at e; cases e; exact ⟨.inr q.1, q.2⟩
    | _ => rw [e1] at e; cases e
theorem tupAt_ok {K : PySem.W.Frag} {n : Nat} {xs : List Mini.W} (R : HR K Ga ph h H) (e : tupAt h n = some xs) : SqT K H (ph n) (xs.map (vW ph)) ∧ ∀ x ∈ xs, wf h.length x := by
  unfold tupAt at e
  cases e1 : h[n]? with
  | none => rw [e1] at e; cases e
  | some c =>
    have q := R.cells n c e1
    cases c with
    | tup ys => rw [e1] at e; cases e; exact ⟨.inl (.inl q.1), q.2⟩
    | ct ys => rw [e1] at e; cases e; exact ⟨.inr q.1, q.2⟩
    | _ => rw [e1] at e; cases e
theorem len_of {n : Nat} {xs : List Mini.W} (e : seqAt h n = some xs) : n < h.length := by
  unfold seqAt at e
  cases e1 : h[n]? with
  | none => rw [e1] at e; cases e
  | some c => exact (List.getElem?_eq_some_iff.mp e1).1
theorem map_none {xs : List Mini.W} {i : Nat} (e : xs[i]? = none) : (xs.map (vW ph)).length ≤ i := by
  rw [List.length_map]
  exact List.getElem?_eq_none_iff.mp e
theorem map_some {xs : List Mini.W} {i : Nat} {w : Mini.W} (e : xs[i]? = some w) : (xs.map (vW ph))[i]? = some (vW ph w) := by rw [List.getElem?_map, e] <;> rfl
theorem src_stop {K : PySem.W.Frag} {J : It} {src : Mini.Src} {i : Nat} (R : HR K Ga ph h H) (q : SrcAt K J src ph h.length) (e : src.at i h = some none) : J.stop i H := by
  cases src with
  | lst a =>
    obtain ⟨q1, rfl⟩ := q
    simp only [Mini.Src.at] at e
    cases e1 : lstAt h a with
    | none => rw [e1] at e; cases e
    | some xs => rw [e1] at e; exact ⟨_, (lstAt_ok R e1).1, map_none (Option.some.inj e)⟩
  | tup a =>
    obtain ⟨q1, rfl⟩ := q
    simp only [Mini.Src.at] at e
    cases e1 : tupAt h a with
    | none => rw [e1] at e; cases e
    | some xs => rw [e1] at e; exact ⟨_, (tupAt_ok R e1).1, map_none (Option.some.inj e)⟩
  | rng lo k =>
    obtain rfl : J = Itr lo k := q
    simp only [Mini.Src.at] at e
    by_cases c : i < k
    · rw [if_pos c] at e; cases e
    · exact Nat.le_of_not_lt c
theorem src_go {J : It} {src : Mini.Src} {i : Nat} {w : Mini.W} (R : HR X.K Ga ph h H) (q : SrcAt X.K J src ph h.length) (e : src.at i h = some (some w)) : J.go i H ∧ wf h.length w ∧ ∀ x H', J.yld i H x H' → H' = H ∧ x = vW ph w := by
  cases src with
  | lst a =>
    obtain ⟨q1, rfl⟩ := q
    simp only [Mini.Src.at] at e
    cases e1 : lstAt h a with
    | none => rw [e1] at e; cases e
    | some xs =>
      rw [e1] at e
      have e' : xs[i]? = some w := Option.some.inj e
      obtain ⟨z1, z2⟩ := lstAt_ok R e1
      exact ⟨⟨_, _, z1, map_some e'⟩, z2 w (List.mem_of_getElem? e'), fun x H' y => ⟨y.1, Option.some.inj ((y.2 _ z1).symm.trans (map_some e'))⟩⟩
  | tup a =>
    obtain ⟨q1, rfl⟩ := q
    simp only [Mini.Src.at] at e
    cases e1 : tupAt h a with
    | none => rw [e1] at e; cases e
    | some xs =>
      rw [e1] at e
      have e' : xs[i]? = some w := Option.some.inj e
      obtain ⟨z1, z2⟩ := tupAt_ok R e1
      exact ⟨⟨_, _, z1, map_some e'⟩, z2 w (List.mem_of_getElem? e'), fun x H' y => ⟨y.1, Option.some.inj ((y.2 _ z1).symm.trans (map_some e'))⟩⟩
  | rng lo k =>
    obtain rfl : J = Itr lo k := q
    simp only [Mini.Src.at] at e
    by_cases c : i < k
    · rw [if_pos c] at e
      cases e
      exact ⟨c, trivial, fun x H' y => y⟩
    · rw [if_neg c] at e; cases e
def relI (K : PySem.W.Frag) (ph : Nat → Addr) (n : Nat) (q : Mini.Src × Nat) (J : It) : Prop := SrcAt K J q.1 ph n
def tI (K : PySem.W.Frag) (Ga : Nat → Addr) (pin : Pin) (Wd : WX) (mi : Mini.I) : TI := fun sg H R => ∃ ph h r, SR K Ga pin ph h r sg H ∧ rd K Ga Wd (relI K) ph h sg (mi r h) R
theorem PI.imp {t t' : TI} (p : PI X tg iter t) (k : ∀ sg H R, t' sg H R → t sg H R) : PI X tg iter t' := ⟨fun pins s sg H R I h => p.run pins s sg H R I (k sg H R h)⟩
theorem PI.or {t t' : TI} (p : PI X tg iter t) (p' : PI X tg iter t') : PI X tg iter (fun sg H R => t sg H R ∨ t' sg H R) := ⟨fun pins s sg H R I h => h.elim (p.run pins s sg H R I) (p'.run pins s sg H R I)⟩
theorem i_seq (he : PE X iter (tE X.K Ga pin Wd m)) : PI X tg iter (tI X.K Ga pin Wd (iSeq m)) := by
  refine PI.imp (PI.or (pi_list he) (pi_tup he)) fun sg H R ⟨ph, h, r, s, x⟩ => ?_
  have x' : rd X.K Ga Wd (relI X.K) ph h sg ((m r h).bind fun w h1 => match w with
    | .ref a => match lstAt h1 a with
      | some xs => .ok (.lst a, xs.length + 1) h1
      | none => match tupAt h1 a with
        | some xs => .ok (.tup a, xs.length + 1) h1
        | none => .bad
    | _ => .bad) R := x
  cases e : m r h with
  | exc c d h1 =>
    rw [e] at x'
    exact .inl ⟨ph, h, r, s, by rw [e]; exact x'⟩
  | bad => rw [e] at x'; exact x'.elim
  | ok w h1 =>
    rw [e] at x'
    cases w with
    | ref a =>
      have x2 : rd X.K Ga Wd (relI X.K) ph h sg (match lstAt h1 a with
        | some xs => .ok (.lst a, xs.length + 1) h1
        | none => match tupAt h1 a with
          | some xs => .ok (.tup a, xs.length + 1) h1
          | none => .bad) R := x'
      cases e1 : lstAt h1 a with
      | some xs =>
        rw [e1] at x2
        refine .inl ⟨ph, h, r, s, ?_⟩
        rw [e]
        intro ph1 H1 b1 g1 R1 rl
        exact ⟨ph1 a, rl.1, ⟨_, (lstAt_ok R1 e1).1⟩, x2 ph1 H1 _ g1 R1 ⟨rl.2, rfl⟩⟩
      | none =>
        rw [e1] at x2
        have x3 : rd X.K Ga Wd (relI X.K) ph h sg (match tupAt h1 a with
          | some xs => .ok (.tup a, xs.length + 1) h1
          | none => .bad) R := x2
        cases e2 : tupAt h1 a with
        | none => rw [e2] at x3; exact x3.elim
        | some xs =>
          rw [e2] at x3
          refine .inr ⟨ph, h, r, s, ?_⟩
          rw [e]
          intro ph1 H1 b1 g1 R1 rl
          exact ⟨ph1 a, rl.1, ⟨_, (tupAt_ok R1 e2).1⟩, x3 ph1 H1 _ g1 R1 ⟨rl.2, rfl⟩⟩
    | _ => exact x'.elim
theorem rOk_ok {i : Int} (q : rOk i = true) : -(2 ^ 62) ≤ i ∧ i < 2 ^ 62 := by
  unfold rOk at q
  rw [Bool.and_eq_true, decide_eq_true_eq, decide_eq_true_eq] at q
  omega
theorem i_rng1 {p pos : Pos} (hg : Gl X "range") (hm : X.mg "range" = none) (ha : PE X a (tE X.K Ga pin Wd m)) (hs : starEach [a] X.env = [(false, eval a X.env)] := by rfl) : PI X tg (.Call (.Name "range" p) [a] [] pos) (tI X.K Ga pin Wd (Mini.iRng1 m)) := by
  refine PI.imp (pi_range1 hg hm (pa_cons ha pa_nil hs) hs) fun sg H R ⟨ph, h, r, s, x⟩ => ?_
  refine ⟨ph, h, r, s, x.bind fun w h1 _ ph1 H1 b1 g1 R1 ⟨eb1, w1⟩ x1 => ?_⟩
  cases w with
  | int n =>
    by_cases c : rOk n = true
    · have x2 : rd X.K Ga Wd (relI X.K) ph1 h1 sg (if rOk n = true then .ok (.rng 0 n.toNat, n.toNat + 1) h1 else .bad) R := x1
      rw [if_pos c] at x2
      exact ⟨n, by rw [eb1]; rfl, (rOk_ok c).1, (rOk_ok c).2, x2 ph1 H1 _ (Grow.refl _ _) R1 rfl⟩
    · have x2 : rd X.K Ga Wd (relI X.K) ph1 h1 sg (if rOk n = true then .ok (.rng 0 n.toNat, n.toNat + 1) h1 else .bad) R := x1
      rw [if_neg c] at x2
      exact x2.elim
  | _ => exact x1.elim
theorem i_rng2 {p pos : Pos} (hg : Gl X "range") (hm : X.mg "range" = none) (ha : PE X a (tE X.K Ga pin Wd ma)) (hb : PE X b (tE X.K Ga pin Wd mb)) (hs : starEach [a, b] X.env = [(false, eval a X.env), (false, eval b X.env)] := by rfl) (hs2 : starEach [b] X.env = [(false, eval b X.env)] := by rfl) :
    PI X tg (.Call (.Name "range" p) [a, b] [] pos) (tI X.K Ga pin Wd (Mini.iRng2 ma mb)) := by
  refine PI.imp (pi_range2 hg hm (pa_cons ha (pa_cons hb pa_nil hs2) (by rw [hs, hs2])) hs hs2) fun sg H R ⟨ph, h, r, s, x⟩ => ?_
  refine ⟨ph, h, r, s, x.bind fun w h1 _ ph1 H1 b1 g1 R1 ⟨eb1, w1⟩ x1 => ?_⟩
  refine ⟨ph1, h1, r, s.grow g1 R1, x1.bind fun u h2 _ ph2 H2 b2 g2 R2 ⟨eb2, w2⟩ x2 => ?_⟩
  cases w with
  | int n =>
    cases u with
    | int k =>
      have x3 : rd X.K Ga Wd (relI X.K) ph2 h2 sg (if rOk n = true ∧ rOk k = true then .ok (.rng n (k - n).toNat, (k - n).toNat + 1) h2 else .bad) R := x2
      by_cases c : rOk n = true ∧ rOk k = true
      · rw [if_pos c] at x3
        exact ⟨n, k, by rw [eb1, eb2]; rfl, ⟨(rOk_ok c.1).1, (rOk_ok c.1).2, (rOk_ok c.2).1, (rOk_ok c.2).2⟩, x3 ph2 H2 _ (Grow.refl _ _) R2 rfl⟩
      · rw [if_neg c] at x3
        exact x3.elim
    | _ => exact x2.elim
  | _ => cases u <;> exact x2.elim
theorem s_for {is : List Nat} {mi : Mini.I} {g : Mini.G} (hp : PassesOwn (model X.prog X.w) X.A X.env X.xe) (hc : X.calm = true) (hi : PI X tg iter (tI X.K Ga pin Wd mi)) (hg : Tg X Ga pin is tg g) (hb : PSs X body (tS X.K Ga pin Wd sb))
    (hs : ∀ x, foldedSetIterable iter X.env x = pure x := by intro _; rfl) : PS X (.For tg iter body [] pos) (tS X.K Ga pin Wd (Mini.sFor mi g sb)) := by
  obtain ⟨t, p, z⟩ := hg.ex
  refine PS.imp (ps_for hp hc hi p hb hs) fun D sg H ⟨ph, h, r, s, x⟩ => ⟨ph, h, r, s, ?_⟩
  refine st_of (k := fun q h1 => sTurns q.1 g sb q.2 0 r h1) (D := D) s ?_ fun q h1 ph1 H1 J g1 S rl x1 => ?_
  · unfold Mini.sFor at x
    cases e : mi r h <;> (rw [e] at x; exact x)
  · obtain ⟨src, k⟩ := q
    refine ⟨fun i n sg H => ∃ ph h r, SR X.K Ga pin ph h r sg H ∧ SrcAt X.K J src ph h.length ∧ rdS X.K Ga pin Wd ph h (sTurns src g sb n i r h) D, ⟨k, ph1, h1, r, S, rl, x1⟩, fun i n sg H ⟨ph, h, r, s, sr, x⟩ => ?_⟩
    cases n with
    | zero => exact x.elim
    | succ n =>
      simp only [sTurns] at x
      cases e : src.at i h with
      | none => rw [e] at x; exact x.elim
      | some q =>
        rw [e] at x
        cases q with
        | none => exact .inl ⟨src_stop s.hr sr e, x ph sg H (Grow.refl _ _) s⟩
        | some w =>
          obtain ⟨y1, y2, y3⟩ := src_go s.hr sr e
          refine .inr ⟨y1, fun sg H => ∃ ph h r, SR X.K Ga pin ph h r sg H ∧ SrcAt X.K J src ph h.length ∧ rdS X.K Ga pin Wd ph h (sTurns src g sb n (i + 1) r h) D, fun sg' H' y => ⟨n, Nat.lt_succ_self n, y⟩, fun v H' y => ?_⟩
          obtain ⟨rfl, rfl⟩ := y3 v H' y
          refine z ph h r sg H' w _ s y2 ?_
          simp only [] at x
          cases e2 : g w r h with
          | exc c d h2 => rw [e2] at x; exact x.elim
          | bad => rw [e2] at x; exact x.elim
          | ok r1 h1 =>
            rw [e2] at x
            intro ph2 sg2 H2 g2 S2 _
            refine ⟨ph2, h1, r1, S2, ?_⟩
            simp only [] at x
            have x2 := rdS.base g2 x
            cases e3 : sb r1 h1 with
            | ok f r3 h3 =>
              rw [e3] at x2
              cases f with
              | nx => exact fun ph4 sg4 H4 g4 S4 => ⟨ph4, h3, r3, S4, (sr.grow g2).grow g4, rdS.base g4 x2⟩
              | ct => exact fun ph4 sg4 H4 g4 S4 => ⟨ph4, h3, r3, S4, (sr.grow g2).grow g4, rdS.base g4 x2⟩
              | bk => exact x2
              | rt u => exact x2
            | exc c d r3 h3 => rw [e3] at x2; exact x2
            | bad => rw [e3] at x2; exact x2
end
end Br
set_option Elab.async false
set_option autoImplicit false
set_option linter.all false
set_option maxRecDepth 100000
set_option maxHeartbeats 1100000
namespace Br
open PySem PySem.Spec PyProof.Rows L2 Mini
section
variable {X : Cx} {Ga : Nat → Addr} {pin : Pin} {Wd : WX} {ph : Nat → Addr} {h : MH} {r : Mini.Env} {sg : L2.St} {H : Hp} {a b c e tg iter o i : Expr} {es rest : List Expr} {pos : Pos} {ma mb mc m mo mi : Mini.E} {ta tb : Mini.T} {ms : Mini.A} {st : Stmt} {sts body orelse : List Stmt} {sa sb : Mini.S} {α β : Type}
abbrev W0 : WX := fun _ _ _ _ => False
/-- a result that is one of Mini's, whatever stood ahead -/
theorem rd.ok1 {K : PySem.W.Frag} {rel : (Nat → Addr) → Nat → α → β → Prop} {w : α} {h1 : MH} {Q : β → Hp → Prop} (x : rd K Ga Wd rel ph h sg (.ok w h1) Q) : ∀ ph' H' b, Grow ph h ph' h1 → HR K Ga ph' h1 H' → rel ph' h1.length w b → Q b H' := x
/-! ### a list's append -/
theorem e_app {p q : Pos} (ho : PE X o (tE X.K Ga pin Wd mo)) (he : PE X e (tE X.K Ga pin Wd m)) (hbase : attributeBase o "append" X.env (eval o X.env) = eval o X.env := by rfl)
    (hfew : ((backTo q (starEach [e] X.env)).all (fun x => !x.1) && (backToKw q (keywordEach [] X.env)).all (fun x => x.1.isSome)
      && decide (([e] : List Expr).length + ([] : List Keyword).length + (if ([] : List Keyword).isEmpty then 0 else 1) < 30))
      = true := by rfl)
    (hline : (p.endLine == q.line) = true := by rfl) (hs : starEach (e :: []) X.env = (false, eval e X.env) :: starEach [] X.env := by rfl) (hplain : (backTo q (starEach [] X.env)).any (·.1) = false := by rfl) :
    PE X (.Call (.Attribute o "append" p) [e] [] q) (tE X.K Ga pin Wd (eApp mo m)) := by
  refine PE.imp (pe_bm PySem.F.plainAttrs_list PySem.F.slot_list_append PySem.F.type_list_append mt_append ho (pa_cons he pa_nil hs) hbase hfew hline hs hplain) fun sg H Q ⟨ph, h, r, s, x⟩ => ?_
  refine ⟨ph, h, r, s, x.bind fun u h1 _ ph1 H1 b1 g1 R1 ⟨eb1, w1⟩ x1 => ?_⟩
  by_cases c : isLst u h1 = true
  · rw [if_pos c] at x1
    refine ⟨?_, ph1, h1, r, s.grow g1 R1, x1.bind fun y h2 _ ph2 H2 b2 g2 R2 ⟨eb2, w2⟩ x2 => ?_⟩
    · rw [eb1]
      cases u with
      | ref n =>
        simp only [isLst] at c
        cases e1 : h1[n]? with
        | none => rw [e1] at c; cases c
        | some cl =>
          rw [e1] at c
          cases cl with
          | lst xs => exact .inl ⟨rfl, _, .inl (.inl (R1.cells n _ e1).1)⟩
          | _ => cases c
      | _ => cases c
    · unfold app at x2
      cases u with
      | ref n =>
        simp only [] at x2
        cases e1 : h2[n]? with
        | none => rw [e1] at x2; exact x2.elim
        | some cl =>
          rw [e1] at x2
          cases cl with
          | lst xs =>
            simp only [] at x2
            by_cases c2 : xs.length < 10000000
            · rw [if_pos c2] at x2
              obtain ⟨z1, z2⟩ := R2.cells n _ e1
              refine ⟨ph2 n, xs.map (vW ph2), vW ph2 y, ?_, by rw [eb2], z1, by rw [List.length_map]; exact m_line1 c2, ?_⟩
              · rw [eb1]
                exact (g2.v w1).symm
              · have em : (xs ++ [y]).map (vW ph2) = xs.map (vW ph2) ++ [vW ph2 y] := by rw [List.map_append]; rfl
                have zw : ∀ x ∈ xs ++ [y], wf h2.length x := fun x hx => by
                  rcases (List.mem_append.mp hx : _ ∨ _) with hx | hx
                  · exact z2 x hx
                  · rw [List.mem_singleton.mp hx]; exact w2
                have R3 : HR X.K Ga ph2 (h2.set n (.lst (xs ++ [y]))) (upd H2 (ph2 n) (.lst (xs.map (vW ph2) ++ [vW ph2 y]))) := R2.set e1 trivial trivial ⟨by rw [em]; exact upd_same, zw⟩
                exact x2.ok1 ph2 _ _ Grow.set R3 ⟨rfl, trivial⟩
            · rw [if_neg c2] at x2
              exact x2.elim
          | _ => exact x2.elim
      | _ => exact x2.elim
  · rw [if_neg c] at x1
    exact x1.elim
/-! ### slices -/
def relO_ (_ : Nat → Addr) (_ : Nat) (x : Option Int) (y : Option Int) : Prop := y = x
def tO_ (K : PySem.W.Frag) (Ga : Nat → Addr) (pin : Pin) (Wd : WX) (m : Mini.Env → MH → Mini.R (Option Int)) : TO := fun sg H Q => ∃ ph h r, SR K Ga pin ph h r sg H ∧ rd K Ga Wd relO_ ph h sg (m r h) Q
theorem PO.imp {x : Option Expr} {t t' : TO} (p : PO X x t) (k : ∀ sg H Q, t' sg H Q → t sg H Q) : PO X x t' := ⟨fun pins s sg H Q I h => p.run pins s sg H Q I (k sg H Q h)⟩
theorem o_no : PO X none (tO_ X.K Ga pin Wd oNo) := PO.imp po_none fun sg H Q ⟨ph, h, r, s, x⟩ => x ph H _ (Grow.refl _ _) s.hr rfl
theorem o_so (he : PE X e (tE X.K Ga pin Wd m)) : PO X (some e) (tO_ X.K Ga pin Wd (oSo m)) := by
  refine PO.imp (po_some he) fun sg H Q ⟨ph, h, r, s, x⟩ => ?_
  refine ⟨ph, h, r, s, x.bind fun w h1 _ ph1 H1 b1 g1 R1 ⟨eb1, w1⟩ x1 => ?_⟩
  cases w with
  | int i => exact ⟨i, eb1, x1 ph1 H1 _ (Grow.refl _ _) R1 rfl⟩
  | _ => exact x1.elim
theorem sIx_eq {n d : Nat} {o : Option Int} : Mini.sIx n d o = HT.sIx n d o := by cases o <;> rfl
theorem cut_eq {xs : List Mini.W} {l u : Option Int} : (cut xs l u).map (vW ph) = cutV (xs.map (vW ph)) l u := by
  unfold cut cutV
  rw [List.map_take, List.map_drop, List.length_map, sIx_eq, sIx_eq]
theorem cut_wf {n : Nat} {xs : List Mini.W} {l u : Option Int} (q : ∀ x ∈ xs, wf n x) : ∀ x ∈ cut xs l u, wf n x := fun x hx => q x (List.mem_of_mem_drop (List.mem_of_mem_take hx))
def rSlA (K : PySem.W.Frag) : V → Option Int → Option Int → Hp → VK → Prop := fun x lo hi H Q => rSlL K x lo hi H Q ∨ rSlT K x lo hi H Q
theorem slice_ok {K : PySem.W.Frag} {w : Mini.W} {l u : Option Int} {Q : VK} (R : HR K Ga ph h H) (x : rd K Ga Wd relW ph h sg (slice w l u h) Q) : rSlA K (vW ph w) l u H Q := by
  unfold slice at x
  cases w with
  | ref n =>
    simp only [] at x
    cases e1 : h[n]? with
    | none => rw [e1] at x; exact x.elim
    | some cl =>
      have y := R.cells n cl e1
      rw [e1] at x
      cases cl with
      | lst xs => exact .inl ⟨ph n, _, rfl, .inl (.inl y.1), fun p hp => by rw [← cut_eq]; exact rd_new (o := fun _ => .lst ((cut xs l u).map (vW ph))) x R hp (at_lst (cut_wf y.2))⟩
      | fz xs => obtain ⟨⟨o, y1⟩, y2⟩ := y; exact .inl ⟨ph n, _, rfl, .inl (.inr ⟨o, y1⟩), fun p hp => by rw [← cut_eq]; exact rd_new (o := fun _ => .lst ((cut xs l u).map (vW ph))) x R hp (at_lst (cut_wf y2))⟩
      | cl xs => exact .inl ⟨ph n, _, rfl, .inr y.1, fun p hp => by rw [← cut_eq]; exact rd_new (o := fun _ => .lst ((cut xs l u).map (vW ph))) x R hp (at_lst (cut_wf y.2))⟩
      | tup xs =>
        simp only [] at x
        by_cases c : Mini.sIx xs.length 0 l = 0 ∧ Mini.sIx xs.length xs.length u = xs.length
        · rw [if_pos c] at x; exact x.elim
        · rw [if_neg c] at x
          exact .inr ⟨ph n, _, rfl, .inl (.inl y.1), by rw [List.length_map, ← sIx_eq, ← sIx_eq]; exact c, fun p hp => by rw [← cut_eq]; exact rd_new (o := fun _ => .tup ((cut xs l u).map (vW ph))) x R hp (at_tup (cut_wf y.2))⟩
      | ct xs =>
        simp only [] at x
        by_cases c : Mini.sIx xs.length 0 l = 0 ∧ Mini.sIx xs.length xs.length u = xs.length
        · rw [if_pos c] at x; exact x.elim
        · rw [if_neg c] at x
          exact .inr ⟨ph n, _, rfl, .inr y.1, by rw [List.length_map, ← sIx_eq, ← sIx_eq]; exact c, fun p hp => by rw [← cut_eq]; exact rd_new (o := fun _ => .tup ((cut xs l u).map (vW ph))) x R hp (at_tup (cut_wf y.2))⟩
      | _ => exact x.elim
  | _ => exact x.elim
theorem e_sl {lo hi : Option Expr} {p2 : Pos} {ml mu : Mini.Env → MH → Mini.R (Option Int)} (he : PE X e (tE X.K Ga pin Wd m)) (hl : PO X lo (tO_ X.K Ga pin Wd ml)) (hu : PO X hi (tO_ X.K Ga pin Wd mu)) :
    PE X (.Subscript e (.Slice lo hi none p2) pos) (tE X.K Ga pin Wd (eSl m ml mu)) := by
  refine PE.imp (pe_slice (SlR.or sl_list sl_tup) he hl hu) fun sg H Q ⟨ph, h, r, s, x⟩ => ?_
  refine ⟨ph, h, r, s, x.bind fun w h1 _ ph1 H1 b1 g1 R1 ⟨eb1, w1⟩ x1 => ?_⟩
  refine ⟨ph1, h1, r, s.grow g1 R1, x1.bind fun l h2 _ ph2 H2 b2 g2 R2 eb2 x2 => ?_⟩
  refine ⟨ph2, h2, r, (s.grow g1 R1).grow g2 R2, x2.bind fun u h3 _ ph3 H3 b3 g3 R3 eb3 x3 => ?_⟩
  rw [eb1, show b2 = l from eb2, show b3 = u from eb3, ← (g2.trans g3).v w1]
  exact slice_ok R3 x3
/-! ### d[k] = e -/
theorem putD_eq {kvs : List (Sum Int Str × Mini.W)} {k : Sum Int Str} {w : Mini.W} : kvV ph (putD kvs k w) = putK (kvV ph kvs) k (vW ph w) := by
  unfold putD putK
  have e : ((kvV ph kvs).any fun kv => decide (kv.1 = k)) = (kvs.any fun kv => decide (kv.1 = k)) := by
    unfold kvV
    rw [List.any_map]
    rfl
  rw [e]
  by_cases c : (kvs.any fun kv => decide (kv.1 = k)) = true
  · rw [if_pos c, if_pos c]
    unfold kvV
    rw [List.map_map]
    rw [List.map_map]
    refine List.map_congr_left (fun x _ => ?_)
    show (((if x.1 = k then (x.1, w) else x) : Sum Int Str × Mini.W).1, vW ph ((if x.1 = k then (x.1, w) else x) : Sum Int Str × Mini.W).2) = if x.1 = k then (x.1, vW ph w) else (x.1, vW ph x.2)
    by_cases c2 : x.1 = k
    · rw [if_pos c2, if_pos c2]
    · rw [if_neg c2, if_neg c2]
  · rw [if_neg c, if_neg c]
    unfold kvV
    rw [List.map_append]
    rfl
theorem putD_wf {n : Nat} {kvs : List (Sum Int Str × Mini.W)} {k : Sum Int Str} {w : Mini.W} (q : ∀ x ∈ kvs, wf n x.2) (hw : wf n w) : ∀ x ∈ putD kvs k w, wf n x.2 := fun x hx => by
  unfold putD at hx
  split at hx
  · obtain ⟨y, hy, rfl⟩ := List.mem_map.mp hx
    by_cases c : y.1 = k
    · rw [if_pos c]; exact hw
    · rw [if_neg c]; exact q y hy
  · rcases (List.mem_append.mp hx : _ ∨ _) with hx | hx
    · exact q x hx
    · rw [List.mem_singleton.mp hx]; exact hw
theorem keyOf_ok {w : Mini.W} {q : Sum Int Str} (e : keyOf w = some q) : vW ph w = kV q := by
  cases w <;> first | (cases e; done) | (cases e; rfl)
theorem s_dput {d k : Expr} {md mk me : Mini.E} {pos' : Pos} (hu : X.A.units + 1 < cLine) (hd : PE X d (tE X.K Ga pin Wd md)) (hk : PE X k (tE X.K Ga pin Wd mk)) (he : PE X e (tE X.K Ga pin Wd me)) (hs : swapsWith e (some (.Subscript d k pos')) pos.line X.env = pure false := by rfl) :
    PS X (.Assign [.Subscript d k pos'] e pos) (tS X.K Ga pin Wd (sDput md mk me)) := by
  refine PS.imp (ps_dput hu hd hk he hs) fun D sg H ⟨ph, h, r, s, x⟩ => ?_
  have y : rd X.K Ga Wd (fun _ _ (_ : Unit) (_ : Unit) => True) ph h sg ((me r h).bind fun w h1 => (md r h1).bind fun x h2 => (mk r h2).bind fun y h3 => Mini.dput w x y h3) (fun _ H' => D.nx sg H') := by
    refine st_of (k := fun _ h1 => .ok .nx r h1) (D := D) s ?_ fun _ h1 ph1 H1 b g S rl x1 => x1 ph1 sg H1 (Grow.refl _ _) S
    unfold sDput at x
    cases e : ((me r h).bind fun w h1 => (md r h1).bind fun x h2 => (mk r h2).bind fun y h3 => Mini.dput w x y h3) <;> (rw [e] at x; exact x)
  refine ⟨ph, h, r, s, y.bind fun w h1 _ ph1 H1 b1 g1 R1 ⟨eb1, w1⟩ x1 => ?_⟩
  refine ⟨ph1, h1, r, s.grow g1 R1, x1.bind fun u h2 _ ph2 H2 b2 g2 R2 ⟨eb2, w2⟩ x2 => ?_⟩
  refine ⟨ph2, h2, r, (s.grow g1 R1).grow g2 R2, x2.bind fun k h3 _ ph3 H3 b3 g3 R3 ⟨eb3, w3⟩ x3 => ?_⟩
  unfold Mini.dput at x3
  cases u with
  | ref n =>
    simp only [] at x3
    cases e1 : h3[n]? with
    | none => rw [e1] at x3; exact x3.elim
    | some cl =>
      rw [e1] at x3
      cases cl with
      | dic kvs =>
        simp only [] at x3
        cases e2 : keyOf k with
        | none => rw [e2] at x3; exact x3.elim
        | some q =>
          rw [e2] at x3
          simp only [] at x3
          by_cases c : kvs.length < 1000000
          · rw [if_pos c] at x3
            obtain ⟨z1, z2⟩ := R3.cells n _ e1
            have w1' : wf h3.length w := w1.mono (g2.trans g3).le
            have R4 : HR X.K Ga ph3 (h3.set n (.dic (putD kvs q w))) (upd H3 (ph3 n) (.dK (putK (kvV ph3 kvs) q (vW ph3 w)))) := R3.set e1 trivial trivial ⟨by rw [putD_eq]; exact upd_same, putD_wf z2 w1'⟩
            refine ⟨ph3 n, _, ?_, .inl ⟨kvV ph3 kvs, q, z1, ?_, ?_, rfl⟩, ?_⟩
            · rw [eb2]; exact (g3.v w2).symm
            · rw [eb3]; exact keyOf_ok e2
            · show (kvV ph3 kvs).length < sizeLine
              unfold kvV
              rw [List.length_map]
              exact m_line1 (Nat.lt_of_lt_of_le c (by decide))
            · rw [eb1, ← (g2.trans g3).v w1]
              exact x3.ok1 ph3 _ () Grow.set R4 trivial
          · rw [if_neg c] at x3; exact x3.elim
      | _ => exact x3.elim
  | _ => exact x3.elim
end
end Br
set_option Elab.async false
set_option autoImplicit false
set_option linter.all false
set_option maxRecDepth 100000
set_option maxHeartbeats 1100000
namespace Br
open PySem PySem.Spec PyProof.Rows L2 Mini
section
variable {X : Cx} {Ga : Nat → Addr} {pin : Pin} {Wd : WX} {ph : Nat → Addr} {h : MH} {r : Mini.Env} {sg : L2.St} {H : Hp} {a b c e tg iter o i : Expr} {es rest : List Expr} {pos : Pos} {ma mb mc m mo : Mini.E} {ta tb : Mini.T} {ms : Mini.A} {st : Stmt} {sts body orelse : List Stmt} {sa sb : Mini.S} {α β : Type}
/-! ### list comprehensions -/
theorem rd_quiet {K : PySem.W.Frag} {rel : (Nat → Addr) → Nat → α → β → Prop} {q : Mini.R α} {Q : β → Hp → Prop} {sg' : L2.St} (x : rd K Ga Wd rel ph h sg q.quiet Q) : rd K Ga W0 rel ph h sg' q Q := by
  cases q with
  | ok a h' => exact x
  | exc c d h' => exact x.elim
  | bad => exact x.elim
theorem wipe_get {r : Mini.Env} {i : Nat} {w : Mini.W} : ∀ {vs : List Nat}, (Mini.wipe r vs)[i]? = some (some w) → r[i]? = some (some w) ∧ i ∉ vs
  | [], e => ⟨e, fun q => nomatch q⟩
  | v :: vs, e => by
    have e' : ((Mini.wipe r vs).set v none)[i]? = some (some w) := e
    by_cases c : v = i
    · subst c
      by_cases l : v < (Mini.wipe r vs).length
      · rw [List.getElem?_set_self l] at e'; cases e'
      · rw [List.getElem?_eq_none (by rw [List.length_set]; omega)] at e'; cases e'
    · rw [List.getElem?_set_ne c] at e'
      obtain ⟨z1, z2⟩ := wipe_get e'
      exact ⟨z1, fun q => by
        rcases List.mem_cons.mp q with q | q
        · exact c q.symm
        · exact z2 q⟩
theorem wipe_len {r : Mini.Env} : ∀ {vs : List Nat}, (Mini.wipe r vs).length = r.length
  | [] => rfl
  | v :: vs => by show ((Mini.wipe r vs).set v none).length = _; rw [List.length_set, wipe_len]
theorem SR.wipe {K : PySem.W.Frag} (s : SR K Ga none ph h r sg H) (vs : List Nat) : SR K Ga none ph h (Mini.wipe r vs) (L2.wipe sg vs) H :=
  ⟨s.hr, by rw [wipe_length, wipe_len, s.len], fun i w e => by
    obtain ⟨z1, z2⟩ := wipe_get e
    rw [wipe_out z2]
    exact s.val i w z1, fun q e => nomatch e⟩
theorem get_wipe {sg : L2.St} {i : Nat} : ∀ {vs : List Nat}, i ∈ vs → i < sg.length → (L2.wipe sg vs)[i]? = some none
  | v :: vs, hi, hl => by
    show ((L2.wipe sg vs).set v none)[i]? = some none
    by_cases c : v = i
    · subst c
      rw [List.getElem?_set_self (by rw [wipe_length]; exact hl)]
    · rw [List.getElem?_set_ne c]
      rcases List.mem_cons.mp hi with q | q
      · exact absurd q.symm c
      · exact get_wipe q hl
theorem wipe_same {sg sg2 : L2.St} {is vs : List Nat} (f : Fr_ is sg sg2) (hs : ∀ i ∈ is, i ∈ vs) : L2.wipe sg2 vs = L2.wipe sg vs := by
  refine List.ext_getElem? fun i => ?_
  by_cases c : i ∈ vs
  · by_cases l : i < sg.length
    · rw [get_wipe c l, get_wipe c (by rw [f.1]; exact l)]
    · rw [List.getElem?_eq_none (by rw [wipe_length, f.1]; omega), List.getElem?_eq_none (by rw [wipe_length]; omega)]
  · rw [wipe_out c, wipe_out c]
    exact f.2 i fun z => c (hs i z)
theorem wipe_wipe {sg : L2.St} {vs : List Nat} : L2.wipe (L2.wipe sg vs) vs = L2.wipe sg vs := by
  refine wipe_same (is := vs) ⟨wipe_length _ _, fun j hj => wipe_out hj⟩ fun i hi => hi
/-- the tests of a comprehension -/
theorem ts_nil : PTs X [] (tT X.K Ga pin Wd Mini.tYes) := ⟨fun pins s sg H Q I ⟨ph, h, r, s', x⟩ => pts_nil.run pins s sg H Q I (rd_okB x s'.hr)⟩
theorem ts_one (hc : PT X c (tT X.K Ga pin Wd ta)) : PTs X [c] (tT X.K Ga pin Wd ta) := pts_one hc
theorem lc_of {is vs : List Nat} {mi : Mini.I} {g : Mini.G} {t : TG} (ho : ∀ j ∈ is, j ∈ vs) (hz : TgS X Ga none is g t) (sg : L2.St) (H : Hp) (Q : VK) (x : tE X.K Ga none Wd (eLc vs mi g ta m) sg H Q) :
    tLc (tI X.K Ga none Wd mi) t (tT X.K Ga none W0 ta) (tE X.K Ga none W0 m) vs sg H Q := by
  obtain ⟨ph, h, r, s, x⟩ := x
  refine ⟨ph, h, r, s, x.bind fun q h1 _ ph1 H1 J g1 R1 rl x1 => fun D hD => ?_⟩
  obtain ⟨src, k⟩ := q
  have x2 := rd_quiet (sg' := sg) x1
  -- the new list
  let ph2 := ext ph1 h1.length D
  have g2 : Grow ph1 h1 ph2 (h1 ++ [Cell.lst []]) := Grow.ext
  have R2 : HR X.K Ga ph2 (h1 ++ [Cell.lst []]) (upd H1 D (.lst [])) := R1.push hD ⟨upd_same, fun _ hx => nomatch hx⟩
  have eD : ph2 h1.length = D := ext_at
  have s2 : SR X.K Ga none ph2 (h1 ++ [Cell.lst []]) r sg (upd H1 D (.lst [])) := (s.grow g1 R1).grow g2 R2
  have sr2 : SrcAt X.K J src ph2 (h1 ++ [Cell.lst []]).length := SrcAt.grow g2 rl
  refine ⟨fun i n H => ∃ ph h, SR X.K Ga none ph h r sg H ∧ SrcAt X.K J src ph h.length ∧ h1.length < h.length ∧ ph h1.length = D ∧ rd X.K Ga W0 relW ph h sg (lcTurns src g ta m (Mini.wipe r vs) h1.length n i h) Q,
    ⟨k, ph2, _, s2, sr2, by rw [List.length_append]; exact Nat.lt_succ_self _, eD, rd.base g2 x2⟩, fun i n H ⟨ph, h, s, sr, hl, eD, x⟩ => ?_⟩
  cases n with
  | zero => exact x.elim
  | succ n =>
    simp only [lcTurns] at x
    cases e : src.at i h with
    | none => rw [e] at x; exact x.elim
    | some q =>
      rw [e] at x
      cases q with
      | none =>
        refine .inl ⟨src_stop s.hr sr e, ?_⟩
        have q := x.ok1 ph H _ (Grow.refl _ _) s.hr ⟨rfl, hl⟩
        rw [show vW ph (.ref h1.length) = .ref D from congrArg V.ref eD] at q
        exact q
      | some w =>
        obtain ⟨y1, y2, y3⟩ := src_go s.hr sr e
        refine .inr ⟨y1, fun H => ∃ ph h, SR X.K Ga none ph h r sg H ∧ SrcAt X.K J src ph h.length ∧ h1.length < h.length ∧ ph h1.length = D ∧ rd X.K Ga W0 relW ph h sg (lcTurns src g ta m (Mini.wipe r vs) h1.length n (i + 1) h) Q,
          fun H' y => ⟨n, Nat.lt_succ_self n, y⟩, fun v H' y => ?_⟩
        obtain ⟨rfl, rfl⟩ := y3 v H' y
        simp only [] at x
        refine hz ph h (Mini.wipe r vs) (L2.wipe sg vs) H' w _ (s.wipe vs) y2 ?_
        cases e2 : g w (Mini.wipe r vs) h with
        | exc cc d h2 => rw [e2] at x; exact x.elim
        | bad => rw [e2] at x; exact x.elim
        | ok r1 h3 =>
          rw [e2] at x
          intro ph3 sg3 H3 g3 S3 f3
          have ew : L2.wipe sg3 vs = L2.wipe sg vs := (wipe_same f3 ho).trans wipe_wipe
          refine ⟨ew, ?_⟩
          have x3 : rd X.K Ga W0 relW ph3 h3 sg ((ta r1 h3).bind fun c h2 => if c = true then (m r1 h2).bind fun x h3 => lcAdd h1.length x (lcTurns src g ta m (Mini.wipe r vs) h1.length n (i + 1)) h3
            else lcTurns src g ta m (Mini.wipe r vs) h1.length n (i + 1) h2) Q := rd.base g3 x
          -- the state of the def stands
          have back : ∀ {ph4 : Nat → Addr} {h4 : MH} {H4 : Hp}, Grow ph h ph4 h4 → HR X.K Ga ph4 h4 H4 → SR X.K Ga none ph4 h4 r sg H4 := fun g R => s.grow g R
          refine ⟨ph3, h3, r1, S3, ?_⟩
          have x4 : rd X.K Ga W0 relW ph3 h3 sg3 ((ta r1 h3).bind fun c h2 => if c = true then (m r1 h2).bind fun x h3 => lcAdd h1.length x (lcTurns src g ta m (Mini.wipe r vs) h1.length n (i + 1)) h3
            else lcTurns src g ta m (Mini.wipe r vs) h1.length n (i + 1) h2) Q := by
            revert x3
            generalize ((ta r1 h3).bind fun c h2 => if c = true then (m r1 h2).bind fun x h3 => lcAdd h1.length x (lcTurns src g ta m (Mini.wipe r vs) h1.length n (i + 1)) h3
            else lcTurns src g ta m (Mini.wipe r vs) h1.length n (i + 1) h2) = qq
            intro x3
            cases qq with
            | ok a h' => exact x3
            | exc cc d h' => exact fun ph' H' g R z => x3 ph' H' g R z
            | bad => exact x3
          refine x4.bind fun k2 h4 _ ph4 H4 b4 g4 R4 eb4 x5 => ?_
          rw [show b4 = k2 from eb4]
          have gg4 := g3.trans g4
          cases k2 with
          | false =>
            rw [if_neg (fun z => nomatch z)]
            rw [if_neg (fun z => nomatch z)] at x5
            refine ⟨ph4, h4, back gg4 R4, sr.grow gg4, Nat.lt_of_lt_of_le hl gg4.le, (gg4.eq _ hl).trans eD, ?_⟩
            revert x5
            generalize lcTurns src g ta m (Mini.wipe r vs) h1.length n (i + 1) h4 = qq
            intro x5
            cases qq with
            | ok a h' => exact x5
            | exc cc d h' => exact fun ph' H' g R z => x5 ph' H' g R z
            | bad => exact x5
          | true =>
            rw [if_pos rfl]
            rw [if_pos rfl] at x5
            refine ⟨ph4, h4, r1, S3.grow g4 R4, x5.bind fun y h5 _ ph5 H5 b5 g5 R5 ⟨eb5, w5⟩ x6 => ?_⟩
            have gg5 := gg4.trans g5
            have eD5 : ph5 h1.length = D := (gg5.eq _ hl).trans eD
            unfold lcAdd at x6
            cases e6 : h5[h1.length]? with
            | none => rw [e6] at x6; exact x6.elim
            | some cl =>
              rw [e6] at x6
              cases cl with
              | lst acc =>
                simp only [] at x6
                by_cases c6 : acc.length < 10000000
                · rw [if_pos c6] at x6
                  obtain ⟨z1, z2⟩ := R5.cells _ _ e6
                  rw [eD5] at z1
                  refine ⟨acc.map (vW ph5), z1, by rw [List.length_map]; exact m_line1 c6, ?_⟩
                  have em : (acc ++ [y]).map (vW ph5) = acc.map (vW ph5) ++ [vW ph5 y] := by rw [List.map_append]; rfl
                  have zw : ∀ x ∈ acc ++ [y], wf h5.length x := fun x hx => by
                    rcases (List.mem_append.mp hx : _ ∨ _) with hx | hx
                    · exact z2 x hx
                    · rw [List.mem_singleton.mp hx]; exact w5
                  have R6 : HR X.K Ga ph5 (h5.set h1.length (.lst (acc ++ [y]))) (upd H5 (ph5 h1.length) (.lst (acc.map (vW ph5) ++ [vW ph5 y]))) := R5.set e6 trivial trivial ⟨by rw [em]; exact upd_same, zw⟩
                  rw [eD5] at R6
                  rw [eb5]
                  have g6 : Grow ph5 h5 ph5 (h5.set h1.length (.lst (acc ++ [y]))) := Grow.set
                  have gg6 := gg5.trans g6
                  refine ⟨ph5, _, back gg6 R6, sr.grow gg6, Nat.lt_of_lt_of_le hl gg6.le, eD5, rd.base g6 ?_⟩
                  revert x6
                  generalize lcTurns src g ta m (Mini.wipe r vs) h1.length n (i + 1) (h5.set h1.length (.lst (acc ++ [y]))) = qq
                  intro x6
                  cases qq with
                  | ok a h' => exact x6
                  | exc cc d h' => exact fun ph' H' g R z => x6 ph' H' g R z
                  | bad => exact x6
                · rw [if_neg c6] at x6; exact x6.elim
              | _ => exact x6.elim
theorem e_lc {is : List Nat} {ifs : List Expr} {scope : Scope} {own : List (Str × Nat)} {mi : Mini.I} {g : Mini.G} {t : TG} {elt : Expr} (hc : X.calm = true) (hN : X.N.Nodup) (hi : PI X tg iter (tI X.K Ga none Wd mi)) (ok : BlkOk X.N X.env.scope scope own) (ho : ∀ j ∈ is, j ∈ own.map (·.2))
    (hz : TgS X Ga none is g t)
    (hg : ∀ (s : Shared) (H : Hp) (C : Addr) (cl : List (Str × Addr)) (fp : List Addr), PG (X.blk s H scope (compEnvC scope cl C X.env) fp) tg t)
    (ht : ∀ (s : Shared) (H : Hp) (C : Addr) (cl : List (Str × Addr)) (fp : List Addr), PTs (X.blk s H scope (compEnvC scope cl C X.env) fp) ifs (tT X.K Ga none W0 ta))
    (he : ∀ (s : Shared) (H : Hp) (C : Addr) (cl : List (Str × Addr)) (fp : List Addr), PE (X.blk s H scope (compEnvC scope cl C X.env) fp) elt (tE X.K Ga none W0 m)) (hs : ∀ x, foldedSetIterable iter X.env x = pure x := by intro _; rfl) :
    PE X (.ListComp elt [⟨tg, iter, ifs, 0⟩] scope pos) (tE X.K Ga none Wd (eLc (own.map (·.2)) mi g ta m)) :=
  PE.imp (pe_lc hc hN hi ok hg ht he hs) (lc_of ho hz)
theorem s_setLc {is : List Nat} {i : Nat} {y : Str} {py spos : Pos} {ifs : List Expr} {scope : Scope} {own : List (Str × Nat)} {mi : Mini.I} {g : Mini.G} {t : TG} {elt : Expr} (hc : X.calm = true) (hN : X.N.Nodup) (hy : X.N[i]? = some y) (hyl : X.env.scope.names.lookup y = some .local)
    (hsw : swapsWith (.ListComp elt [⟨tg, iter, ifs, 0⟩] scope pos) (some (.Name y py)) spos.line X.env = pure true) (hi : PI X tg iter (tI X.K Ga none Wd mi)) (ok : BlkOk X.N X.env.scope scope own) (ho : ∀ j ∈ is, j ∈ own.map (·.2))
    (hz : TgS X Ga none is g t)
    (hg : ∀ (s : Shared) (H : Hp) (C : Addr) (cl : List (Str × Addr)) (fp : List Addr), PG (X.blk s H scope (compEnvC scope cl C X.env) fp) tg t)
    (ht : ∀ (s : Shared) (H : Hp) (C : Addr) (cl : List (Str × Addr)) (fp : List Addr), PTs (X.blk s H scope (compEnvC scope cl C X.env) fp) ifs (tT X.K Ga none W0 ta))
    (he : ∀ (s : Shared) (H : Hp) (C : Addr) (cl : List (Str × Addr)) (fp : List Addr), PE (X.blk s H scope (compEnvC scope cl C X.env) fp) elt (tE X.K Ga none W0 m)) (hs : ∀ x, foldedSetIterable iter X.env x = pure x := by intro _; rfl) :
    PS X (.Assign [.Name y py] (.ListComp elt [⟨tg, iter, ifs, 0⟩] scope pos) spos) (tS X.K Ga none Wd (sSet i (eLc (own.map (·.2)) mi g ta m))) := by
  refine PS.imp (ps_setLc hc hN hy hyl hsw hi ok hg ht he hs) fun D sg H ⟨ph, h, r, s, x⟩ => ?_
  refine lc_of ho hz sg H _ ⟨ph, h, r, s, ?_⟩
  refine st_of (k := fun w h1 => .ok .nx (r.set i (some w)) h1) (D := D) s ?_ fun w h1 ph1 H1 b g1 S rl x1 => ?_
  · unfold sSet sAsg at x
    cases e : eLc (own.map (·.2)) mi g ta m r h <;> (rw [e] at x; exact x)
  · rw [rl.1]
    exact x1 ph1 _ H1 (Grow.refl _ _) (S.put rl.2 lets0)
end
end Br
set_option Elab.async false
set_option autoImplicit false
set_option linter.all false
set_option maxRecDepth 100000
set_option maxHeartbeats 1100000
namespace Br
open PySem PySem.Spec PyProof.Rows L2 Mini
/-! ### several except clauses, some with a name -/
structure Cls_ where
  c : Value
  i : Option Nat
  ts : Addr → Value → Option Addr → TS
def offI (i : Option Nat) (sg : L2.St) : L2.St := match i with
  | some i => sg.set i none
  | none => sg
def onI (i : Option Nat) (a : Addr) (sg : L2.St) : L2.St := match i with
  | some i => sg.set i (some (.ref a))
  | none => sg
def offD (i : Option Nat) (D : Ends) : Ends := { nx := fun sg H => D.nx (offI i sg) H, rt := D.rt, bk := fun sg H => D.bk (offI i sg) H, ct := fun sg H => D.ct (offI i sg) H }
def wAll (K : PySem.W.Frag) (Wout : WX) (D : Ends) : List Cls_ → WX
  | [] => Wout
  | k :: ks => fun cls d sg H => ∃ q, PySem.W.exmOne K cls k.c = some q ∧ (q = true → ∀ a, H a = none → k.ts a cls d (offD k.i D) (onI k.i a sg) (upd H a (ExQ cls d a))) ∧ (q = false → wAll K Wout D ks cls d sg H)
/-- the name of a clause -/
def NameOk (X : Cx) : Option Str → Option Nat → Prop
  | none, none => True
  | some n, some i => X.N[i]? = some n ∧ X.env.kindOf n = some .local
  | _, _ => False
inductive Hds (X : Cx) : List ExceptHandler → List Cls_ → Prop
  | nil : Hds X [] []
  | cons {x : Str} {k : Cls_} {n : Option Str} {b : Stmt} {suite : List Stmt} {np p : Pos} {hds : List ExceptHandler} {ks : List Cls_} (hc : Names X x k.c) (hn : NameOk X n k.i)
      (hsu : ∀ (a : Addr) (cls : Value) (d : Option Addr) (pn : List (Addr × Obj)), PSs (X.suite a pn) (b :: suite) (k.ts a cls d)) (r : Hds X hds ks) :
      Hds X (.ExceptHandler (some (.Name x np)) n (b :: suite) p :: hds) (k :: ks)
section
variable {X : Cx} {pins : List (Addr × Obj)} {σ : L2.St} {H : Hp} {s sI s' : Shared} {B : Heap} {a : Addr} {o : HO}
theorem InvLandedT (I : Inv X pins σ H sI) (nb : ∀ b o, sI.heap.get? b = some o → b ∉ frs X.stack → B.get? b = some o) (st : B.StaysIn s'.heap) (up : sI.heap.UpToSlots s'.heap) (os : s'.os = sI.os) (ag : AllBare s'.gens)
    (na : H a = none) (nB : B.get? a = none) (nfr : a ∉ frs X.stack) (new : ObjOk X.prog X.w (upd H a o) s'.heap a o) : Inv X pins σ (upd H a o) s' := by
  -- the object is none of those that stood before
  have gone : sI.heap.get? a = none := by
    cases e : sI.heap.get? a with
    | none => rfl
    | some o => exact absurd ((nb a o e nfr).symm.trans nB) (fun z => nomatch z)
  have apart : ∀ {b o}, sI.heap.get? b = some o → b ≠ a := fun e z => by rw [z, gone] at e; cases e
  have other : ∀ {b} {u : HO}, H b = some u → upd H a o b = some u := fun {b u} e => by rw [upd_ne (ne_of_none e na)]; exact e
  have J := I.landed nb st up os ag
  refine ⟨J.ok, J.os, J.bare, ⟨J.base.keep, J.base.slot, fun b u e n hx => ?_, J.base.there, fun b xs e => other (J.base.tups b xs e), fun b u v e => other (J.base.frzs b u v e), fun b ps e => ?_⟩, J.loc, J.cell, ?_, fun x c e => ?_, fun p hp => ?_, fun b u e => ?_, J.len⟩
  · obtain ⟨u', e'⟩ := I.base.there b u e hx
    rw [upd_ne (apart e')]
    exact J.base.free b u e n hx
  · obtain ⟨more, e'⟩ := J.base.tbls b ps e
    exact ⟨more, other e'⟩
  · obtain ⟨m, ⟨ob, _, _, e, _⟩, _⟩ := I.loc
    rw [upd_ne (apart e)]
    exact J.free
  · obtain ⟨v, ob, e', _⟩ := I.cell x c e
    rw [upd_ne (apart e')]
    exact J.freeC x c e
  · obtain ⟨e1, e2, e3⟩ := J.pin p hp
    refine ⟨e1, ?_, e3⟩
    rw [upd_ne (apart (I.pin p hp).1)]
    exact e2
  · by_cases hb : b = a
    · rw [hb, upd_same] at e
      cases e
      rw [hb]
      exact new
    · rw [upd_ne hb] at e
      exact (J.hok b u e).stay (fun _ _ _ q => q) (fun c q => other q) fun c xs q => other q
theorem InvSuite0 (I : Inv X pins σ H s) (a : Addr) : Inv (X.suite a (X.pn ++ pins)) [] σ H s :=
  ⟨I.ok.suite _ _, I.os, I.bare, I.base, I.loc, I.cell, I.free, I.freeC, fun p hp => I.pin p (by rw [List.append_nil] at hp; exact hp), I.hok, I.len⟩
theorem InvUnsuite0 {pn' : List (Addr × Obj)} (I : Inv (X.suite a (X.pn ++ pins)) pn' σ H s) (ok : X.Ok) : Inv X pins σ H s :=
  { ok := ok, os := I.os, bare := I.bare, base := I.base, loc := I.loc, cell := I.cell, free := I.free, freeC := I.freeC, hok := I.hok, len := I.len
    pin := fun p hp => I.pin p (List.mem_append_left _ hp) }
end
section
variable {X : Cx} {body : List Stmt} {h0 : ExceptHandler} {hds : List ExceptHandler} {ks : List Cls_} {pos : Pos} {tb : WX → TS} {Wout : WX}
theorem sp_back {M : Type} {pins : List (Addr × Obj)} {D : Ends} {X' : Cx} {f : Flow} {s : Shared} (back : ∀ {sg : L2.St} {H : Hp}, Inv X' [] sg H s → Inv X pins sg H s) (z : SP X' [] D f s) : SP X pins D f s := by
  cases f with
  | next => obtain ⟨sg, H, J, q⟩ := z; exact ⟨sg, H, back J, q⟩
  | brk => obtain ⟨sg, H, J, q⟩ := z; exact ⟨sg, H, back J, q⟩
  | cont => obtain ⟨sg, H, J, q⟩ := z; exact ⟨sg, H, back J, q⟩
  | ret u => obtain ⟨v, sg, H, J, rv, q⟩ := z; exact ⟨v, sg, H, back J, rv, q⟩
theorem exq_ok {P : Program} {w : World} {H : Hp} {h : Heap} {a : Addr} {cls : Value} {d : Option Addr} {oe : Obj} {vs : Array Value} (e : h.get? a = some oe) (z : Zc cls d oe) (dd : oe.data = .fields vs) : ObjOk P w H h a (ExQ cls d a) :=
  ⟨⟨oe, e, z, vs, dd⟩, ⟨oe, e⟩, fun _ _ ⟨o, q, r⟩ k => ⟨o, k o q, r⟩⟩
theorem try_all (hs : X.stack = X.env :: X.outer) (hf : X.env.frame = some X.env.locals) (hN : X.N.Nodup) (tk : Takes X Wout)
    (hb : ∀ (W : WX) (pn : List (Addr × Obj)) (xe : Value → Shared → Prop),
      Takes (X.tr pn xe) W → PassesOwn (model X.prog X.w) X.A X.env xe → PSs (X.tr pn xe) body (tb W))
    (hh : Hds X (h0 :: hds) ks) : PS X (.Try body (h0 :: hds) [] [] pos) (fun D sg H => tb (wAll X.K Wout D ks) D sg H) := by
  constructor
  intro pins s sg H D I want
  have ok := I.ok
  have hfr : X.A.frames = some (X.env :: X.outer) := by rw [ok.frames]; rw [hs]
  refine wpAny_Try_except (wpAny_mono ((hb (wAll X.K Wout D ks) (X.pn ++ pins) (fun u t => wpAny (model X.prog X.w) X.A (noteFrame u X.env) (fun _ t2 => wpAny (model X.prog X.w) X.A (setFlight u none) (fun _ t3 =>
    wpAny (model X.prog X.w) X.A (handleBy u X.env (h0 :: hds)) (SP X pins D) X.xe t3) X.xe t2) X.xe t) (fun u t xx => ?_) PassesOwn.looking).run [] s sg H D (I.toTry _) want) (fun f t z => ?_) (fun _ _ z => z))
  · obtain ⟨a, B, sI, pins2, sg2, H2, cls, d, rfl, J0, nb, up, sky, na, os, ag, w⟩ := xx
    have J : Inv X pins sg2 H2 sI := J0.ofTry ok
    refine Sky.land (Q := fun _ t3 => wpAny (model X.prog X.w) X.A (handleBy (.ref a) X.env (h0 :: hds)) (SP X pins D) X.xe t3) Zc.steady hfr hf (show Sky B (X.env :: X.outer) a (Zc cls d) X.env.locals t.heap by rw [← hs]; exact sky) fun g3 fl3 up3 => ?_
    have J3 : Inv X pins sg2 H2 { t with heap := g3 } := J.landed nb fl3.1 (up.trans up3) os ag
    obtain ⟨oe3, vs3, he3, (hz3 : _), hd3⟩ := fl3.there
    have nfr : a ∉ frs (X.env :: X.outer) := fun hm => by
      obtain ⟨_, o2, e2, hnf⟩ := fl3.2.2.1.mem hm
      rw [he3] at e2
      cases e2
      exact hnf _ hd3
    have nL : a ≠ X.env.locals := fun z =>
      nfr (List.mem_filterMap.mpr ⟨X.env, List.mem_cons_self, by rw [hf, z]⟩)
    have nF : a ∉ X.fs := by
      intro hm
      obtain ⟨u, hu, q⟩ := List.mem_filterMap.mp hm
      exact nfr (List.mem_filterMap.mpr ⟨u, List.mem_cons_of_mem _ hu, q⟩)
    have S3 := Inv.suite J3 he3 hd3 na nL nF
    have nfs : a ∉ frs X.stack := by rw [hs]; exact nfr
    have go : ∀ {l : List ExceptHandler} {kl : List Cls_}, Hds X l kl → wAll X.K Wout D kl cls d sg2 H2 → wpAny (model X.prog X.w) X.A (handleBy (.ref a) X.env l) (SP X pins D) X.xe { t with heap := g3 } := by
      intro l kl hk
      induction hk with
      | nil =>
        intro w
        refine wpAny_handleBy_nil ?_
        obtain ⟨_, _, _, oe, vs, T, oT, ts2, he, hz, hd, h1, hr⟩ := id fl3
        unfold PySem.passOn
        refine (wpAny_bind (wpAny_field he hd h1 ?_))
        rw [if_neg (show ¬ ((Value.ref T == Value.none) = true) by simp)]
        have out : wpAny (model X.prog X.w) X.A (setFlight (.ref a) X.env.frame) (fun _ t4 => wpAny (model X.prog X.w) X.A (throw (.ref a) : Sem Flow) (SP X pins D) X.xe t4) X.xe { t with heap := g3 } := by
          rw [hf]
          refine HandSPX.setFlight_upZ fl3 fun g4 hh4 up4 => wpAny_throw (tk _ _ ⟨a, B, sI, pins, sg2, H2, cls, d, rfl, J, nb, (up.trans up3).trans up4, .inr (.inr (by rw [hs]; exact hh4)), na, os, ag, w⟩)
        first
          | exact wpAny_bind (wpAny_pure (wpAny_bind out))
          | exact wpAny_bind out
      | @cons x k n b suite np p l2 kl2 hc hn hsu r ih =>
        intro w
        obtain ⟨q, hq, yes, no⟩ := w
        refine wpAny_handleBy_cons (codeAny_handlers_test ?_) (by intro z; cases z)
        have LT : PySem.W.Looks (model X.prog X.w) g3 (typeOf (.ref a)) cls := fun A Q E s2 kk z => wpAny_typeOf_ref (kk _ _ he3) (by rw [hz3.1]; exact z)
        have LM := PySem.W.exm_one (M := model X.prog X.w) J3.kIn LT hq
        have test : ∀ {Q : Value → Shared → Prop} {E : Value → Shared → Prop}, Q k.c { t with heap := g3 } → wpAny (model X.prog X.w) (X.A.mark (some (.ref a))) (eval (.Name x np) X.env) Q E { t with heap := g3 } := fun {Q E} z => by
          obtain ⟨hg, hdb, hm | ⟨hm, hv, hnn⟩⟩ := hc
          · exact ld_glob (X := X.suite a ((a, oe3) :: (X.pn ++ pins))) S3 hg hm z hdb
          · exact ld_blt (X := X.suite a ((a, oe3) :: (X.pn ++ pins))) S3 hg hm hv z hnn hdb
        refine test (LM.here ?_)
        cases q with
        | false => exact ih (no rfl)
        | true =>
          have yes2 := yes rfl a na
          cases n with
          | none =>
            cases ki : k.i with
            | some i => rw [ki] at hn; exact hn.elim
            | none =>
              rw [ki] at yes2
              refine codeAny_handlers_suite (HandSPX.lands_againZ fl3 fun g4 fl4 up4 => ?_)
              obtain ⟨oe4, vs4, he4, (hz4 : _), hd4⟩ := fl4.there
              have J4 : Inv X pins sg2 (upd H2 a (ExQ cls d a)) { t with heap := g4 } := InvLandedT J nb fl4.1 ((up.trans up3).trans up4) os ag na fl4.2.1 nfs (exq_ok he4 hz4 hd4)
              refine wpAny_mono ((hsu a cls d (X.pn ++ pins)).run [] _ _ _ _ (InvSuite0 J4 a) yes2) (fun f t6 z => ?_) (fun _ _ z => False.elim z)
              have z2 : SP (X.suite a (X.pn ++ pins)) [] D f t6 := by cases f <;> exact z
              exact sp_back (M := Unit) (fun S6 => InvUnsuite0 S6 ok) z2
          | some nm =>
            cases ki : k.i with
            | none => rw [ki] at hn; exact hn.elim
            | some i =>
              rw [ki] at yes2 hn
              obtain ⟨hi, hln⟩ := hn
              refine codeAny_handlers_suite_as (HandSPX.lands_againZ fl3 fun g4 fl4 up4 => ?_)
              obtain ⟨oe4, vs4, he4, (hz4 : _), hd4⟩ := fl4.there
              have J4 : Inv X pins sg2 (upd H2 a (ExQ cls d a)) { t with heap := g4 } := InvLandedT J nb fl4.1 ((up.trans up3).trans up4) os ag na fl4.2.1 nfs (exq_ok he4 hz4 hd4)
              refine store_ok (X := X.suite a (X.pn ++ pins)) (v := .ref a) (InvSuite0 J4 a) hN hi (.inl hln) rfl (fun t5 S5 => ?_) (.inr hln)
              refine wpAny_mono ((hsu a cls d (X.pn ++ pins)).run [] t5 _ _ _ S5 yes2) (fun f t6 z => ?_) (fun _ _ z => False.elim z)
              have gone : ∀ {sg6 : L2.St} {H6 : Hp} {Q : Shared → Prop}, Inv (X.suite a (X.pn ++ pins)) [] sg6 H6 t6 → (∀ t7, Inv X pins (sg6.set i none) H6 t7 → Q t7) →
                  wpAny (model X.prog X.w) X.A (do bindName X.env nm .none; unbindBehindTheSuite X.env nm p) (fun _ t7 => Q t7) X.xe t6 := fun {sg6 H6 Q} S6 hq => gone_ok (InvUnsuite0 S6 ok) hN hi hln hq
              cases f with
              | next => obtain ⟨sg6, H6, S6, q6⟩ := z; exact gone S6 fun t7 J7 => ⟨_, _, J7, q6⟩
              | brk => obtain ⟨sg6, H6, S6, q6⟩ := z; exact gone S6 fun t7 J7 => ⟨_, _, J7, q6⟩
              | cont => obtain ⟨sg6, H6, S6, q6⟩ := z; exact gone S6 fun t7 J7 => ⟨_, _, J7, q6⟩
              | ret u => obtain ⟨v6, sg6, H6, S6, r6, q6⟩ := z; exact gone S6 fun t7 J7 => ⟨_, _, _, J7, r6, q6⟩
    exact go hh w
  · cases f with
    | next => obtain ⟨sg2, H2, J, q⟩ := z; exact wpAny_execs_nil ⟨sg2, H2, J.ofTry ok, q⟩
    | brk => obtain ⟨sg2, H2, J, q⟩ := z; exact ⟨sg2, H2, J.ofTry ok, q⟩
    | cont => obtain ⟨sg2, H2, J, q⟩ := z; exact ⟨sg2, H2, J.ofTry ok, q⟩
    | ret u => obtain ⟨v, sg2, H2, J, rv, q⟩ := z; exact ⟨v, sg2, H2, J.ofTry ok, rv, q⟩
end
end Br
set_option Elab.async false
set_option autoImplicit false
set_option linter.all false
set_option maxRecDepth 100000
set_option maxHeartbeats 1100000
namespace Br
open PySem PySem.Spec PyProof.Rows L2 Mini
section
variable {X : Cx} {Ga : Nat → Addr} {pin : Pin} {Wd : WX} {ph : Nat → Addr} {h : MH} {r : Mini.Env} {sg : L2.St} {H : Hp} {a b c e : Expr} {es rest : List Expr} {pos : Pos} {m : Mini.E} {ms mk : Mini.A} {body : List Stmt} {sb : Mini.S}
/-! ### try -/
inductive HdM (X : Cx) (Ga : Nat → Addr) (n : Nat) : List ExceptHandler → List Mini.Hd → Prop
  | nil : HdM X Ga n [] []
  | cons {x : Str} {cv : Value} {k : Mini.Hd} {nm : Option Str} {b : Stmt} {suite : List Stmt} {np p : Pos} {hds : List ExceptHandler} {ks : List Mini.Hd} (hc : Names X x cv) (hn : NameOk X nm k.i)
      (hx : ∀ q, q < n → PySem.W.exmOne X.K (.ref (Ga q)) cv = some (k.m q))
      (hsu : ∀ (a : Addr) (pn : List (Addr × Obj)), PSs (X.suite a pn) (b :: suite) (tS X.K Ga none W0 k.s)) (r : HdM X Ga n hds ks) :
      HdM X Ga n (.ExceptHandler (some (.Name x np)) nm (b :: suite) p :: hds) (k :: ks)
theorem SR.off {K : PySem.W.Frag} {pin' : Pin} (s : SR K Ga pin' ph h r sg H) (i : Option Nat) : SR K Ga none ph h (noSlot i r) (offI i sg) H := by
  cases i with
  | none => exact ⟨s.hr, s.len, s.val, fun _ e => nomatch e⟩
  | some i =>
    refine ⟨s.hr, by show (sg.set i none).length = (r.set i none).length; rw [List.length_set, List.length_set, s.len], fun j w e => ?_, fun _ e => nomatch e⟩
    have e' : (r.set i none)[j]? = some (some w) := e
    show (sg.set i none)[j]? = _ ∧ _
    by_cases c : i = j
    · subst c
      by_cases l : i < r.length
      · rw [List.getElem?_set_self l] at e'; cases e'
      · rw [List.getElem?_eq_none (by rw [List.length_set]; omega)] at e'; cases e'
    · rw [List.getElem?_set_ne c] at e'
      rw [List.getElem?_set_ne c]
      exact s.val j w e'
theorem SR.on {K : PySem.W.Frag} (s : SR K Ga none ph h r sg H) (i : Option Nat) {a : Addr} {c : Nat} {d : Option Nat} (na : H a = none) (cx : ExcX K (Ga c)) (hn : ∀ k, d = some k → k < h.length) :
    SR K Ga none (ext ph h.length a) (h ++ [.exo c d]) (onSlot i h.length r) (onI i a sg) (upd H a (ExQ (.ref (Ga c)) (d.map ph) a)) := by
  have R : HR K Ga (ext ph h.length a) (h ++ [.exo c d]) (upd H a (ExQ (.ref (Ga c)) (d.map ph) a)) := s.hr.push na ⟨⟨by
    rw [upd_same]
    cases d with
    | none => rfl
    | some k => show some (ExQ _ (some (ph k)) a) = some (ExQ _ (some (ext ph h.length a k)) a); rw [ext_lt (hn k rfl)], cx⟩, fun k hk => Nat.lt_succ_of_lt (hn k hk)⟩
  have s2 := s.grow Grow.ext R
  cases i with
  | none => exact s2
  | some i =>
    have q := s2.put (j := i) (w := .ref h.length) (by show h.length < _; rw [List.length_append]; exact Nat.lt_succ_self _) lets0
    rw [show vW (ext ph h.length a) (.ref h.length) = V.ref a from congrArg V.ref ext_at] at q
    exact q
theorem hd_split {n : Nat} {hds : List ExceptHandler} {ks : List Mini.Hd} (hxc : ∀ q, q < n → ExcX X.K (Ga q)) (hh : HdM X Ga n hds ks) : ∃ kl : List Cls_, Hds X hds kl ∧ ∀ (D : Ends) (c : Nat) (d : Option Nat) (ph : Nat → Addr) (h : MH) (r : Mini.Env) (sg : L2.St) (H : Hp),
    SR X.K Ga none ph h r sg H → (∀ k, d = some k → k < h.length) → rdS X.K Ga none Wd ph h (hRun n c d ks r h) D → wAll X.K Wd D kl (.ref (Ga c)) (d.map ph) sg H := by
  induction hh with
  | nil => exact ⟨[], .nil, fun D c d ph h r sg H s hd x => x ph sg H (Grow.refl _ _) s hd⟩
  | @cons x cv k nm b suite np p hds2 ks2 hc hn hx hsu rr ih =>
    obtain ⟨kl, h1, h2⟩ := ih
    refine ⟨⟨cv, k.i, fun _ _ _ => tS X.K Ga none W0 k.s⟩ :: kl, .cons hc hn (fun a cls d pn => hsu a pn) h1, fun D c d ph h r sg H s hd x => ?_⟩
    simp only [hRun] at x
    by_cases cn : c < n
    · rw [if_pos cn] at x
      refine ⟨k.m c, hx c cn, fun em a na => ?_, fun em => ?_⟩
      · rw [if_pos em] at x
        refine ⟨_, _, _, s.on k.i na (hxc c cn) hd, ?_⟩
        have x' := rdS.base (Grow.ext (ph := ph) (h := h) (a := a) (c := .exo c d)) x
        cases e : k.s (onSlot k.i h.length r) (h ++ [.exo c d]) with
        | ok f r2 h3 =>
          rw [e] at x'
          cases f with
          | nx => exact fun ph2 sg2 H2 g S => x' ph2 _ H2 g (S.off k.i)
          | bk => exact fun ph2 sg2 H2 g S => x' ph2 _ H2 g (S.off k.i)
          | ct => exact fun ph2 sg2 H2 g S => x' ph2 _ H2 g (S.off k.i)
          | rt w => exact x'
        | exc c2 d2 r2 h3 => rw [e] at x'; exact x'.elim
        | bad => rw [e] at x'; exact x'.elim
      · rw [if_neg (by rw [em]; exact Bool.false_ne_true)] at x
        exact h2 D c d ph h r sg H s hd x
    · rw [if_neg cn] at x
      exact x.elim
theorem s_try {n len : Nat} {h0 : ExceptHandler} {hds : List ExceptHandler} {ks : List Mini.Hd} (hs : X.stack = X.env :: X.outer) (hf : X.env.frame = some X.env.locals) (hN : X.N.Nodup) (hl : X.N.length = len) (tk : Takes X Wd) (hxc : ∀ q, q < n → ExcX X.K (Ga q))
    (hb : ∀ (W : WX) (pn : List (Addr × Obj)) (xe : Value → Shared → Prop), Takes (X.tr pn xe) W → PassesOwn (model X.prog X.w) X.A X.env xe → PSs (X.tr pn xe) body (tS X.K Ga none W sb))
    (hh : HdM X Ga n (h0 :: hds) ks) : PS X (.Try body (h0 :: hds) [] [] pos) (tS X.K Ga none Wd (sTry n len sb ks)) := by
  obtain ⟨kl, h1, h2⟩ := hd_split (Wd := Wd) hxc hh
  refine PS.imp (try_all (tb := fun W => tS X.K Ga none W sb) hs hf hN tk hb h1) fun D sg H ⟨ph, h, r, s, x⟩ => ⟨ph, h, r, s, ?_⟩
  unfold sTry at x
  cases e : sb r h with
  | ok f r1 h1 => rw [e] at x; cases f <;> exact x
  | bad => rw [e] at x; exact x.elim
  | exc c d r1 h1 =>
    rw [e] at x
    intro ph2 sg2 H2 g S dw
    simp only [] at x
    by_cases c1 : r1.length = len
    · rw [if_pos c1] at x
      exact h2 D c d ph2 h1 r1 sg2 H2 S dw (rdS.base g x)
    · rw [if_neg c1] at x
      exact x.elim
/-- err.f, err an exception's object -/
def tXq (f : Str) (te : TE) : TE := fun σ H Q => te σ H fun x H1 => ∃ (a C dd : Addr) (fs : List (Str × V)) (v : V), x = .ref a ∧ H1 a = some (ExQ (.ref C) (some dd) a) ∧ H1 dd = some (.xd fs) ∧ fs.lookup f = some v ∧ XfC X.K C ∧ PySem.W.findIn X.K (.ref C) f = some none ∧ Q v H1
/-- an exception's object and its own dict, as the library's readings take them -/
theorem exc_inst {pins : List (Addr × Obj)} {s : Shared} {a C dd : Addr} {fs : List (Str × V)} {n : Str} {v : V} (I : Inv X pins sg H s) (ha : H a = some (ExQ (.ref C) (some dd) a)) (hd : H dd = some (.xd fs)) (l : fs.lookup n = some v) :
    ∃ oe od u, PySem.W.InstAt s.heap a oe C (some od) ∧ PySem.W.lookIn n od = some (some u) ∧ RelV v u := by
  obtain ⟨⟨oe, he, hz, vs, hv⟩, _, _⟩ := I.hok a _ ha
  obtain ⟨mA, own, rel⟩ : ObjOk X.prog X.w H s.heap dd (.xd fs) := I.hok dd _ hd
  obtain ⟨od, at_, look⟩ := lookIn_ns own
  obtain ⟨u, eu, ru⟩ := RelO.some_of (o := mA n) (show RelO (some v) (mA n) by rw [← l]; exact rel n)
  exact ⟨oe, od, u, ⟨he, hz.1, by unfold PySem.W.notCls; rw [hv] <;> rfl, by rw [hz.2]; exact at_⟩, by rw [look, eu], ru⟩
theorem pe_xq {e : Expr} {te : TE} {n : Str} (he : PE X e te) (hb : attributeBase e n X.env (eval e X.env) = eval e X.env := by rfl) : PE X (.Attribute e n pos) (tXq (X := X) n te) := by
  refine ⟨fun pins s sg H Q I want => attr_of hb (thn (he.run pins s sg H _ I want) fun u s1 hh => ?_)⟩
  obtain ⟨x, H1, I1, rx, a, C, dd, fs, v, rfl, ha, ea, l, T, hno, q⟩ := hh
  have eu : u = Value.ref a := rx
  subst eu
  obtain ⟨oe, od, w, J, lw, rw_⟩ := exc_inst I1 ha ea l
  refine HandSPX.exc_get I1.kIn J T.ga T.gg T.exC (PySem.W.findObj_own T.hdC hno rfl lw) (handed_of rw_) ?_
  exact ⟨v, H1, I1.tok _, rw_, q⟩
theorem fs_look {f : Str} {w : Mini.W} : ∀ {fs : List (Str × Mini.W)}, fs.lookup f = some w → (∃ p ∈ fs, p.2 = w) ∧ (fsV ph fs).lookup f = some (vW ph w)
  | [], e => by cases e
  | (k, v) :: ys, e => by
    rw [List.lookup_cons] at e
    show _ ∧ ((k, vW ph v) :: fsV ph ys).lookup f = _
    rw [List.lookup_cons]
    cases c : f == k with
    | true => rw [c] at e; cases e; exact ⟨⟨_, List.mem_cons_self, rfl⟩, rfl⟩
    | false =>
      rw [c] at e
      obtain ⟨⟨p, hp, q⟩, z⟩ := fs_look (fs := ys) e
      exact ⟨⟨p, List.mem_cons_of_mem _ hp, q⟩, z⟩
theorem e_xfl {ok : Nat → Bool} {f : Str} {e : Expr} (hno : ∀ c, ok c = true → PySem.W.findIn X.K (.ref (Ga c)) f = some none) (he : PE X e (tE X.K Ga pin Wd m)) (hb : attributeBase e f X.env (eval e X.env) = eval e X.env := by rfl) :
    PE X (.Attribute e f pos) (tE X.K Ga pin Wd (eXfl ok f m)) := by
  refine PE.imp (pe_xq he hb) fun sg H Q ⟨ph, h, r, s, x⟩ => ?_
  refine ⟨ph, h, r, s, x.bind fun u h1 _ ph1 H1 b1 g1 R1 ⟨eb1, w1⟩ x1 => ?_⟩
  unfold xfOf at x1
  cases u with
  | ref a =>
    simp only [] at x1
    cases e1 : h1[a]? with
    | none => rw [e1] at x1; exact x1.elim
    | some cl =>
      rw [e1] at x1
      cases cl with
      | exo c d =>
        cases d with
        | none => exact x1.elim
        | some d =>
          simp only [] at x1
          cases e2 : h1[d]? with
          | none => rw [e2] at x1; exact x1.elim
          | some cd =>
            rw [e2] at x1
            cases cd with
            | xd fs =>
              simp only [] at x1
              cases e3 : fs.lookup f with
              | none => rw [e3] at x1; exact x1.elim
              | some w =>
                rw [e3] at x1
                simp only [] at x1
                by_cases ko : ok c = true
                · rw [if_pos ko] at x1
                  obtain ⟨⟨q1, cx⟩, _⟩ := R1.cells a _ e1
                  obtain ⟨q2, q3⟩ := R1.cells d _ e2
                  obtain ⟨⟨p, hp, rfl⟩, lk⟩ := fs_look (ph := ph1) e3
                  exact ⟨ph1 a, Ga c, ph1 d, _, _, eb1, q1, q2, lk, cx.xf, hno c ko, rd_ok x1 R1 (q3 p hp)⟩
                · rw [if_neg ko] at x1; exact x1.elim
            | _ => exact x1.elim
      | _ => exact x1.elim
  | _ => exact x1.elim
/-! ### raise -/
/-- what __init__ of an error's class does: it keeps its argument under f -/
def spI (f : Str) (C : Addr) : Sp := fun vs H Q _ => ∃ (a : Addr) (v : V), vs = [.ref a, v] ∧ H a = some (exo a C none) ∧ ∀ dx, H dx = none → dx ≠ a → Q .non (upd (upd H dx (exd dx [(f, v)])) a (exo a C (some dx)))
theorem upd_del {H : Hp} {a d : Addr} {o1 o2 o3 o4 : HO} (ha : H a = none) (hd : d ≠ a) : upd (del (upd (upd (upd H a o1) d o2) a o3) a) d o4 = upd H d o4 := by
  funext b
  unfold upd del
  by_cases c : b = d
  · rw [if_pos c, if_pos c]
  · rw [if_neg c, if_neg c]
    by_cases c2 : b = a
    · rw [if_pos c2, c2, ha]
    · rw [if_neg c2]
      show (if b = a then some o3 else if b = d then some o2 else if b = a then some o1 else H b) = H b
      rw [if_neg c2, if_neg c, if_neg c2]
/-- an error's class -/
structure ErrC (K : PySem.W.Frag) (mg : Str → Option Value) (P : Program) (w : World) (base : Heap) (x f : Str) (C : Addr) : Prop where
  g : mg x = some (.ref C)
  o : OexC K C
  init : ∃ (fI : Addr) (fd : FuncData) (ps : List Str), PySem.W.findIn K (.ref C) "__init__" = some (some (.ref fI)) ∧ PySem.W.typeIn K (.ref fI) = some (.type "function") ∧ FnOk P w K mg base CX0 1 fI fd ps (spI f C) ∧ Binds K fd ps []
theorem s_raise {x f : Str} {ci : Nat} {p pos2 : Pos} (hc : X.calm = true) (tk : Takes X Wd) (T : ErrC X.K X.mg X.prog X.w X.base x f (Ga ci)) (hr : Room 2 X.A) (hg : Gl X x) (he : PE X e (tE X.K Ga pin Wd m)) (hdb : (x == ("__debug__" : Str)) = false := by decide)
    (hst : starEach (e :: []) X.env = (false, eval e X.env) :: starEach [] X.env := by rfl) (hpl : (backTo pos (starEach [] X.env)).any (·.1) = false := by rfl) :
    PS X (.Raise (some (.Call (.Name x p) [e] [] pos)) none pos2) (tS X.K Ga pin Wd (sRaise ci f m)) := by
  obtain ⟨fI, fd, ps, i1, i2, i3, i4⟩ := T.init
  refine PS.imp (ps_raise hc tk (pmk_oex T.o i1 i2 i3 hr i4 .nil (fun _ _ _ _ _ _ _ z => z.elim) hg T.g (pa_cons he pa_nil hst) hdb hst hpl)) fun D sg H ⟨ph, h, r, s, x⟩ => ⟨ph, h, r, s, ?_⟩
  refine st_of (k := fun w h1 => .exc ci (some h1.length) r (h1 ++ [.xd [(f, w)]])) (D := D) s ?_ fun w h1 ph1 H1 b g S rl x1 => ?_
  · unfold sRaise at x
    cases e : m r h <;> (rw [e] at x; exact x)
  · refine ⟨by show 1 ≤ 1000; decide, fun a ha => ⟨a, b, rfl, upd_same, fun dx hdx ne => ⟨rfl, dx, [(f, b)], upd_same, ?_, ?_, ?_⟩⟩⟩
    · rw [upd_ne ne, upd_same]
    · rw [upd_ne ne] at hdx; exact hdx
    · rw [upd_del ha ne]
      have hdx' : H1 dx = none := by rw [upd_ne ne] at hdx; exact hdx
      have wfu : ∀ p ∈ [(f, w)], wf (h1.length + 1) p.2 := fun p hp => by
        rw [List.mem_singleton.mp hp]
        exact rl.2.mono (Nat.le_succ _)
      have R2 : HR X.K Ga (ext ph1 h1.length dx) (h1 ++ [.xd [(f, w)]]) (upd H1 dx (.xd [(f, b)])) := S.hr.push hdx' ⟨by
        rw [show fsV (ext ph1 h1.length dx) [(f, w)] = [(f, b)] by show [(f, vW (ext ph1 h1.length dx) w)] = _; rw [(Grow.ext (c := Cell.lst [])).v rl.2, rl.1]]
        exact upd_same, wfu⟩
      have q := x1 _ sg _ Grow.ext (S.grow Grow.ext R2) (fun k e => by cases e; rw [List.length_append]; exact Nat.lt_succ_self _)
      rw [show (some h1.length).map (ext ph1 h1.length dx) = some dx from congrArg some ext_at] at q
      exact q
/-- C(e), an exception's object as a value -/
theorem pe_mk {t : L2.St → Hp → XK → Prop} (he : PMk X e t) : PE X e (fun σ H Q => t σ H fun cls d H' => ∀ a, H' a = none → Q (.ref a) (upd H' a (ExQ cls d a))) := by
  refine ⟨fun pins s σ H Q I want => wpAny_mono (he pins s σ H _ I want) (fun u s1 hu => ?_) fun _ _ x => x⟩
  obtain ⟨a, oe, vs, sI, H', cls, d, rfl, J, k, hne, at_, hz, hd, _, na, os, ag, _, q⟩ := hu
  have nfr : a ∉ frs X.stack := fun hb => by
    obtain ⟨_, o, e0, _⟩ := J.stack.mem hb
    rw [hne] at e0
    cases e0
  exact ⟨.ref a, _, InvLandedT J (B := sI.heap) (fun b o e _ => e) k (Heap.UpToSlots.of_keeps k) os ag na hne nfr (exq_ok at_ hz hd), rfl, q a na⟩
theorem e_err {x f : Str} {ci : Nat} {p : Pos} (T : ErrC X.K X.mg X.prog X.w X.base x f (Ga ci)) (cx : ExcX X.K (Ga ci)) (hr : Room 2 X.A) (hg : Gl X x) (he : PE X e (tE X.K Ga pin Wd m)) (hdb : (x == ("__debug__" : Str)) = false := by decide)
    (hst : starEach (e :: []) X.env = (false, eval e X.env) :: starEach [] X.env := by rfl) (hpl : (backTo pos (starEach [] X.env)).any (·.1) = false := by rfl) :
    PE X (.Call (.Name x p) [e] [] pos) (tE X.K Ga pin Wd (eErr ci f m)) := by
  obtain ⟨fI, fd, ps, i1, i2, i3, i4⟩ := T.init
  refine PE.imp (pe_mk (pmk_oex T.o i1 i2 i3 hr i4 .nil (fun _ _ _ _ _ _ _ z => z.elim) hg T.g (pa_cons he pa_nil hst) hdb hst hpl)) fun sg H Q ⟨ph, h, r, s, x⟩ => ⟨ph, h, r, s, ?_⟩
  refine x.bind fun w h1 _ ph1 H1 b g R rl x1 => ?_
  refine ⟨by show 1 ≤ 1000; decide, fun a ha => ⟨a, b, rfl, upd_same, fun dx hdx ne => ⟨rfl, dx, [(f, b)], upd_same, ?_, ?_, ?_⟩⟩⟩
  · rw [upd_ne ne, upd_same]
  · rw [upd_ne ne] at hdx; exact hdx
  · rw [upd_del ha ne]
    intro a2 na2
    have hdx' : H1 dx = none := by rw [upd_ne ne] at hdx; exact hdx
    have wfu : ∀ p ∈ [(f, w)], wf (h1.length + 1) p.2 := fun p hp => by
      rw [List.mem_singleton.mp hp]
      exact rl.2.mono (Nat.le_succ _)
    have R2 : HR X.K Ga (ext ph1 h1.length dx) (h1 ++ [.xd [(f, w)]]) (upd H1 dx (.xd [(f, b)])) := R.push hdx' ⟨by
      rw [show fsV (ext ph1 h1.length dx) [(f, w)] = [(f, b)] by show [(f, vW (ext ph1 h1.length dx) w)] = _; rw [(Grow.ext (c := Cell.lst [])).v rl.2, rl.1]]
      exact upd_same, wfu⟩
    have l1 : (h1 ++ [Cell.xd [(f, w)]]).length = h1.length + 1 := by rw [List.length_append]; rfl
    have R3 := R2.push (c := .exo ci (some h1.length)) (o := ExQ (.ref (Ga ci)) (some dx) a2) na2 ⟨⟨by
      rw [upd_same]
      show some (ExQ _ (some dx) a2) = some (ExQ _ (some (ext (ext ph1 h1.length dx) _ a2 h1.length)) a2)
      rw [ext_lt (by rw [l1]; exact Nat.lt_succ_self _), ext_at], cx⟩, fun k hk => by cases hk; rw [l1]; omega⟩
    have q := x1 _ _ (.ref a2) (Grow.trans Grow.ext (show Grow (ext ph1 h1.length dx) (h1 ++ [.xd [(f, w)]]) _ (h1 ++ [Cell.xd [(f, w)]] ++ [.exo ci (some h1.length)]) from Grow.ext) |> fun g => (by rw [List.append_assoc] at g; exact g)) (by rw [List.append_assoc] at R3; exact R3)
      ⟨by show V.ref a2 = V.ref (ext _ _ a2 (h1.length + 1)); rw [← l1, ext_at], by show h1.length + 1 < (h1 ++ [Cell.xd [(f, w)], Cell.exo ci (some h1.length)]).length; rw [List.length_append]; exact Nat.lt_succ_self _⟩
    exact q
/-! ### repr -/
theorem fx_repr {K : PySem.W.Frag} : True := trivial
end
end Br
set_option Elab.async false
set_option autoImplicit false
set_option linter.all false
set_option maxRecDepth 100000
set_option maxHeartbeats 1100000
namespace Br
open PySem PySem.Spec PyProof.Rows L2 Mini
/-! ### repr -/
section
variable {K : PySem.W.Frag} {H : Hp}
mutual
theorem dp_nodict : ∀ {d : PyData} {v : V}, Dp K H v d → d.hasDict = false
  | .none, _, _ => by simp only [PyData.hasDict]
  | .bool _, _, _ => by simp only [PyData.hasDict]
  | .int _, _, _ => by simp only [PyData.hasDict]
  | .str _, _, _ => by simp only [PyData.hasDict]
  | .list xs, _, h => by
    cases h with
    | lst _ q => simp only [PyData.hasDict]; exact dps_nodict q
  | .tuple xs, _, h => by
    cases h with
    | tup _ q => simp only [PyData.hasDict]; exact dps_nodict q
  | .dict _, _, h => nomatch h
theorem dps_nodict : ∀ {ds : List PyData} {vs : List V}, DpAll K H vs ds → PyData.hasDictAll ds = false
  | [], _, _ => by simp only [PyData.hasDictAll]
  | d :: ds, _, .cons h r => by simp only [PyData.hasDictAll, dp_nodict h, dps_nodict r, Bool.or_self]
end
end
def SclV : V → PyData → Prop
  | .non, d => d = .none
  | .bl b, d => d = .bool b
  | .int i, d => d = .int i
  | .str s, d => d = .str s
  | _, _ => False
theorem scl_reads {h : Heap} {v : V} {u : Value} {d : PyData} (s : SclV v d) (r : RelV v u) : Reads h u d [] := by
  cases v with
  | non => cases s; cases r; exact .none
  | bl b => cases s; cases r; exact .bool b
  | int i => cases s; obtain ⟨t, rfl⟩ := r; exact .int i t
  | str x => cases s; obtain ⟨t, rfl⟩ := r; exact .str x t
  | _ => exact s.elim
inductive KvD : List (Key × V) → List (PyData × PyData) → Prop
  | nil : KvD [] []
  | cons {k : Key} {v : V} {d : PyData} {kvs : List (Key × V)} {D : List (PyData × PyData)} : SclV v d → KvD kvs D → KvD ((k, v) :: kvs) ((keyData k, d) :: D)
theorem kvd_reads {h : Heap} {kvs : List (Key × V)} {D : List (PyData × PyData)} (q : KvD kvs D) : ∀ {vs : List (Key × Value)}, KV kvs vs → PyProof.V.PairsRead h keyData vs D [] := by
  induction q with
  | nil => intro vs r; cases r; exact .nil
  | @cons k v d kvs D s q ih =>
    intro vs r
    cases r with
    | @cons _ y _ ys r1 r2 =>
      obtain ⟨k', u⟩ := y
      obtain ⟨e, rv⟩ := r1
      have e' : k = k' := e
      subst e'
      exact .cons (as := []) (scl_reads s rv) (ih r2)
/-- what repr tells of a value -/
def DpR (K : PySem.W.Frag) (H : Hp) (x : V) (d : PyData) : Prop := Dp K H x d ∨ ∃ a kvs D, x = .ref a ∧ H a = some (.dK kvs) ∧ d = .dict D ∧ KvD kvs D
def rRep (K : PySem.W.Frag) : List V → Hp → VK → Prop := fun xs H Q => ∃ x d, xs = [x] ∧ DpR K H x d ∧ d.showable = true ∧ d.depth ≤ 64 ∧ d.shown.length ≤ sizeLine ∧ Q (.str d.shown) H
section
variable {X : Cx}
theorem call_rep (hg : X.A.guards = some []) (hu : X.A.units + 70 < cLine) : CallR X (.builtin "repr") (rRep X.K) := by
  intro pins s sg H xs us Q I rs q
  obtain ⟨x, d, rfl, dp, hs, hd, hz, q⟩ := q
  obtain ⟨u, rfl, ru⟩ := vals1 rs
  have fin : ∀ h' t tk, (∀ b o, s.heap.get? b = some o → h'.get? b = some o) → EP X pins sg Q (.str d.shown t) { s with heap := h', toks := tk } := fun h' t tk k => ⟨.str d.shown, H, I.kept k, ⟨t, rfl⟩, q⟩
  have big : ∀ {a : Addr} {as : List Addr}, Reads s.heap (.ref a) d as → (d.hasDict = true → sysModules ∉ as) → wpAny (model X.prog X.w) X.A (call (.builtin "repr") [.ref a]) (EP X pins sg Q) X.xe s := fun r n =>
    repr_of_reads' r hs n hg (by omega) (fun b o e => e) fin hz
  rcases dp with dp | ⟨a, kvs, D, rfl, ha, rfl, kd⟩
  · obtain ⟨as, rd⟩ := Dp.reads I d x u dp ru
    have nd := dp_nodict dp
    cases dp with
    | non =>
      cases ru
      exact P.repr_of_none (fin s.heap _ _ fun _ _ e => e)
    | bl b =>
      cases ru
      exact P.repr_of_bool (fin s.heap _ _ fun _ _ e => e)
    | int i =>
      obtain ⟨t, rfl⟩ := ru
      exact P.repr_of_int (by simpa [PyData.showable] using hs) (fin s.heap _ _ fun _ _ e => e)
    | str z =>
      obtain ⟨t, rfl⟩ := ru
      exact P.repr_of_str (fin s.heap _ _ fun _ _ e => e) hz
    | lst h1 h2 =>
      cases ru
      exact big rd (PyData.noDict_hsm nd)
    | tup h1 h2 =>
      cases ru
      exact big rd (PyData.noDict_hsm nd)
  · cases ru
    obtain ⟨_, hd2, vs, rel, dd⟩ := dk_of I.hok ha
    have rd : Reads s.heap (.ref a) (.dict D) (a :: []) := PyProof.V.reads_dictOf (enc := keyData) (knd := mixKind X.prog X.w) (fun k key e => by
      rcases keyIs_shape (k := k) (v := key) e with ⟨i, t, rfl, rfl⟩ | ⟨z, t, rfl, rfl⟩
      · exact .int i t
      · exact .str z t) dd (kvd_reads kd rel)
    refine big rd fun _ hm => ?_
    rw [List.mem_singleton] at hm
    rw [hm] at hd2
    simp at hd2
end
section
variable {X : Cx} {Ga : Nat → Addr} {pin : Pin} {Wd : WX} {ph : Nat → Addr} {h : MH} {r : Mini.Env} {sg : L2.St} {H : Hp} {a b c e : Expr} {es rest : List Expr} {kws : List Keyword} {pos : Pos} {m : Mini.E} {ms mk : Mini.A} {body : List Stmt} {sb : Mini.S}
theorem sclData_ok {w : Mini.W} {d : PyData} (e : sclData w = some d) : SclV (vW ph w) d := by
  cases w <;> first | (cases e; rfl) | (cases e; done)
theorem kvData_ok : ∀ {kvs : List (Sum Int Str × Mini.W)} {D : List (PyData × PyData)}, kvData kvs = some D → KvD (kvV ph kvs) D
  | [], D, e => by cases e; exact .nil
  | p :: r, D, e => by
    simp only [kvData] at e
    cases e1 : sclData p.2 with
    | none => rw [e1] at e; cases e
    | some d =>
      cases e2 : kvData r with
      | none => rw [e1, e2] at e; cases e
      | some ds => rw [e1, e2] at e; cases e; exact .cons (sclData_ok e1) (kvData_ok e2)
theorem f_repr : FnS X Ga fRepr (rRep X.K) := by
  intro Wd ph h H sg xs Q R wx q
  match xs, q with
  | [w], q =>
    simp only [fRepr] at q
    cases e : dataR h w with
    | none => rw [e] at q; exact q.elim
    | some d =>
      rw [e] at q
      simp only [] at q
      by_cases c : d.showable = true ∧ d.depth ≤ 64 ∧ d.shown.length ≤ 10000000
      · rw [if_pos c] at q
        refine ⟨vW ph w, d, rfl, ?_, c.1, c.2.1, m_line c.2.2, rd_ok (w := .str d.shown) q R trivial⟩
        unfold dataR at e
        cases e1 : dicAt h w with
        | none =>
          rw [e1] at e
          exact .inl (dataOf_ok R _ _ _ (wx w List.mem_cons_self) e)
        | some kvs =>
          rw [e1] at e
          simp only [] at e
          cases e2 : kvData kvs with
          | none => rw [e2] at e; cases e
          | some D =>
            rw [e2] at e
            cases e
            cases w with
            | ref n =>
              simp only [dicAt] at e1
              cases e3 : h[n]? with
              | none => rw [e3] at e1; cases e1
              | some cl =>
                rw [e3] at e1
                cases cl with
                | dic kvs2 => cases e1; exact .inr ⟨ph n, _, D, rfl, (R.cells n _ e3).1, rfl, kvData_ok e2⟩
                | _ => cases e1
            | _ => cases e1
      · rw [if_neg c] at q
        exact q.elim
theorem e_repr {p : Pos} (hgu : X.A.guards = some []) (hu : X.A.units + 70 < cLine) (hgl : Gl X "repr") (hm : X.mg "repr" = none) (ha : PE X a (tE X.K Ga pin Wd m)) (he : starEach (a :: []) X.env = (false, eval a X.env) :: starEach [] X.env := by rfl) (hpl : (backTo pos (starEach [] X.env)).any (·.1) = false := by rfl) :
    PE X (.Call (.Name "repr" p) [a] [] pos) (tE X.K Ga pin Wd (eFn fRepr (aCons m aNil))) :=
  e_fnB (call_rep hgu hu) f_repr hgl hm (by decide +kernel) (a_cons ha a_nil he) (by decide) (by decide) he hpl
/-! ### defs -/
structure RoomG (k : Nat) (A : Around) : Prop where
  room : Room k A
  g : A.guards = some []
theorem RoomG.deeper {k : Nat} {A : Around} (q : RoomG (k + 1) A) (env : PySem.Env) : RoomG k (A.deeper env) := ⟨q.room.deeper env, q.g⟩
theorem RoomG.mono {j k : Nat} {A : Around} (q : RoomG k A) (l : j ≤ k) : RoomG j A := ⟨q.room.mono l, q.g⟩
/-- the promise of a def that Mini's function m tells -/
def spM (K : PySem.W.Frag) (Ga : Nat → Addr) (m : Mini.F) : Sp := fun vs H Q E => ∃ ph h ws, HR K Ga ph h H ∧ vs = ws.map (vW ph) ∧ (∀ w ∈ ws, wf h.length w) ∧ rd K Ga (fun c d _ H => E c d H) relW ph h [] (m ws h) Q
structure FnM (P : Program) (w : World) (K : PySem.W.Frag) (mg : Str → Option Value) (base : Heap) (Ga : Nat → Addr) (k : Nat) (f : Addr) (fd : FuncData) (ps : List Str) (m : Mini.F) : Prop where
  len : ∀ ws h, ws.length ≠ ps.length → m ws h = .bad
  run : ∀ (A : Around) (outer : List PySem.Env) (s : Shared) (H : Hp) (args : Args) (us : List Value) (vs : List V) (Q : VK) (E : XK), RoomG k A → Env0 P w K mg base A outer s H → BindsTo s fd args (ps.zip us) → Vals vs us → spM K Ga m vs H Q E →
    codeAny (model P w) A (.call (.ref f) args) (CR (L2.CX P w) outer P w H s Q E) s
theorem FnM.mono {P : Program} {w : World} {K : PySem.W.Frag} {mg : Str → Option Value} {base : Heap} {j k : Nat} {f : Addr} {fd : FuncData} {ps : List Str} {m : Mini.F} (F : FnM P w K mg base Ga j f fd ps m) (l : j ≤ k) : FnM P w K mg base Ga k f fd ps m :=
  ⟨F.len, fun A outer s H args us vs Q E hr => F.run A outer s H args us vs Q E (hr.mono l)⟩
theorem fnOf_len {n p : Nat} {b : Mini.S} {ws : List Mini.W} {h : MH} (c : ws.length ≠ p) : fnOf n p b ws h = .bad := by
  unfold fnOf
  rw [if_neg c]
theorem sr_start {K : PySem.W.Frag} {ws : List Mini.W} {N : List Str} (R : HR K Ga ph h H) (hw : ∀ w ∈ ws, wf h.length w) : SR K Ga none ph h (begin_ N.length ws) (L2.start N (ws.map (vW ph))) H := by
  refine ⟨R, ?_, fun i w e => ?_, fun _ e => nomatch e⟩
  · unfold begin_ L2.start
    simp only [List.length_append, List.length_map, List.length_replicate]
  · unfold begin_ at e
    unfold L2.start
    by_cases c : i < (ws.map some).length
    · rw [List.getElem?_append_left c, List.getElem?_map] at e
      rw [List.getElem?_append_left (by rw [List.length_map, List.length_map]; rw [List.length_map] at c; exact c), List.getElem?_map, List.getElem?_map]
      cases e1 : ws[i]? with
      | none => rw [e1] at e; cases e
      | some u =>
        rw [e1] at e
        cases e
        exact ⟨rfl, hw _ (List.mem_of_getElem? e1)⟩
    · rw [List.getElem?_append_right (by omega)] at e
      have := List.mem_replicate.mp (List.mem_of_getElem? e)
      exact nomatch this.2
/-- THE RULE for a def: its body does what Mini's statement does -/
theorem fnm_of {P : Program} {w : World} {K : PySem.W.Frag} {mg : Str → Option Value} {base : Heap} {k : Nat} {f : Addr} {name qual : Str} {params : Arguments} {bd : List Stmt} {scope : Scope} {dV kV doc pm cdv ct oc : Value} {an od : Option Addr} {osl : Array (Option Value)} {N ps : List Str}
    (lk : K.lookup f = some ⟨oc, od, .func (PySem.W.fnOf name qual params bd scope dV kV doc pm an cdv ct), osl⟩) (hcd : PySem.W.codeIn K cdv qual = true) (S : FnScope N ps scope)
    (hbody : ∀ (A : Around) (outer : List PySem.Env) (s : Shared) (H : Hp) (E : XK), RoomG k (A.deeper (envOfC qual scope s.heap.objs.size f cdv)) →
      PSs (cxOf (L2.CX P w) P w K mg base N qual scope f cdv A outer s H E) bd (tS K Ga none (fun c d _ H => E c d H) sb)) :
    FnM P w K mg base Ga (k + 1) f (PySem.W.fnOf name qual params bd scope dV kV doc pm an cdv ct) ps (fnOf N.length ps.length sb) := by
  refine ⟨fun ws h c => fnOf_len c, fun A outer s H args us vs Q E hr e0 hb rv hsp => ?_⟩
  obtain ⟨ph, h, ws, R, rfl, hw, x⟩ := hsp
  have hl : ws.length = ps.length := by
    by_cases c : ws.length = ps.length
    · exact c
    · rw [fnOf_len c] at x; exact x.elim
  have hl2 : (ws.map (vW ph)).length = ps.length := by rw [List.length_map]; exact hl
  have KX : K.In s.heap := e0.mod.kin.keeps (fun b o e => (e0.bs b o e).1)
  have lim : s.heap.NoLimit := e0.mod.nolimit.keeps (fun b o e => (e0.bs b o e).1)
  refine codeAny_call_function hr.room.depth (KX _ _ lk) rfl S.co S.gen rfl (PySem.W.codeRec_of KX hcd) (hb _ _ _ _ ?_)
  refine wpAny_newFunctionEnv_cells S.kind (fun ⟨n, v⟩ hy => ?_) fun env he s1 z => ?_
  · rcases S.par n (List.of_mem_zip hy).1 with q | q
    · exact .inl q
    · exact Or.inr ⟨q, PySem.W.cellsFrom_some _ _ _ (.inl q)⟩
  subst he
  refine ⟨lim.keeps z.toInCall.keep, codeAny_func ?_⟩
  have I : Inv (cxOf (L2.CX P w) P w K mg base N qual scope f cdv A outer s H E) [] (L2.start N (ws.map (vW ph))) H s1 := inv_start S hr.room.hd e0 hl2 rv z
  have body := hbody A outer s H E (hr.deeper _)
  have want : tS K Ga none (fun c d _ H => E c d H) sb { nx := fun _ H' => Q .non H', rt := Q } (L2.start N (ws.map (vW ph))) H := by
    refine ⟨ph, h, begin_ N.length ws, sr_start R hw, ?_⟩
    unfold fnOf at x
    rw [if_pos hl] at x
    cases e : sb (begin_ N.length ws) h with
    | ok fl r1 h1 =>
      rw [e] at x
      cases fl with
      | nx => exact fun ph' sg' H' g S' => x ph' H' .non g S'.hr ⟨rfl, trivial⟩
      | rt u => exact fun ph' H' g R' wu => x ph' H' _ g R' ⟨rfl, wu⟩
      | bk => exact x.elim
      | ct => exact x.elim
    | exc c d r1 h1 =>
      rw [e] at x
      exact fun ph' sg' H' g S' hd => x ph' H' g S'.hr hd
    | bad => rw [e] at x; exact x.elim
  refine wpAny_mono (body.run [] s1 _ H _ I want) (fun fl s' q => ?_) fun e s' q => q
  have fin : ∀ {sg' : L2.St} {H' : Hp} {v : V} {u : Value}, Inv (cxOf (L2.CX P w) P w K mg base N qual scope f cdv A outer s H E) [] sg' H' s' → RelV v u → Q v H' → CE outer P w H s Q u s' :=
    fun {sg' H' v u} J rv q => ⟨v, H', J.os, J.bare, J.base, J.hok, rv, q⟩
  cases fl with
  | ret u => obtain ⟨v, sg', H', J, rv, q⟩ := q; exact fin J rv q
  | next => obtain ⟨sg', H', J, q⟩ := q; exact fin (v := .non) (u := .none) J rfl q
  | brk => obtain ⟨_, _, _, q⟩ := q; exact q.elim
  | cont => obtain ⟨_, _, _, q⟩ := q; exact q.elim
/-! ### calls -/
theorem run_m {k : Nat} {f : Addr} {fd : FuncData} {ps : List Str} {mf : Mini.F} {pins : List (Addr × Obj)} {s : Shared} {Q : VK} {us : List Value} {args : Args} {ws : List Mini.W} (F : FnM X.prog X.w X.K X.mg X.base Ga k f fd ps mf) (hr : RoomG k X.A) (tk : Takes X Wd)
    (hb : ws.length = ps.length → BindsTo s fd args (ps.zip us)) (I : Inv X pins sg H s) (R : HR X.K Ga ph h H) (hw : ∀ w ∈ ws, wf h.length w) (rv : Vals (ws.map (vW ph)) us) (x : rd X.K Ga Wd relW ph h sg (mf ws h) Q) :
    codeAny (model X.prog X.w) X.A (.call (.ref f) args) (fun rr s' => match rr with | .ok (.ret u) => EP X pins sg Q u s' | .ok _ => False | .error e => X.xe e s') s := by
  have hl : ws.length = ps.length := by
    by_cases c : ws.length = ps.length
    · exact c
    · rw [F.len ws h c] at x; exact x.elim
  have x2 : rd X.K Ga (fun c d _ H => Wd c d sg H) relW ph h [] (mf ws h) Q := by
    revert x
    generalize mf ws h = qq
    intro x
    cases qq with
    | ok a h' => exact x
    | exc c d h' => exact x
    | bad => exact x
  refine codeAny_mono (F.run X.A X.stack s H args us _ Q (fun c d H => Wd c d sg H) hr I.env0 (hb hl) rv ⟨ph, h, ws, R, rfl, hw, x2⟩) fun rr s' q => ?_
  cases rr with
  | error e => exact passAt tk sg pins H s e s' I q
  | ok fl => cases fl with
    | ret u => exact I.after q
    | next => exact False.elim q
    | brk => exact False.elim q
    | cont => exact False.elim q
theorem e_call {x : Str} {p : Pos} {k : Nat} {f : Addr} {fd : FuncData} {ps : List Str} {mf : Mini.F} (F : FnM X.prog X.w X.K X.mg X.base Ga k f fd ps mf) (hr : RoomG k X.A) (hg : Gl X x) (hm : X.mg x = some (.ref f)) (hk : PySem.W.keepIn X.K (.ref f) = true) (hb : Binds X.K fd ps []) (tk : Takes X Wd)
    (ha : PA X (e :: es) (tA X.K Ga pin Wd ms)) (hdb : (x == ("__debug__" : Str)) = false := by decide) (he : starEach (e :: es) X.env = (false, eval e X.env) :: starEach es X.env := by rfl) (hpl : (backTo pos (starEach es X.env)).any (·.1) = false := by rfl) :
    PE X (.Call (.Name x p) (e :: es) [] pos) (tE X.K Ga pin Wd (Mini.eCall mf ms)) := by
  refine ⟨fun pins s sg H Q I ⟨ph, h, r, S, x⟩ => ?_⟩
  refine wpAny_Call_Name_kw (ld_glob I hg hm (?_ : _) hdb)
  have y : tA X.K Ga pin Wd ms sg H (fun vs H1 => ∃ ph1 h1 ws, HR X.K Ga ph1 h1 H1 ∧ vs = ws.map (vW ph1) ∧ (∀ w ∈ ws, wf h1.length w) ∧ rd X.K Ga Wd relW ph1 h1 sg (mf ws h1) Q) :=
    ⟨ph, h, r, S, x.bind fun ws h1 _ ph1 H1 b1 g1 R1 ⟨eb1, w1⟩ x1 => ⟨ph1, h1, ws, R1, eb1, w1, x1⟩⟩
  refine PySem.W.callWith_K (h₀ := X.base) I.ok.mod.kin hk (thn (ha.run pos pins s sg H _ I y) fun us s1 ⟨vs, H1, I1, rv, ph1, h1, ws, R1, ev, w1, x1⟩ => ⟨I1.kIn, ?_⟩) he hpl
  subst ev
  refine wpAny_call (codeAny_mono (run_m F hr tk (fun hl => ?_) I1 R1 w1 rv x1) fun rr s' q => ?_)
  · have b := hb s1 us I1.kIn (by rw [List.append_nil, ← rv.length, List.length_map]; exact hl)
    rw [List.append_nil] at b
    exact b
  · cases rr with
    | error e => exact q
    | ok fl => cases fl <;> first | exact q | exact q.elim
theorem e_call0 {x : Str} {p : Pos} {k : Nat} {f : Addr} {fd : FuncData} {ps : List Str} {mf : Mini.F} (F : FnM X.prog X.w X.K X.mg X.base Ga k f fd ps mf) (hr : RoomG k X.A) (hg : Gl X x) (hm : X.mg x = some (.ref f)) (hk : PySem.W.keepIn X.K (.ref f) = true) (hb : Binds X.K fd ps []) (tk : Takes X Wd)
    (hdb : (x == ("__debug__" : Str)) = false := by decide) : PE X (.Call (.Name x p) [] [] pos) (tE X.K Ga pin Wd (Mini.eCall mf aNil)) := by
  refine ⟨fun pins s sg H Q I ⟨ph, h, r, S, x⟩ => ?_⟩
  refine wpAny_Call_Name_kw (ld_glob I hg hm (?_ : _) hdb)
  refine PySem.W.callWith_KW0 (h₀ := X.base) I.ok.mod.kin hk rfl ?_ rfl
  have x2 : rd X.K Ga Wd relW ph h sg (mf [] h) Q := x
  refine thn ((pk_nil (X := X)).run pos pins s sg H (fun zs H1 => zs = [] ∧ H1 = H) I ⟨rfl, rfl⟩) fun us s1 ⟨vs, H1, I1, rv, e1, e2⟩ => ⟨I1.kIn, ?_⟩
  subst e1
  subst e2
  cases rv
  refine wpAny_call (codeAny_mono (run_m (ws := []) (us := []) F hr tk (fun hl => ?_) I1 S.hr (fun _ hx => nomatch hx) .nil x2) fun rr s' q => ?_)
  · have b := hb s1 [] I1.kIn (by rw [List.append_nil]; exact hl)
    rw [List.append_nil] at b
    exact b
  · cases rr with
    | error e => exact q
    | ok fl => cases fl <;> first | exact q | exact q.elim
end
end Br
set_option Elab.async false
set_option autoImplicit false
set_option linter.all false
set_option maxRecDepth 100000
set_option maxHeartbeats 1100000
namespace Br
open PySem PySem.Spec PyProof.Rows L2 Mini
/-! ### the end of a law -/
/-- the cell of the script -/
def Script (ns : List Int) (c : Cell) : Prop := c = .fz (ns.map .int) ∨ c = .cl (ns.map .int)
theorem map_ints {ph : Nat → Addr} {ns : List Int} : (ns.map Mini.W.int).map (vW ph) = ns.map V.int := by rw [List.map_map]; rfl
theorem wf_ints {n : Nat} {ns : List Int} : ∀ x ∈ ns.map Mini.W.int, wf n x := fun x hx => by
  obtain ⟨i, _, rfl⟩ := List.mem_map.mp hx
  trivial
theorem one_cell {K : PySem.W.Frag} {Ga : Nat → Addr} {a : Addr} {c : Cell} {H : Hp} (q : CellAt K Ga (fun _ => a) 1 H a c) : HR K Ga (fun _ => a) [c] H := by
  constructor
  · intro i x e
    cases i with
    | zero => cases e; exact q
    | succ i => simp at e
  · intro i j ci cj ne ei ej _ _
    cases i with
    | zero => cases j with
      | zero => exact absurd rfl ne
      | succ j => simp at ej
    | succ i => simp at ei
theorem law_run {P : Program} {w : World} {K : PySem.W.Frag} {mg mb : Str → Option Value} {Ga : Nat → Addr} {k : Nat} {fa a : Addr} {fd : FuncData} {x : Str} {m : Mini.F} {s1 : Shared} {vs : List Value} {ns : List Int}
    (KX : K.In s1.heap) (hns : s1.heap.Ns mainGlobals mg) (hb : s1.heap.Ns builtinsNs mb) (hbb : ∀ x : Str, x ≠ "__name__" → mb x = bootBuiltins x) (hlim : s1.heap.NoLimit) (hg : s1.gens = #[])
    (ha : s1.heap.get? a = some { cls := .type "list", data := .seq vs.toArray }) (hi : IntsAre vs ns) (hl : ns.length ≤ sizeLine) (hr : RoomG k callerA)
    (F : ∀ base : Heap, K.In base → base.Ns mainGlobals mg → FnM P w K mg base Ga k fa fd [x] m) (hbind : ∀ (s : Shared) (u : Value), BindsTo s fd ⟨[u], []⟩ [(x, u)])
    (hm : ∀ c, Script ns c → ∃ h, m [.ref 0] [c] = .ok (.bl true) h) :
    codeAny (model P w) callerA (.call (.ref fa) ⟨[.ref a], []⟩) (fun r s' => r = .ok (.ret (.bool true)) ∧ OldK s1.heap s'.heap ∧ s'.os = s1.os ∧ AllBare s'.gens) s1 := by
  have rv := vals_ints hi
  have lenV := hi.length
  have core : ∀ (H : Hp) (c : Cell), Only H → Script ns c → CellAt K Ga (fun _ => a) 1 H a c → HOk P w H s1.heap → (∀ b, H b ≠ none → b = a) → (H a ≠ none → K.lookup a = none) →
      codeAny (model P w) callerA (.call (.ref fa) ⟨[.ref a], []⟩) (fun r s' => r = .ok (.ret (.bool true)) ∧ OldK s1.heap s'.heap ∧ s'.os = s1.os ∧ AllBare s'.gens) s1 := by
    intro H c hO hc hcell hok only free
    have none_at : ∀ {b : Addr} {o : Obj}, s1.heap.get? b = some o → (b = a → False) → H b = none := fun {b o} _ ne => by
      cases q : H b with
      | none => rfl
      | some u => exact (ne (only b (by rw [q]; simp))).elim
    have dict_none : ∀ {b : Addr} {o : Obj} {es : Array DictEntry} {ep : Nat}, s1.heap.get? b = some o → o.data = .dict es ep → H b = none := fun {b o es ep} e d => none_at e fun z => by
      subst z
      rw [ha] at e
      cases e
      exact nomatch (show Data.seq vs.toArray _ = Data.dict es ep from d)
    have ns_of : ∀ {b : Addr} {mm : Str → Option Value}, s1.heap.Ns b mm → (hidT s1.heap H).Ns b mm := fun {b mm} ⟨o, es, ep, e, d, rr⟩ => ⟨o, es, ep, hidT_get e (dict_none e d), d, rr⟩
    have hKb : K.In (hidT s1.heap H) := fun b o e => hidT_get (KX b o e) (by
      cases q : H b with
      | none => rfl
      | some u =>
        have z := only b (by rw [q]; simp)
        subst z
        rw [free (by rw [q]; simp)] at e
        cases e)
    obtain ⟨mc, l1, l2⟩ := hlim
    have hM : Mod K mg (hidT s1.heap H) := ⟨hKb, ns_of hns, ⟨mb, ns_of hb, hbb⟩, ⟨mc, ns_of l1, l2⟩⟩
    have e0 : Env0 P w K mg (hidT s1.heap H) callerA [] s1 H := ⟨rfl, hM, fun b o e => of_hidT e, Nat.le_of_eq (hidT_size _ _), trivial, fun b hb => (nomatch (show b ∈ ([] : List Addr) from hb)), hok, .of_eq hg⟩
    obtain ⟨hh, hrun⟩ := hm c hc
    have want : spM K Ga m [.ref a] H (fun v _ => v = .bl true) (fun _ _ _ => False) := by
      refine ⟨fun _ => a, [c], [.ref 0], one_cell hcell, rfl, fun y hy => by rw [List.mem_singleton.mp hy]; exact Nat.lt_succ_self 0, ?_⟩
      rw [hrun]
      exact fun _ _ b _ _ rl => rl.1
    refine codeAny_mono ((F _ hKb (ns_of hns)).run callerA [] s1 H ⟨[.ref a], []⟩ [.ref a] [.ref a] _ _ hr e0 (hbind s1 (.ref a)) (.cons rfl .nil) want) fun rr s' q => ?_
    cases rr with
    | error e =>
      obtain ⟨_, _, _, _, _, _, _, _, _, _, _, _, z⟩ := (show L2.CX P w [] H s1 (fun _ _ _ => False) e s' from q)
      exact z.elim
    | ok fl =>
      cases fl with
      | ret u =>
        obtain ⟨v, H', os, bare, un, hok2, r2, q2⟩ := q
        have q3 : v = .bl true := q2
        subst q3
        obtain rfl : u = Value.bool true := r2
        refine ⟨rfl, OldK.of_keep (fun b o e => ?_), os, bare⟩
        rcases (hO b) with z | ⟨ob, xs, z⟩
        · exact un.keep b o e z (fun y => nomatch (show b ∈ ([] : List Addr) from y)) (by simp)
        · obtain ⟨e1, _⟩ := hok b _ z
          obtain ⟨e2, _⟩ := hok2 b _ (un.frzs b ob _ z)
          rw [e] at e1
          cases e1
          exact e2
      | next => exact False.elim q
      | brk => exact False.elim q
      | cont => exact False.elim q
  cases hk : K.lookup a with
  | some o =>
    have e := KX a o hk
    rw [ha] at e
    cases e
    exact core (fun _ => none) (.cl (ns.map .int)) (fun _ => .inl rfl) (.inr rfl) ⟨⟨_, vs.toArray, _, hk, rfl, rfl, rfl, by rw [List.size_toArray, lenV]; exact hl, by rw [map_ints]; simpa using rv⟩, wf_ints⟩
      (fun b u z => nomatch (show (none : Option HO) = some u from z)) (fun b z => absurd rfl z) fun z => absurd rfl z
  | none =>
    refine core (fun b => if b = a then some (.frz { cls := .type "list", data := .seq vs.toArray } (.lst (ns.map V.int))) else none) (.fz (ns.map .int)) (fun b => ?_) (.inl rfl) ⟨⟨{ cls := .type "list", data := .seq vs.toArray }, by rw [map_ints]; exact if_pos rfl⟩, wf_ints⟩ (fun b u z => ?_) (fun b z => ?_) fun _ => hk
    · by_cases hb : b = a
      · exact Or.inr ⟨_, _, if_pos hb⟩
      · exact .inl (if_neg hb)
    · by_cases hb : b = a
      · have z2 := (if_pos hb).symm.trans z
        cases z2
        subst hb
        exact ⟨ha, (by rw [List.length_map]; exact hl), vs, _, rv, ha⟩
      · exact nomatch (if_neg hb).symm.trans z
    · by_cases hb : b = a
      · exact hb
      · exact absurd (if_neg hb) z
theorem roomG_caller {k : Nat} (h : k ≤ 100) : RoomG k callerA :=
  ⟨(show Room 100 callerA from ⟨rfl, by decide, by decide⟩).mono h, rfl⟩
theorem walk_m {l : PySem.W.OpenLaw} {n k : Nat} {q : Program} {loose : List Str} {XP : (Str → Option Value) → Heap → Prop} {YP : World → Heap → Prop} {d : DefRec} {K : Params → PySem.W.Frag} {m : Mini.F} {x : Str}
    (hn : l.most = some n) (hn2 : n ≤ sizeLine) (hdf : d.params.defaults = []) (hk : k ≤ 100) (hY : ∀ (w : World) (h : Heap), YP w h → (K w.params).In h)
    (F : ∀ (w : World) (mg : Str → Option Value) (fa : Addr) (h : Heap),
      (K w.params).In h → h.Ns mainGlobals mg → mg d.name = some (.ref fa) →
      ∃ (fd : FuncData) (Ga : Nat → Addr), (∀ (s : Shared) (u : Value), BindsTo s fd ⟨[u], []⟩ [(x, u)]) ∧
        ∀ base : Heap, (K w.params).In base → base.Ns mainGlobals mg → FnM l.prog w (K w.params) mg base Ga k fa fd [x] m)
    (hm : ∀ (ns : List Int) (c : Cell), ns.length ≤ n → Script ns c → ∃ h, m [.ref 0] [c] = .ok (.bl true) h) :
    PySem.W.WalkO q loose XP YP l.row.toRowW d []
      (fun f vs => PySem.call f vs) := by
  refine Att.attach_call hn hdf fun w s0 s1 mg mb fa o pm cd doc a vs ns G Y ho hd hcd hmg hobj hints hlen hg => ?_
  have KX := hY w _ Y
  obtain ⟨fd, Ga, hb, hF⟩ := F w mg fa _ KX G.T.g hmg
  exact law_run KX G.T.g G.T.b G.T.builtins G.T.nolimit hg hobj hints (Nat.le_trans hlen hn2) (roomG_caller hk) hF hb fun c hc => hm ns c hlen hc
section
variable {X : Cx} {Ga : Nat → Addr} {pin : Pin} {Wd : WX} {ph : Nat → Addr} {h : MH} {r : Mini.Env} {sg : L2.St} {H : Hp} {a b c e : Expr} {es rest : List Expr} {kws : List Keyword} {pos : Pos} {m : Mini.E} {ms mk : Mini.A} {body : List Stmt} {sb : Mini.S}
/-! ### calls by keywords -/
theorem k_nil : PK X [] (tA X.K Ga pin Wd aNil) := ⟨fun pos pins s sg H Q I ⟨ph, h, r, S, x⟩ => pk_nil.run pos pins s sg H Q I (rd_okA (ws := []) x S.hr (fun _ hx => nomatch hx))⟩
theorem k_cons {nm : Option Str} {kpos : Pos} (ha : PE X e (tE X.K Ga pin Wd m)) (hr : PK X kws (tA X.K Ga pin Wd mk)) : PK X (⟨nm, e, kpos⟩ :: kws) (tA X.K Ga pin Wd (aCons m mk)) := by
  refine ⟨fun pos pins s sg H Q I ⟨ph, h, r, S, x⟩ => (pk_cons ha hr).run pos pins s sg H Q I ?_⟩
  refine ⟨ph, h, r, S, x.bind fun u h1 _ ph1 H1 b1 g1 R1 ⟨eb1, w1⟩ x1 => ?_⟩
  refine ⟨ph1, h1, r, S.grow g1 R1, x1.bind fun us h2 _ ph2 H2 b2 g2 R2 ⟨eb2, w2⟩ x2 => ?_⟩
  rw [eb1, eb2, ← g2.v w1]
  refine rd_okA (ws := u :: us) x2 R2 fun w hw => ?_
  rcases List.mem_cons.mp hw with hw | hw
  · rw [hw]; exact w1.mono g2.le
  · exact w2 w hw
theorem pick_map {α β : Type} (f : α → β) (is : List Nat) (l : List α) : pick is (l.map f) = (pick is l).map f := by
  unfold pick
  induction is with
  | nil => rfl
  | cons i is ih =>
    rw [List.filterMap_cons, List.filterMap_cons, List.getElem?_map]
    cases l[i]? with
    | none => exact ih
    | some x => show f x :: _ = f x :: _; rw [ih]
theorem pick_mem {α : Type} {is : List Nat} {l : List α} {x : α} (h : x ∈ pick is l) : x ∈ l := by
  unfold pick at h
  obtain ⟨i, _, e⟩ := List.mem_filterMap.mp h
  exact List.mem_of_getElem? e
theorem pick_vals {is : List Nat} {xs : List V} {us : List Value} (rv : Vals xs us) : Vals (pick is xs) (pick is us) := by
  unfold pick
  induction is with
  | nil => exact .nil
  | cons i is ih =>
    rw [List.filterMap_cons, List.filterMap_cons]
    cases e : xs[i]? with
    | none => rw [rv.none_of e]; exact ih
    | some x =>
      obtain ⟨u, e2, ru⟩ := rv.get e
      rw [e2]
      exact .cons ru ih
/-- how the arguments of such a call bind -/
def KB (fd : FuncData) (ps : List Str) (n : Nat) (ks : List Str) (is : List Nat) : Prop := ∀ (s : Shared) (us ws : List Value), us.length = n → ws.length = ks.length → BindsTo s fd ⟨us, ks.zip ws⟩ (ps.zip (pick is (us ++ ws)))
/-- f(k = b, ..) -/
theorem e_callK0 {x : Str} {p : Pos} {k n : Nat} {is : List Nat} {f : Addr} {fd : FuncData} {ps ks : List Str} {mf : Mini.F} (F : FnM X.prog X.w X.K X.mg X.base Ga k f fd ps mf) (hr : RoomG k X.A) (hg : Gl X x) (hm : X.mg x = some (.ref f)) (hk : PySem.W.keepIn X.K (.ref f) = true) (hb : KB fd ps 0 ks is) (tk : Takes X Wd)
    (hkw : PK X kws (tA X.K Ga pin Wd mk)) (hn : ks.length = n) (hall : (backToKw pos (keywordEach kws X.env)).all (·.1.isSome) = true := by rfl) (hks : (backToKw pos (keywordEach kws X.env)).filterMap (·.1) = ks := by rfl) (hdb : (x == ("__debug__" : Str)) = false := by decide)
    (hpl : ((backTo pos (starEach [] X.env)).any (·.1) || (backToKw pos (keywordEach kws X.env)).any (·.1.isNone))
      = false := by rfl) :
    PE X (.Call (.Name x p) [] kws pos) (tE X.K Ga pin Wd (Mini.eCallK mf is aNil (aN n mk))) := by
  refine ⟨fun pins s sg H Q I ⟨ph, h, r, S, x⟩ => ?_⟩
  refine wpAny_Call_Name_kw (ld_glob I hg hm (?_ : _) hdb)
  have x0 : rd X.K Ga Wd relW ph h sg ((aN n mk r h).bind fun ys h2 => mf (pick is ([] ++ ys)) h2) Q := x
  have y : tA X.K Ga pin Wd mk sg H (fun vs H1 => ∃ ph1 h1 ws, ws.length = n ∧ HR X.K Ga ph1 h1 H1 ∧ vs = ws.map (vW ph1) ∧ (∀ w ∈ ws, wf h1.length w) ∧ rd X.K Ga Wd relW ph1 h1 sg (mf (pick is ws) h1) Q) := by
    refine ⟨ph, h, r, S, ?_⟩
    unfold aN at x0
    cases e : mk r h with
    | ok ws h1 =>
      rw [e] at x0
      have x1 : rd X.K Ga Wd relW ph h sg ((if ws.length = n then Mini.R.ok ws h1 else .bad).bind fun ys h2 => mf (pick is ([] ++ ys)) h2) Q := x0
      by_cases c : ws.length = n
      · rw [if_pos c] at x1
        intro ph1 H1 b1 g1 R1 rl
        exact ⟨ph1, h1, ws, c, R1, rl.1, rl.2, rd.base g1 x1⟩
      · rw [if_neg c] at x1; exact x1.elim
    | exc cc d h1 => rw [e] at x0; exact x0
    | bad => rw [e] at x0; exact x0.elim
  refine PySem.W.callWith_KW0 (h₀ := X.base) I.ok.mod.kin hk hall ?_ hpl
  refine thn (hkw.run pos pins s sg H _ I y) fun us s1 ⟨vs, H1, I1, rv, ph1, h1, ws, lw, R1, ev, w1, x1⟩ => ⟨I1.kIn, ?_⟩
  rw [hks]
  subst ev
  have rv2 : Vals ((pick is ws).map (vW ph1)) (pick is us) := by rw [← pick_map]; exact pick_vals rv
  refine wpAny_call (codeAny_mono (run_m F hr tk (fun hl => ?_) I1 R1 (fun w hw => w1 w (pick_mem hw)) rv2 x1) fun rr s' q => ?_)
  · exact hb s1 [] us rfl (by rw [hn, ← rv.length, List.length_map]; exact lw)
  · cases rr with
    | error e => exact q
    | ok fl => cases fl <;> first | exact q | exact q.elim
/-- isinstance(x, (T, U)) -/
theorem e_isi2 {x T U : Str} {ty tu : Mini.Ty} {p p2 p3 p4 : Pos} {k4 : Nat} (hx : x = "isinstance") (hgl : Gl X x) (hm : X.mg x = none) (hgl2 : Gl X T) (hm2 : X.mg T = none) (hv2 : bootBuiltins T = some (.type (tyName ty))) (hgl3 : Gl X U) (hm3 : X.mg U = none) (hv3 : bootBuiltins U = some (.type (tyName tu)))
    (ha : PE X a (tE X.K Ga pin Wd m)) (hn2 : T ≠ "__name__" := by decide) (hd2 : (T == ("__debug__" : Str)) = false := by decide) (hn3 : U ≠ "__name__" := by decide) (hd3 : (U == ("__debug__" : Str)) = false := by decide)
    (he : starEach (a :: [.Tuple [.Name T p2, .Name U p3] k4 p4]) X.env = (false, eval a X.env) :: starEach [.Tuple [.Name T p2, .Name U p3] k4 p4] X.env := by rfl)
    (he2 : starEach (.Tuple [.Name T p2, .Name U p3] k4 p4 :: []) X.env = (false, eval (.Tuple [.Name T p2, .Name U p3] k4 p4) X.env) :: starEach [] X.env := by rfl)
    (he3 : starEach (.Name T p2 :: [.Name U p3]) X.env = (false, eval (.Name T p2) X.env) :: starEach [.Name U p3] X.env := by rfl) (he4 : starEach (.Name U p3 :: []) X.env = (false, eval (.Name U p3) X.env) :: starEach [] X.env := by rfl)
    (hpl : (backTo pos (starEach [.Tuple [.Name T p2, .Name U p3] k4 p4] X.env)).any (·.1) = false := by rfl) :
    PE X (.Call (.Name x p) [a, .Tuple [.Name T p2, .Name U p3] k4 p4] [] pos) (tE X.K Ga pin Wd (eUn (gIsi2 ty tu) m)) := by
  subst hx
  have ht : PE X (.Name T p2) (tC (.ty (tyName ty))) := pe_bltn hgl2 hm2 hv2 rfl hn2 hd2
  have hu : PE X (.Name U p3) (tC (.ty (tyName tu))) := pe_bltn hgl3 hm3 hv3 rfl hn3 hd3
  refine PE.imp (pe_callB call_isiTE hgl hm (by decide +kernel) (pa_cons ha (pa_cons (pe_tup (pa_cons ht (pa_cons hu pa_nil he4) he3)) pa_nil he2) he) (by decide) (by decide) he hpl) fun sg H Q ⟨ph, h, r, s, x⟩ => ?_
  refine ⟨ph, h, r, s, x.bind fun u h1 _ ph1 H1 b1 g1 R1 ⟨eb1, w1⟩ x1 => ?_⟩
  unfold gIsi2 at x1
  by_cases kn : known u h1 = true
  · rw [if_pos kn] at x1
    rw [eb1]
    refine ⟨by show 2 ≤ sizeLine; exact m_line3 (by decide), fun tp htp => ?_⟩
    -- the tuple of types, laid beside: a cell that Mini has not
    have R2 : HR X.K Ga ph1 h1 (upd H1 tp (.tup [V.ty (tyName ty), V.ty (tyName tu)])) := by
      refine ⟨fun i c e => (R1.cells i c e).to (Nat.le_refl _) (fun _ _ => rfl) fun t => ?_, R1.inj⟩
      obtain ⟨o, ho⟩ := (R1.cells i c e).some t
      exact upd_ne fun z => by rw [z, htp] at ho; cases ho
    have q := x1.ok1 ph1 _ _ (Grow.refl _ _) R2 ⟨rfl, trivial⟩
    obtain ⟨tt, tx, kt⟩ := tyx_of R2 kn
    refine ⟨_, tp, [V.ty (tyName ty), V.ty (tyName tu)], tt, [.type (tyName ty), .type (tyName tu)], isTy (Mini.kindOf u h1) ty || isTy (Mini.kindOf u h1) tu, rfl, upd_same, .cons (.ty _) (.cons (.ty _) .nil), tx, ?_, q⟩
    refine kitAny_cons (kt _) (fun z => ?_) fun z => by rw [z]; rfl
    rw [z]
    refine kitAny_cons (kt _) (fun z => ?_) fun z => by rw [z]; rfl
    rw [z]
    exact kitAny_nil
  · rw [if_neg kn] at x1
    exact x1.elim
end
/-! ### short words -/
section
variable {X : Cx} {Ga : Nat → Addr} {pin : Pin} {Wd : WX}
theorem v_ (i : Nat) {x : Str} {pos : Pos} (hN : X.N[i]? = some x := by rfl) (hv : Vis X.env.scope x := by first | exact Or.inl rfl | exact Or.inr (Or.inl rfl) | exact Or.inr (Or.inr rfl)) (hd : (x == ("__debug__" : Str)) = false := by decide)
    (hcd : (x == ("__classdict__" : Str)) = false := by decide) : PE X (.Name x pos) (tE X.K Ga pin Wd (eVar i)) := e_var hN hv hd hcd
theorem g_ (i : Nat) {x : Str} {pos : Pos} (hN : X.N.Nodup) (hl : pin.lets i) (hi : X.N[i]? = some x := by rfl) (hx : Loc X.env.scope x := by first | exact Or.inl rfl | exact Or.inr rfl) (hf : X.fn x = true ∨ X.env.scope.names.lookup x = some .local := by first | exact .inl rfl | exact .inr rfl) : Tg X Ga pin [i] (.Name x pos) (gSet i) := g_name hN hi hx hl hf
/-- a comprehension's own names -/
theorem b_ (i : Nat) {x : Str} (X : Cx) (Ga : Nat → Addr) : TgS X Ga none [i] (gSet i) (gName i) := fun ph h r sg H w Q s hw q => q ph _ H (Grow.refl _ _) (s.put hw lets0) ⟨List.length_set, fun j hj => List.getElem?_set_ne (fun z => hj (by rw [← z]; exact List.mem_cons_self))⟩
theorem bs_nil (X : Cx) (Ga : Nat → Addr) : TgsS X Ga none [] [] gNil := fun ph h r sg H ws Q s hw q => by
  cases ws with
  | nil => exact ⟨rfl, q ph sg H (Grow.refl _ _) s (Fr_.refl _ _)⟩
  | cons w ws => exact q.elim
theorem bs_cons {X : Cx} {Ga : Nat → Addr} {is js : List Nat} {g : Mini.G} {gs : List Mini.G} {t : TG} {ts : TGs} (z1 : TgS X Ga none is g t) (z2 : TgsS X Ga none js gs ts) : TgsS X Ga none (is ++ js) (g :: gs) (gCons t ts) := fun ph h r sg H ws Q s hw q => by
  cases ws with
  | nil => exact q.elim
  | cons w ws =>
    refine ⟨vW ph w, ws.map (vW ph), rfl, z1 ph h r sg H w _ s (hw w List.mem_cons_self) ?_⟩
    have q' : rdG X.K Ga none (is ++ js) ph h sg ((g w r h).bind fun r1 h1 => gAll gs ws r1 h1) Q := q
    cases e : g w r h with
    | ok r1 h1 =>
      rw [e] at q'
      intro ph' sg' H' g' S' f'
      have hw' : ∀ x ∈ ws, wf h.length x := fun x hx => hw x (List.mem_cons_of_mem _ hx)
      rw [← g'.vs hw']
      refine z2 ph' h1 r1 sg' H' ws _ S' (fun x hx => (hw' x hx).mono g'.le) ?_
      have q2 : rdG X.K Ga none (is ++ js) ph h sg (gAll gs ws r1 h1) Q := q'
      cases e2 : gAll gs ws r1 h1 with
      | ok r2 h2 =>
        rw [e2] at q2
        exact fun ph2 sg2 H2 g2 S2 f2 => q2 ph2 sg2 H2 (g'.trans g2) S2 ⟨f2.1.trans f'.1, fun j hj => (f2.2 j (fun z => hj (List.mem_append_right _ z))).trans (f'.2 j (fun z => hj (List.mem_append_left _ z)))⟩
      | exc c d h2 => rw [e2] at q2; exact q2.elim
      | bad => rw [e2] at q2; exact q2.elim
    | exc c d h1 => rw [e] at q'; exact q'.elim
    | bad => rw [e] at q'; exact q'.elim
theorem b_tup {X : Cx} {Ga : Nat → Addr} {is : List Nat} {n : Nat} {gs : List Mini.G} {ts : TGs} (hl : gs.length = n) (z : TgsS X Ga none is gs ts) : TgS X Ga none is (gTupT gs) (gTup X.K n ts) := fun ph h r sg H w Q s hw q => by
  cases w with
  | ref a =>
    unfold gTupT at q
    simp only [] at q
    have go : ∀ {xs : List Mini.W}, rdG X.K Ga none is ph h sg (gAll gs xs r h) Q → SqT X.K H (ph a) (xs.map (vW ph)) → (∀ x ∈ xs, wf h.length x) → gTup X.K n ts (vW ph (.ref a)) sg H Q := fun {xs} q1 q2 q3 => by
      refine ⟨ph a, xs.map (vW ph), rfl, q2, ?_, z ph h r sg H xs Q s q3 q1⟩
      cases e : gAll gs xs r h with
      | ok r1 h1 => rw [List.length_map, gAll_len e, hl]
      | exc c d h1 => rw [e] at q1; exact q1.elim
      | bad => rw [e] at q1; exact q1.elim
    cases e1 : h[a]? with
    | none => rw [e1] at q; exact q.elim
    | some cl =>
      have y := s.hr.cells a cl e1
      rw [e1] at q
      cases cl with
      | tup xs => exact go q (.inl (.inl y.1)) y.2
      | ct xs => exact go q (.inr y.1) y.2
      | _ => exact q.elim
  | _ => exact q.elim
end
theorem gi_ {X : Cx} {Ga : Nat → Addr} {pin : Pin} {Wd : WX} {x : Str} {pos : Pos} {i : Int} (hm : ∃ t, X.mg x = some (.int i t)) (hg : Gl X x := by rfl) (hd : (x == ("__debug__" : Str)) = false := by decide) : PE X (.Name x pos) (tE X.K Ga pin Wd (eC (.int i))) := by
  obtain ⟨t, ht⟩ := hm
  exact e_gint hg ht hd
theorem names_ {X : Cx} {x f : Str} {C : Addr} (T : ErrC X.K X.mg X.prog X.w X.base x f C) (hg : Gl X x := by rfl) (hd : (x == ("__debug__" : Str)) = false := by decide) : Names X x (.ref C) := ⟨hg, hd, .inl T.g⟩
theorem hu64 {k : Nat} {A : Around} (r : RoomG k A) : A.units + 64 < cLine := r.room.units
theorem hu70 {k : Nat} {A : Around} (r : RoomG k A) : A.units + 70 < cLine := by have := r.room.un; omega
theorem hu1 {k : Nat} {A : Around} (r : RoomG k A) : A.units + 1 < cLine := by have := r.room.un; omega
/-- which errors an except clause takes -/
theorem exm_of {K : PySem.W.Frag} {q S : Addr} {b : Bool} (h1 : PySem.W.subIn K (.ref S) (.type "BaseException") = some true) (h2 : PySem.W.isClsIn K S = true) (h3 : PySem.W.typeIn K (.ref S) = some (.type "type")) (h4 : PySem.W.subIn K (.ref q) (.ref S) = some b) : PySem.W.exmOne K (.ref q) (.ref S) = some b := by
  have e1 : (PySem.W.subIn K (.ref S) (.type "BaseException") == some true) = true := by rw [h1] <;> rfl
  have e2 : ((PySem.W.clsIn K S).isSome && PySem.W.typeIn K (.ref S) == some (.type "type")) = true := by
    have h2' : (PySem.W.clsIn K S).isSome = true := h2
    rw [h2', h3] <;> rfl
  show (if (PySem.W.subIn K (.ref S) (.type "BaseException") == some true) = true then (if ((PySem.W.clsIn K S).isSome && PySem.W.typeIn K (.ref S) == some (.type "type")) = true then PySem.W.subIn K (.ref q) (.ref S) else none) else none) = some b
  rw [if_pos e1, if_pos e2]
  exact h4
theorem _root_.L2.Fun.fd_eq {K : PySem.W.Frag} {x qual : Str} {st : Stmt} {f : Addr} {fd fd2 : FuncData} (F : L2.Fun K x qual st f fd) (F2 : L2.Fun K x qual st f fd2) : fd = fd2 := by
  obtain ⟨oc, od, kV, doc, pm, an, cdv, ct, sl, rfl, lk, hcd⟩ := F.ex
  obtain ⟨oc2, od2, kV2, doc2, pm2, an2, cdv2, ct2, osl2, rfl, lk2, hcd2⟩ := F2.ex
  rw [lk] at lk2
  cases lk2
  rfl
/-- a def of the text -/
structure Def (P : Program) (w : World) (K : PySem.W.Frag) (mg : Str → Option Value) (base : Heap) (Ga : Nat → Addr) (k : Nat) (x : Str) (st : Stmt) (ps : List Str) (m : Mini.F) : Prop where
  ex : ∃ (f : Addr) (fd : FuncData), mg x = some (.ref f) ∧ Fun K x x st f fd ∧ Binds K fd ps [] ∧ FnM P w K mg base Ga k f fd ps m
/-- what the top has written of a def -/
structure Src_ (K : PySem.W.Frag) (mg : Str → Option Value) (x : Str) (st : Stmt) (ps : List Str) : Prop where
  ex : ∃ (f : Addr) (fd : FuncData), mg x = some (.ref f) ∧ Fun K x x st f fd ∧ Binds K fd ps []
theorem def_of {P : Program} {w : World} {K : PySem.W.Frag} {mg : Str → Option Value} {base : Heap} {Ga : Nat → Addr} {k : Nat} {x : Str} {st : Stmt} {N ps : List Str} {sb : Mini.S} (Y : Src_ K mg x st ps) (S : FnScope N ps (defScope st))
    (hbody : ∀ (f : Addr) (cdv : Value) (A : Around) (outer : List PySem.Env) (s : Shared) (H : Hp) (E : XK), RoomG k (A.deeper (envOfC x (defScope st) s.heap.objs.size f cdv)) →
      PSs (cxOf (L2.CX P w) P w K mg base N x (defScope st) f cdv A outer s H E) (defBody st) (tS K Ga none (fun c d _ H => E c d H) sb)) :
    Def P w K mg base Ga (k + 1) x st ps (fnOf N.length ps.length sb) := by
  obtain ⟨f, fd, h1, F, h2⟩ := Y.ex
  obtain ⟨oc, od, kV, doc, pm, an, cdv, ct, sl, rfl, lk, hcd⟩ := F.ex
  exact ⟨f, _, h1, F, h2, fnm_of lk hcd S fun A outer s H E hr => hbody f cdv A outer s H E hr⟩
section
variable {X : Cx} {Ga : Nat → Addr} {pin : Pin} {Wd : WX} {e : Expr} {es : List Expr} {kws : List Keyword} {ms mk : Mini.A} {pos p : Pos} {k j : Nat} {x : Str} {st : Stmt} {ps ks : List Str} {mf : Mini.F}
theorem c_ (D : Def X.prog X.w X.K X.mg X.base Ga k x st ps mf) (hr : RoomG j X.A) (tk : Takes X Wd) (ha : PA X (e :: es) (tA X.K Ga pin Wd ms)) (hk : k ≤ j := by decide) (hg : Gl X x := by rfl) (hdb : (x == ("__debug__" : Str)) = false := by decide) (he : starEach (e :: es) X.env = (false, eval e X.env) :: starEach es X.env := by rfl) (hpl : (backTo pos (starEach es X.env)).any (·.1) = false := by rfl) :
    PE X (.Call (.Name x p) (e :: es) [] pos) (tE X.K Ga pin Wd (Mini.eCall mf ms)) := by
  obtain ⟨f, fd, h1, F, h2, M⟩ := D.ex
  exact e_call M (hr.mono hk) hg h1 F.kp h2 tk ha hdb he hpl
theorem c0_ (D : Def X.prog X.w X.K X.mg X.base Ga k x st ps mf) (hr : RoomG j X.A) (tk : Takes X Wd) (hk : k ≤ j := by decide) (hg : Gl X x := by rfl) (hdb : (x == ("__debug__" : Str)) = false := by decide) :
    PE X (.Call (.Name x p) [] [] pos) (tE X.K Ga pin Wd (Mini.eCall mf aNil)) := by
  obtain ⟨f, fd, h1, F, h2, M⟩ := D.ex
  exact e_call0 M (hr.mono hk) hg h1 F.kp h2 tk hdb
theorem kb_of {K : PySem.W.Frag} {f : Addr} {fd : FuncData} {n : Nat} {is : List Nat} (F : Fun K x x st f fd)
    (h : ∀ (kV doc pm : Value) (an : Option Addr) (cdv ct : Value) (us ws : List Value), us.length = n → ws.length = ks.length → bindArgs (PySem.W.fnOf x x (defArgs st) (defBody st) (defScope st) .none kV doc pm an cdv ct) ⟨us, ks.zip ws⟩ = pure (ps.zip (pick is (us ++ ws)))) : KB fd ps n ks is := by
  obtain ⟨oc, od, kV, doc, pm, an, cdv, ct, sl, rfl, lk, hcd⟩ := F.ex
  exact fun s us ws h1 h2 => .of_eq (h kV doc pm an cdv ct us ws h1 h2)
theorem ck0_ {n : Nat} {is : List Nat} (D : Def X.prog X.w X.K X.mg X.base Ga k x st ps mf) (hr : RoomG j X.A) (tk : Takes X Wd)
    (hb : ∀ (kV doc pm : Value) (an : Option Addr) (cdv ct : Value) (us ws : List Value), us.length = 0 → ws.length = ks.length → bindArgs (PySem.W.fnOf x x (defArgs st) (defBody st) (defScope st) .none kV doc pm an cdv ct) ⟨us, ks.zip ws⟩ = pure (ps.zip (pick is (us ++ ws))))
    (hkw : PK X kws (tA X.K Ga pin Wd mk)) (hn : ks.length = n := by rfl) (hk : k ≤ j := by decide) (hg : Gl X x := by rfl) (hall : (backToKw pos (keywordEach kws X.env)).all (·.1.isSome) = true := by rfl) (hks : (backToKw pos (keywordEach kws X.env)).filterMap (·.1) = ks := by rfl) (hdb : (x == ("__debug__" : Str)) = false := by decide)
    (hpl : ((backTo pos (starEach [] X.env)).any (·.1) || (backToKw pos (keywordEach kws X.env)).any (·.1.isNone))
      = false := by rfl) :
    PE X (.Call (.Name x p) [] kws pos) (tE X.K Ga pin Wd (Mini.eCallK mf is aNil (aN n mk))) := by
  obtain ⟨f, fd, h1, F, h2, M⟩ := D.ex
  exact e_callK0 M (hr.mono hk) hg h1 F.kp (kb_of F hb) tk hkw hn hall hks hdb hpl
end
end Br
set_option Elab.async false
set_option autoImplicit false
set_option linter.all false
set_option maxRecDepth 100000
set_option maxHeartbeats 1100000
namespace Br
open PySem PySem.Spec PyProof.Rows L2 Mini
/-! ### instances of own classes -/
theorem fs_lookup {ph : Nat → Addr} {f : Str} : ∀ {fs : List (Str × Mini.W)}, (fsV ph fs).lookup f = (fs.lookup f).map (vW ph)
  | [] => rfl
  | (k, v) :: ys => by
    show ((k, vW ph v) :: fsV ph ys).lookup f = _
    rw [List.lookup_cons, List.lookup_cons]
    cases f == k with
    | true => rfl
    | false => exact fs_lookup
theorem fs_mem {f : Str} {w : Mini.W} : ∀ {fs : List (Str × Mini.W)}, fs.lookup f = some w → ∃ p ∈ fs, p.2 = w
  | [], e => by cases e
  | (k, v) :: ys, e => by
    rw [List.lookup_cons] at e
    cases c : f == k with
    | true => rw [c] at e; cases e; exact ⟨_, List.mem_cons_self, rfl⟩
    | false => rw [c] at e; obtain ⟨p, hp, q⟩ := fs_mem e; exact ⟨p, List.mem_cons_of_mem _ hp, q⟩
theorem fs_put {ph : Nat → Addr} {f : Str} {w : Mini.W} : ∀ {fs : List (Str × Mini.W)}, fsV ph (putFs f w fs) = L2.putF f (vW ph w) (fsV ph fs)
  | [] => rfl
  | (g, x) :: r => by
    show fsV ph (if g = f then (g, w) :: r else (g, x) :: putFs f w r) = if g = f then (g, vW ph w) :: fsV ph r else (g, vW ph x) :: L2.putF f (vW ph w) (fsV ph r)
    by_cases c : g = f
    · rw [if_pos c, if_pos c]; rfl
    · rw [if_neg c, if_neg c]
      show (g, vW ph x) :: fsV ph (putFs f w r) = _
      rw [fs_put]
theorem fs_put_wf {n : Nat} {f : Str} {w : Mini.W} (hw : wf n w) : ∀ {fs : List (Str × Mini.W)}, (∀ p ∈ fs, wf n p.2) → ∀ p ∈ putFs f w fs, wf n p.2
  | [], _, p, hp => by
    rw [show putFs f w [] = [(f, w)] from rfl, List.mem_singleton] at hp
    rw [hp]; exact hw
  | (g, x) :: r, q, p, hp => by
    unfold putFs at hp
    by_cases c : g = f
    · rw [if_pos c] at hp
      rcases List.mem_cons.mp hp with z | z
      · rw [z]; exact hw
      · exact q p (List.mem_cons_of_mem _ z)
    · rw [if_neg c] at hp
      rcases List.mem_cons.mp hp with z | z
      · rw [z]; exact q (g, x) List.mem_cons_self
      · exact fs_put_wf hw (fun p hp => q p (List.mem_cons_of_mem _ hp)) p z
section
variable {X : Cx} {Ga : Nat → Addr} {pin : Pin} {Wd : WX} {ph : Nat → Addr} {h : MH} {r : Mini.Env} {sg : L2.St} {H : Hp} {a b c e o : Expr} {es rest : List Expr} {kws : List Keyword} {pos pos' : Pos} {m mo me : Mini.E} {ms mk : Mini.A} {f : Str} {ok : Nat → Bool}
/-- o.f -/
theorem e_fld (hok : ∀ c, ok c = true → NoAttr X.K (Ga c) f) (ho : PE X o (tE X.K Ga pin Wd mo)) (hb : attributeBase o f X.env (eval o X.env) = eval o X.env := by rfl) : PE X (.Attribute o f pos) (tE X.K Ga pin Wd (eFld ok f mo)) := by
  refine PE.imp (pe_fld ho hb) fun sg H Q ⟨ph, h, r, s, x⟩ => ?_
  refine ⟨ph, h, r, s, x.bind fun u h1 _ ph1 H1 b1 g1 R1 ⟨eb1, w1⟩ x1 => ?_⟩
  unfold fldOf at x1
  cases u with
  | ref n =>
    simp only [] at x1
    cases e1 : h1[n]? with
    | none => rw [e1] at x1; exact x1.elim
    | some cl =>
      rw [e1] at x1
      cases cl with
      | ins c fs =>
        simp only [] at x1
        cases e2 : fs.lookup f with
        | none => rw [e2] at x1; exact x1.elim
        | some w =>
          rw [e2] at x1
          simp only [] at x1
          by_cases k : ok c = true
          · rw [if_pos k] at x1
            obtain ⟨⟨dx, z1, cx⟩, z2⟩ := R1.cells n _ e1
            obtain ⟨p, hp, rfl⟩ := fs_mem e2
            exact ⟨ph1 n, Ga c, dx, fsV ph1 fs, vW ph1 p.2, eb1, z1, cx.cl, hok c k, by rw [fs_lookup, e2]; rfl, rd_ok x1 R1 (z2 p hp)⟩
          · rw [if_neg k] at x1; exact x1.elim
      | _ => exact x1.elim
  | _ => exact x1.elim
/-- o.f = e -/
theorem s_fld (hok : ∀ c, ok c = true → NoAttr X.K (Ga c) f) (ho : PE X o (tE X.K Ga pin Wd mo)) (he : PE X e (tE X.K Ga pin Wd me)) (hs : swapsWith e (some (.Attribute o f pos')) pos.line X.env = pure false := by rfl) :
    PS X (.Assign [.Attribute o f pos'] e pos) (tS X.K Ga pin Wd (sFldSet ok f mo me)) := by
  refine PS.imp (ps_fld ho he hs) fun D sg H ⟨ph, h, r, s, x⟩ => ?_
  have y : rd X.K Ga Wd (fun _ _ (_ : Unit) (_ : Unit) => True) ph h sg ((me r h).bind fun w h1 => (mo r h1).bind fun x h2 => fldPut ok f w x h2) (fun _ H' => D.nx sg H') := by
    refine st_of (k := fun _ h1 => .ok .nx r h1) (D := D) s ?_ fun _ h1 ph1 H1 b g S rl x1 => x1 ph1 sg H1 (Grow.refl _ _) S
    unfold sFldSet at x
    cases e : ((me r h).bind fun w h1 => (mo r h1).bind fun x h2 => fldPut ok f w x h2) <;> (rw [e] at x; exact x)
  refine ⟨ph, h, r, s, y.bind fun w h1 _ ph1 H1 b1 g1 R1 ⟨eb1, w1⟩ x1 => ?_⟩
  refine ⟨ph1, h1, r, s.grow g1 R1, x1.bind fun u h2 _ ph2 H2 b2 g2 R2 ⟨eb2, w2⟩ x2 => ?_⟩
  unfold fldPut at x2
  cases u with
  | ref n =>
    simp only [] at x2
    cases e1 : h2[n]? with
    | none => rw [e1] at x2; exact x2.elim
    | some cl =>
      rw [e1] at x2
      cases cl with
      | ins c fs =>
        simp only [] at x2
        by_cases k : ok c = true ∧ fs.length < 1000
        · rw [if_pos k] at x2
          obtain ⟨⟨dx, z1, cx⟩, z2⟩ := R2.cells n _ e1
          have w1' : wf h2.length w := w1.mono g2.le
          refine ⟨ph2 n, Ga c, dx, fsV ph2 fs, eb2, z1, cx.cl, hok c k.1, ?_, ?_⟩
          · unfold fsV; rw [List.length_map]; exact k.2
          · have R4 : HR X.K Ga ph2 (h2.set n (.ins c (putFs f w fs))) (upd H2 (ph2 n) (.ins (Ga c) dx (L2.putF f (vW ph2 w) (fsV ph2 fs)))) := R2.set e1 trivial trivial ⟨⟨dx, (by rw [fs_put]; exact upd_same), cx⟩, fs_put_wf w1' z2⟩
            rw [eb1, ← g2.v w1]
            exact x2.ok1 ph2 _ () Grow.set R4 trivial
        · rw [if_neg k] at x2; exact x2.elim
      | _ => exact x2.elim
  | _ => exact x2.elim
/-! ### a new instance -/
theorem RoomG.make {k : Nat} {A : Around} (q : RoomG (k + 1) A) (C : Addr) (us : List Value) (kw : List (Str × Value)) : RoomG k (A.under (.builtin "type.__call__" ⟨.ref C :: us, kw⟩)) :=
  ⟨q.room.make C us kw, by
    have e : (A.under (.builtin "type.__call__" ⟨.ref C :: us, kw⟩)).guards = A.guards := by
      first | rfl | simp [Around.under, Code.isGuard, guardIds]
    rw [e]; exact q.g⟩
theorem run_new {k ci : Nat} {fi : Addr} {fd : FuncData} {ps : List Str} {mf : Mini.F} {pins : List (Addr × Obj)} {s : Shared} {Q : VK} {us vs : List Value} {kw : List (Str × Value)} {ws : List Mini.W} (M : Mk X.K (Ga ci) fi) (cx : ClsX X.K (Ga ci)) (F : FnM X.prog X.w X.K X.mg X.base Ga k fi fd ps mf) (hr : RoomG (k + 1) X.A) (tk : Takes X Wd)
    (hb : ∀ (s' : Shared) (x : Value), X.K.In s'.heap → ws.length + 1 = ps.length → BindsTo s' fd ⟨x :: us, kw⟩ (ps.zip (x :: vs))) (I : Inv X pins sg H s) (R : HR X.K Ga ph h H) (hw : ∀ w ∈ ws, wf h.length w) (rv : Vals (ws.map (vW ph)) vs) (x : rd X.K Ga Wd relW ph h sg (newIns ci mf ws h) Q) :
    codeAny (model X.prog X.w) X.A (.call (.ref (Ga ci)) ⟨us, kw⟩) (fun rr s' => match rr with | .ok (.ret u) => EP X pins sg Q u s' | .ok _ => False | .error e => X.xe e s') s := by
  have I2 := Inv.made (C := Ga ci) I
  have f0 : H s.heap.objs.size = none := I.hok.fresh (Nat.le_refl _)
  have f1 : H (s.heap.objs.size + 1) = none := I.hok.fresh (Nat.le_succ _)
  have R1 : HR X.K Ga ph h (upd H s.heap.objs.size (.own (s.heap.objs.size + 1))) := by
    refine ⟨fun i c e => (R.cells i c e).to (Nat.le_refl _) (fun _ _ => rfl) fun t => ?_, R.inj⟩
    obtain ⟨o, ho⟩ := (R.cells i c e).some t
    exact upd_ne fun z => by rw [z, f0] at ho; cases ho
  have R2 := R1.push (a := s.heap.objs.size + 1) (o := .ins (Ga ci) s.heap.objs.size []) (c := .ins ci []) (by rw [upd_ne (Nat.succ_ne_self _)]; exact f1) ⟨⟨s.heap.objs.size, upd_same, cx⟩, fun p hp => nomatch hp⟩
  have g0 : Grow ph h (ext ph h.length (s.heap.objs.size + 1)) (h ++ [.ins ci []]) := Grow.ext
  have hw2 : ∀ w ∈ (Mini.W.ref h.length :: ws), wf (h ++ [Cell.ins ci []]).length w := fun w hm => by
    rcases List.mem_cons.mp hm with z | z
    · rw [z]; show h.length < _; rw [List.length_append]; exact Nat.lt_succ_self _
    · exact (hw w z).mono g0.le
  have rv2 : Vals ((Mini.W.ref h.length :: ws).map (vW (ext ph h.length (s.heap.objs.size + 1)))) (Value.ref (s.heap.objs.size + 1) :: vs) := by
    refine .cons ?_ ?_
    · show Value.ref _ = Value.ref _
      rw [ext_at]
    · rw [g0.vs hw]; exact rv
  have x2 : rd X.K Ga (fun c d _ H => Wd c d sg H) relW (ext ph h.length (s.heap.objs.size + 1)) (h ++ [.ins ci []]) [] (mf (.ref h.length :: ws) (h ++ [.ins ci []])) (fun v H2 => v = .non ∧ Q (.ref (s.heap.objs.size + 1)) H2) := by
    unfold newIns at x
    cases e : mf (.ref h.length :: ws) (h ++ [.ins ci []]) with
    | ok u h3 =>
      rw [e] at x
      cases u with
      | non =>
        have x' : rd X.K Ga Wd relW ph h sg (.ok (.ref h.length) h3) Q := x
        intro ph' H' b g R' rl
        refine ⟨rl.1, ?_⟩
        have l3 : h.length < h3.length := Nat.lt_of_lt_of_le (by rw [List.length_append]; exact Nat.lt_succ_self _) g.le
        refine x' ph' H' _ (g0.trans g) R' ⟨?_, l3⟩
        show V.ref _ = V.ref (ph' h.length)
        rw [g.eq h.length (by rw [List.length_append]; exact Nat.lt_succ_self _), ext_at]
      | _ => exact x.elim
    | exc c d h3 =>
      rw [e] at x
      have x' : rd X.K Ga Wd relW ph h sg (.exc c d h3 : Mini.R Mini.W) Q := x
      exact fun ph' H' g R' z => x' ph' H' (g0.trans g) R' z
    | bad => rw [e] at x; exact x.elim
  have hl : ws.length + 1 = ps.length := by
    by_cases c : (Mini.W.ref h.length :: ws).length = ps.length
    · exact c
    · rw [F.len _ _ c] at x2; exact x2.elim
  refine make_map (f := fi) I.kIn M.makes M.init (beq_iff_eq.mp M.fn) (codeAny_mono (F.run _ X.stack _ _ ⟨Value.ref (s.heap.objs.size + 1) :: us, kw⟩ (Value.ref (s.heap.objs.size + 1) :: vs) _ _ (fun c d H => Wd c d sg H) (hr.make (Ga ci) us kw)
    (I2.env0.make (Ga ci) us kw) (hb _ _ I2.kIn hl) rv2 ⟨_, _, _, R2, rfl, hw2, x2⟩) fun r s' hend => ?_)
  cases r with
  | error e => exact passAt tk sg pins _ _ e s' I2 hend
  | ok fl =>
    cases fl with
    | ret u =>
      obtain ⟨v, H3, I3, rv, ev, q3⟩ := I2.after hend
      subst ev
      exact ⟨rv, ⟨V.ref (s.heap.objs.size + 1), H3, I3, rfl, q3⟩⟩
    | next => exact False.elim hend
    | brk => exact False.elim hend
    | cont => exact False.elim hend
/-- C(e, ..) -/
theorem e_make {x : Str} {p : Pos} {k ci : Nat} {fi : Addr} {fd : FuncData} {ps : List Str} {mf : Mini.F} (M : Mk X.K (Ga ci) fi) (cx : ClsX X.K (Ga ci)) (F : FnM X.prog X.w X.K X.mg X.base Ga k fi fd ps mf) (hr : RoomG (k + 1) X.A) (hg : Gl X x) (hm : X.mg x = some (.ref (Ga ci))) (hb : Binds X.K fd ps []) (tk : Takes X Wd)
    (ha : PA X (e :: es) (tA X.K Ga pin Wd ms)) (hdb : (x == ("__debug__" : Str)) = false := by decide) (he : starEach (e :: es) X.env = (false, eval e X.env) :: starEach es X.env := by rfl) (hpl : (backTo pos (starEach es X.env)).any (·.1) = false := by rfl) :
    PE X (.Call (.Name x p) (e :: es) [] pos) (tE X.K Ga pin Wd (eMake ci mf ms)) := by
  refine ⟨fun pins s sg H Q I ⟨ph, h, r, S, x⟩ => ?_⟩
  refine wpAny_Call_Name_kw (ld_glob I hg hm (?_ : _) hdb)
  have y : tA X.K Ga pin Wd ms sg H (fun vs H1 => ∃ ph1 h1 ws, HR X.K Ga ph1 h1 H1 ∧ vs = ws.map (vW ph1) ∧ (∀ w ∈ ws, wf h1.length w) ∧ rd X.K Ga Wd relW ph1 h1 sg (newIns ci mf ws h1) Q) :=
    ⟨ph, h, r, S, x.bind fun ws h1 _ ph1 H1 b1 g1 R1 ⟨eb1, w1⟩ x1 => ⟨ph1, h1, ws, R1, eb1, w1, x1⟩⟩
  refine PySem.W.callWith_K (h₀ := X.base) I.ok.mod.kin M.kp (thn (ha.run pos pins s sg H _ I y) fun us s1 ⟨vs, H1, I1, rv, ph1, h1, ws, R1, ev, w1, x1⟩ => ⟨I1.kIn, ?_⟩) he hpl
  subst ev
  refine wpAny_call (codeAny_mono (run_new M cx F hr tk (fun s' x kin hl => ?_) I1 R1 w1 rv x1) fun rr s' q => ?_)
  · have b := hb s' (x :: us) kin (by rw [List.append_nil, List.length_cons, ← rv.length, List.length_map]; exact hl)
    rw [List.append_nil] at b
    exact b
  · cases rr with
    | error e => exact q
    | ok fl => cases fl <;> first | exact q | exact q.elim
/-- how the keywords of C(k = e, ..) bind -/
def KB1 (fd : FuncData) (ps : List Str) (n : Nat) (ks : List Str) (is : List Nat) : Prop := ∀ (s : Shared) (x : Value) (ws : List Value), ws.length = ks.length → BindsTo s fd ⟨[x], ks.zip ws⟩ (ps.zip (x :: pick is ws))
theorem e_makeK {x : Str} {p : Pos} {k ci n : Nat} {is : List Nat} {fi : Addr} {fd : FuncData} {ps ks : List Str} {mf : Mini.F} (M : Mk X.K (Ga ci) fi) (cx : ClsX X.K (Ga ci)) (F : FnM X.prog X.w X.K X.mg X.base Ga k fi fd ps mf) (hr : RoomG (k + 1) X.A) (hg : Gl X x) (hm : X.mg x = some (.ref (Ga ci))) (hb : KB1 fd ps n ks is) (tk : Takes X Wd)
    (hkw : PK X kws (tA X.K Ga pin Wd mk)) (hn : ks.length = n) (hall : (backToKw pos (keywordEach kws X.env)).all (·.1.isSome) = true := by rfl) (hks : (backToKw pos (keywordEach kws X.env)).filterMap (·.1) = ks := by rfl) (hdb : (x == ("__debug__" : Str)) = false := by decide)
    (hpl : ((backTo pos (starEach [] X.env)).any (·.1) || (backToKw pos (keywordEach kws X.env)).any (·.1.isNone))
      = false := by rfl) :
    PE X (.Call (.Name x p) [] kws pos) (tE X.K Ga pin Wd (eMakeK ci mf is (aN n mk))) := by
  refine ⟨fun pins s sg H Q I ⟨ph, h, r, S, x⟩ => ?_⟩
  refine wpAny_Call_Name_kw (ld_glob I hg hm (?_ : _) hdb)
  have x0 : rd X.K Ga Wd relW ph h sg ((aN n mk r h).bind fun ys h2 => newIns ci mf (pick is ys) h2) Q := x
  have y : tA X.K Ga pin Wd mk sg H (fun vs H1 => ∃ ph1 h1 ws, ws.length = n ∧ HR X.K Ga ph1 h1 H1 ∧ vs = ws.map (vW ph1) ∧ (∀ w ∈ ws, wf h1.length w) ∧ rd X.K Ga Wd relW ph1 h1 sg (newIns ci mf (pick is ws) h1) Q) := by
    refine ⟨ph, h, r, S, ?_⟩
    unfold aN at x0
    cases e : mk r h with
    | ok ws h1 =>
      rw [e] at x0
      have x1 : rd X.K Ga Wd relW ph h sg ((if ws.length = n then Mini.R.ok ws h1 else .bad).bind fun ys h2 => newIns ci mf (pick is ys) h2) Q := x0
      by_cases c : ws.length = n
      · rw [if_pos c] at x1
        intro ph1 H1 b1 g1 R1 rl
        exact ⟨ph1, h1, ws, c, R1, rl.1, rl.2, rd.base g1 x1⟩
      · rw [if_neg c] at x1; exact x1.elim
    | exc cc d h1 => rw [e] at x0; exact x0
    | bad => rw [e] at x0; exact x0.elim
  refine PySem.W.callWith_KW0 (h₀ := X.base) I.ok.mod.kin M.kp hall (?_ : _) hpl
  refine thn (hkw.run pos pins s sg H _ I y) fun us s1 ⟨vs, H1, I1, rv, ph1, h1, ws, lw, R1, ev, w1, x1⟩ => ⟨I1.kIn, ?_⟩
  rw [hks]
  subst ev
  have rv2 : Vals ((pick is ws).map (vW ph1)) (pick is us) := by rw [← pick_map]; exact pick_vals rv
  refine wpAny_call (codeAny_mono (run_new (us := []) M cx F hr tk (fun s' x kin hl => ?_) I1 R1 (fun w hw => w1 w (pick_mem hw)) rv2 x1) fun rr s' q => ?_)
  · exact hb s' x us (by rw [hn, ← rv.length, List.length_map]; exact lw)
  · cases rr with
    | error e => exact q
    | ok fl => cases fl <;> first | exact q | exact q.elim
/-- isinstance(x, C), C an own class: what the top has written of the two -/
structure KitC (K : PySem.W.Frag) (Ga : Nat → Addr) (ci : Nat) : Prop where
  base : ∀ k : Option Mini.Ty, PySem.W.kitOne K (.type (kindName k)) (.ref (Ga ci)) = some false
  ins : ∀ c, ClsX K (Ga c) → PySem.W.kitOne K (.ref (Ga c)) (.ref (Ga ci)) = some (decide (c = ci))
  exc : ∀ c, ExcX K (Ga c) → PySem.W.kitOne K (.ref (Ga c)) (.ref (Ga ci)) = some (decide (c = ci))
theorem tyx_kind {w : Mini.W} (R : HR X.K Ga ph h H) (e : known w h = true) : (insOf w h = none ∧ clsOf w h = none ∧ TyE X.K H (vW ph w) (.type (kindName (Mini.kindOf w h)))) ∨ (∃ c, insOf w h = some c ∧ clsOf w h = some c ∧ ClsX X.K (Ga c) ∧ TyE X.K H (vW ph w) (.ref (Ga c))) ∨
    ∃ c, insOf w h = none ∧ clsOf w h = some c ∧ ExcX X.K (Ga c) ∧ TyE X.K H (vW ph w) (.ref (Ga c)) := by
  cases w with
  | non => exact .inl ⟨rfl, rfl, .base (.base .non)⟩
  | bl b => exact .inl ⟨rfl, rfl, .base (.base (.bl b))⟩
  | int i => exact .inl ⟨rfl, rfl, .base (.base (.int i))⟩
  | str s => exact .inl ⟨rfl, rfl, .base (.base (.str s))⟩
  | ref n =>
    simp only [known] at e
    simp only [Mini.kindOf, insOf, clsOf]
    cases e1 : h[n]? with
    | none => rw [e1] at e; cases e
    | some cl =>
      have q := R.cells n cl e1
      rw [e1] at e
      cases cl with
      | lst xs => exact .inl ⟨rfl, rfl, .base (.base (.lst q.1))⟩
      | fz xs => obtain ⟨⟨o, q1⟩, _⟩ := q; exact .inl ⟨rfl, rfl, .base (.base (.frz q1))⟩
      | cl xs => obtain ⟨⟨o, its, m, e1, e2, _⟩, _⟩ := q; exact .inl ⟨rfl, rfl, .base (.kList e1 e2)⟩
      | tup xs => exact .inl ⟨rfl, rfl, .base (.base (.tup q.1))⟩
      | ct xs => obtain ⟨⟨o, its, m, e1, e2, _⟩, _⟩ := q; exact .inl ⟨rfl, rfl, .base (.kTuple e1 e2)⟩
      | dic kvs => exact .inl ⟨rfl, rfl, .base (.base (.dK q.1))⟩
      | ins c fs =>
        obtain ⟨⟨dx, q1, cx⟩, _⟩ := q
        exact .inr (.inl ⟨c, rfl, rfl, cx, .base (.base (.ins q1 cx.cl cx.ha cx.hn cx.htk cx.hm))⟩)
      | exo c d =>
        obtain ⟨⟨q1, cx⟩, _⟩ := q
        exact .inr (.inr ⟨c, rfl, rfl, cx, .exc q1 cx.ec (xd_there R e)⟩)
      | _ => cases e
theorem e_isiC {x T : Str} {ci : Nat} {p p2 : Pos} (hx : x = "isinstance") (hgl : Gl X x) (hm : X.mg x = none) (hgl2 : Gl X T) (hm2 : X.mg T = some (.ref (Ga ci))) (kc : KitC X.K Ga ci) (hd2 : (T == ("__debug__" : Str)) = false := by decide)
    (ha : PE X a (tE X.K Ga pin Wd m)) (he : starEach (a :: [.Name T p2]) X.env = (false, eval a X.env) :: starEach [.Name T p2] X.env := by rfl) (he2 : starEach (.Name T p2 :: []) X.env = (false, eval (.Name T p2) X.env) :: starEach [] X.env := by rfl) (hpl : (backTo pos (starEach [.Name T p2] X.env)).any (·.1) = false := by rfl) :
    PE X (.Call (.Name x p) [a, .Name T p2] [] pos) (tE X.K Ga pin Wd (eUn (gIsiC ci) m)) := by
  subst hx
  have ht : PE X (.Name T p2) (tC (.ref (Ga ci))) := pe_glob hgl2 hm2 rfl hd2
  refine PE.imp (pe_callB call_isiE hgl hm (by decide +kernel) (pa_cons ha (pa_cons ht pa_nil he2) he) (by decide) (by decide) he hpl) fun sg H Q ⟨ph, h, r, s, x⟩ => ?_
  refine ⟨ph, h, r, s, x.bind fun u h1 _ ph1 H1 b1 g1 R1 ⟨eb1, w1⟩ x1 => ?_⟩
  unfold gIsiC at x1
  by_cases k : known u h1 = true
  · rw [if_pos k] at x1
    rw [eb1]
    have dc : ∀ c : Nat, ((some c == some ci : Bool)) = decide (c = ci) := fun c => by by_cases z : c = ci <;> simp [z]
    rcases tyx_kind R1 k with ⟨_, e0, tx⟩ | ⟨c, _, e0, cx, tx⟩ | ⟨c, _, e0, cx, tx⟩
    · rw [e0] at x1
      exact ⟨_, _, _, _, _, rfl, .own _, tx, kc.base _, rd_ok (w := .bl false) x1 R1 trivial⟩
    · rw [e0, dc] at x1
      exact ⟨_, _, _, _, _, rfl, .own _, tx, kc.ins c cx, rd_ok (w := .bl _) x1 R1 trivial⟩
    · rw [e0, dc] at x1
      exact ⟨_, _, _, _, _, rfl, .own _, tx, kc.exc c cx, rd_ok (w := .bl _) x1 R1 trivial⟩
  · rw [if_neg k] at x1
    exact x1.elim
end
end Br
set_option Elab.async false
set_option autoImplicit false
set_option linter.all false
set_option maxRecDepth 100000
set_option maxHeartbeats 1100000
namespace PySem.W
open PySem PySem.Spec PySem.Calls PyProof.Rows L2 Builtin
section
variable {prog : Program} {w : World} {A : Around} {E : Value → Shared → Prop} {s : Shared} {K : Frag} {x y C f : Addr} {ox oy : Obj} {od oe : Option Obj}
/-- a special method that is a built-in one, called -/
theorem ifBoundB {M : Model} {name : Str} {id : String} {cls : String} {args : List Value} {Q : Option Value → Shared → Prop} (X : K.In s.heap) (I : InstAt s.heap x ox C od) (hs : findIn K (.ref C) name = some (some (.builtin id))) (S : Slot cls name id)
    (h : wpAny M A (call (.builtin id) (.ref x :: args)) (fun v => Q (some v)) E s) : wpAny M A (callSpecialIfBound? (.ref x) name args) Q E s := by
  have told : wpAny M A (do let v ← call (.builtin id) ([.ref x] ++ args); pure (some v)) Q E s := wpAny_bind (wpAny_mono h (fun _ _ q => wpAny_pure q) fun _ _ q => q)
  unfold callSpecialIfBound?
  unfold bindSpecialIfBound?
  refine wpAny_holding (wpAny_bind (wpAny_bind (wpAny_bind (I.type.here ((looks_findIn X hs).here (?_ : _))))))
  simp only [S.bind]
  refine wpAny_bind (wpAny_askSetting (wpAny_ite (?_ : _)))
  split
  all_goals first
    | exact wpAny_bind (wpAny_pure (wpAny_pure told))
    | exact wpAny_tryCatch (wpAny_bind (wpAny_pure (wpAny_pure told)))
/-- object.__ne__ of an instance with an own == -/
theorem neBody (hu : A.units < cLine) (X : K.In s.heap) (I : InstAt s.heap x ox C od) (hs : findIn K (.ref C) "__eq__" = some (some (.ref f))) (hf : isFn K (.ref f) = true) {Q : Fin → Shared → Prop}
    (hcall : wpAny (model prog w) A (call (.ref f) [.ref x, .ref y]) (fun v s' => ∃ b, v = .bool b ∧ Q (.done (.ret (.bool (!b)))) s') E s) :
    wpAny (model prog w) A (Builtin.«object.__ne__» ⟨[.ref x, .ref y], []⟩) Q E s := by
  unfold Builtin.«object.__ne__» <;> skip
  refine wpAny_bind (wpAny_of_eq (a := ((Value.ref x : Value), [Value.ref y])) (by first | rfl | (simp only [slotArgs]; rfl)) (?_ : _))
  refine wpAny_bind (wpAny_cRoomFor hu (wpAny_bind (ifBound_K X I hs hf (wpAny_mono hcall (fun v s' hv => ?_) fun _ _ e => e))))
  obtain ⟨b, rfl, hq⟩ := hv
  refine wpAny_bind (m := truthy (.bool b)) (wpAny_truthy_bool (?_ : _))
  exact wpAny_pure hq
theorem ne_K (hu : A.units + 1 < cLine) (X : K.In s.heap) (I : InstAt s.heap x ox C od) (J : InstAt s.heap y oy C oe) (hne : findIn K (.ref C) "__ne__" = some (some (.builtin "object.__ne__"))) (ho : subIn K (.ref C) (.type "object") = some true)
    (hs : findIn K (.ref C) "__eq__" = some (some (.ref f))) (hf : isFn K (.ref f) = true) {Q : Value → Shared → Prop}
    (hcall : wpAny (model prog w) A.in1 (call (.ref f) [.ref x, .ref y]) (fun v s' => ∃ b, v = .bool b ∧ Q (.bool (!b)) s') E s) : wpAny (model prog w) A (richCompare .NotEq (.ref x) (.ref y)) Q E s := by
  have sub : Looks (model prog w) s.heap (isInstance (.ref x) (.type "object")) true := I.type.andThen (looks_subIn X ho)
  have same : (Value.ref C != Value.ref C) = false := by simp
  have told : wpAny (model prog w) A (tryCompare (.ref x) "__ne__" (.ref y)) (fun r s' => ∃ b, r = some (.bool b) ∧ Q (.bool b) s') E s := by
    unfold tryCompare
    refine wpAny_bind (ifBoundB X I hne F.cmp_object.ne (wpAny_call (codeAny_call_builtin F.cmp_object.ne.plain F.cmpEntry_ne
      (@check_slot (model prog w) _ _ s "object.__ne__" "object" "__ne__" (.ref x) [.ref y] [] _ F.cmpKind_ne F.cmpSplit_ne sub (F.cmpArgs_ne _ _) (neBody (A := A.in1) hu X I hs hf (wpAny_mono hcall (fun v s' hv => ?_) fun _ _ e => e))))))
    obtain ⟨b, rfl, hq⟩ := hv
    first | exact ⟨b, rfl, wpAny_pure ⟨_, rfl, hq⟩⟩ | exact ⟨b, rfl, wpAny_pure (wpAny_pure ⟨_, rfl, hq⟩)⟩ | exact ⟨b, rfl, ⟨_, rfl, hq⟩⟩
  have fin : ∀ r s', (∃ b, r = some (Value.bool b) ∧ Q (.bool b) s') → ∃ b, r = some (Value.bool b) ∧ Q (.bool b) s' := fun _ _ z => z
  unfold richCompare
  rw [cmpInfo_NotEq]
  simp only [oneThing_ref]
  refine wpAny_holding (wpAny_bind (wpAny_cRoomFor (by omega) (wpAny_bind (I.type.here (wpAny_bind (J.type.here (?_ : _)))))))
  rw [same]
  simp only [if_false, Bool.false_eq_true]
  refine wpAny_bind (wpAny_pure (?_ : _))
  simp only [if_false, Bool.false_eq_true]
  refine wpAny_bind (wpAny_mono told (fun v s' hv => ?_) fun _ _ e => e)
  obtain ⟨b, rfl, hq⟩ := fin _ _ hv
  first | exact wpAny_pure hq | exact wpAny_pure (wpAny_pure hq)
end
end PySem.W
namespace Br
open PySem PySem.Spec PyProof.Rows L2 Mini
/-! ### an own == -/
structure EqC (K : PySem.W.Frag) (Ga : Nat → Addr) (ci : Nat) (f : Addr) : Prop where
  hs : PySem.W.findIn K (.ref (Ga ci)) "__eq__" = some (some (.ref f))
  hf : PySem.W.isFn K (.ref f) = true
  nf0 : ∀ k : Option Mini.Ty, PySem.W.notFirst K (Ga ci) (.type (kindName k)) = true
  nf1 : ∀ c, ClsX K (Ga c) → PySem.W.notFirst K (Ga ci) (.ref (Ga c)) = true
  nf2 : ∀ c, ExcX K (Ga c) → PySem.W.notFirst K (Ga ci) (.ref (Ga c)) = true
section
variable {X : Cx} {Ga : Nat → Addr} {pin : Pin} {Wd : WX} {ph : Nat → Addr} {h : MH} {r : Mini.Env} {sg : L2.St} {H : Hp}
/-- which classes have an own ==, and what it does -/
def EqFs (X : Cx) (Ga : Nat → Addr) (j : Nat) (me : Nat → Option Mini.F) : Prop := ∀ c mf, me c = some mf → ∃ (fi : Addr) (fd : FuncData) (ps : List Str), EqC X.K Ga c fi ∧ FnM X.prog X.w X.K X.mg X.base Ga j fi fd ps mf ∧ Binds X.K fd ps []
def rEqO (X : Cx) (Ga : Nat → Addr) (me : Nat → Option Mini.F) : R2 := fun x y H Q => ∃ ph h wx wy c mf, HR X.K Ga ph h H ∧ x = vW ph wx ∧ y = vW ph wy ∧ wf h.length wx ∧ wf h.length wy ∧ insOf wx h = some c ∧ me c = some mf ∧ known wy h = true ∧
  rd X.K Ga (fun _ _ _ _ => False) relW ph h [] (mf [wx, wy] h) (fun v H' => ∃ b, v = .bl b ∧ Q (.bl b) H')
theorem op_eqO {j : Nat} {me : Nat → Option Mini.F} (hr : RoomG j X.A) (he : EqFs X Ga j me) : OpR X (compareOp .Eq) (rEqO X Ga me) := by
  intro pins s sg H x y v u Q I rx ry q
  obtain ⟨ph, h, wx, wy, c, mf, R, rfl, rfl, hx, hy, ei, em, kn, x2⟩ := q
  obtain ⟨fi, fd, ps, EC, F, hb⟩ := he c mf em
  show wpAny (model X.prog X.w) X.A (richCompare .Eq v u) (EP X pins sg Q) X.xe s
  cases wx with
  | ref n =>
    simp only [insOf] at ei
    cases e1 : h[n]? with
    | none => rw [e1] at ei; cases ei
    | some cl =>
      rw [e1] at ei
      cases cl with
      | ins c' fs =>
        cases ei
        obtain ⟨⟨dx, z1, cx⟩, _⟩ := R.cells n _ e1
        have rx' : v = Value.ref (ph n) := rx
        subst rx'
        obtain ⟨mA, J, _⟩ := ins_get I.hok z1
        obtain ⟨od, J, _⟩ := J.look
        obtain ⟨m, hF⟩ := I.fr
        have ty : ∃ t, PySem.W.notFirst X.K (Ga c) t = true ∧ TyE X.K H (vW ph wy) t := by
          rcases tyx_kind R kn with ⟨_, _, tx⟩ | ⟨c2, _, _, cx2, tx⟩ | ⟨c2, _, _, cx2, tx⟩
          · exact ⟨_, EC.nf0 _, tx⟩
          · exact ⟨_, EC.nf1 c2 cx2, tx⟩
          · exact ⟨_, EC.nf2 c2 cx2, tx⟩
        obtain ⟨t, nf, tx⟩ := ty
        obtain ⟨P, kx, hP, _⟩ := kitE_of I ry tx
        refine PySem.W.cmp_K (op := .Eq) (tb := t) hr.room.units0 hF I.ok.mod.kin J (kx.ty _ _ I.kIn hP) nf EC.hs EC.hf ?_
        have hl : [Mini.W.ref n, wy].length = ps.length := by
          by_cases cc : [Mini.W.ref n, wy].length = ps.length
          · exact cc
          · rw [F.len _ _ cc] at x2; exact x2.elim
        have b := hb s [.ref (ph n), u] I.kIn (by rw [List.append_nil]; exact hl)
        rw [List.append_nil] at b
        have rv : Vals ([Mini.W.ref n, wy].map (vW ph)) [Value.ref (ph n), u] := .cons (show RelV (V.ref (ph n)) (Value.ref (ph n)) from rfl) (.cons ry .nil)
        refine wpAny_call (codeAny_mono (F.run X.A X.stack s H ⟨[.ref (ph n), u], []⟩ [.ref (ph n), u] _ _ (fun _ _ _ => False) hr I.env0 b rv ⟨ph, h, [.ref n, wy], R, rfl, fun w hw => by
          rcases List.mem_cons.mp hw with z | z
          · rw [z]; exact hx
          · rw [List.mem_singleton.mp z]; exact hy, x2⟩) fun rr s' hq => ?_)
        cases rr with
        | error e =>
          exact (passAt (X := X) (W := fun _ _ _ _ => False) takes0 sg pins H s e s' I hq)
        | ok fl =>
          cases fl with
          | ret w =>
            obtain ⟨z, H', I', rz, b, ez, q⟩ := I.after hq
            subst ez
            have rz' : w = Value.bool b := rz
            subst rz'
            exact ⟨.bl b, H', I', rfl, q⟩
          | next => exact False.elim hq
          | brk => exact False.elim hq
          | cont => exact False.elim hq
      | _ => cases ei
  | _ => cases ei
theorem s_eqO {me : Nat → Option Mini.F} : BinS X Ga (eqO me) (fun x y H Q => rEqA X.K x y H Q ∨ rEqO X Ga me x y H Q) := by
  intro Wd ph h H sg x y Q R w1 w2 q
  unfold eqO at q
  cases e : insOf x h with
  | none =>
    rw [e] at q
    exact .inl (s_eq Wd ph h H sg x y Q R w1 w2 q)
  | some c =>
    rw [e] at q
    simp only [] at q
    cases em : me c with
    | none => rw [em] at q; exact q.elim
    | some mf =>
      rw [em] at q
      simp only [] at q
      by_cases kn : known y h = true
      · rw [if_pos kn] at q
        refine .inr ⟨ph, h, x, y, c, mf, R, rfl, rfl, w1, w2, e, em, kn, ?_⟩
        cases e2 : mf [x, y] h with
        | ok w h1 =>
          rw [e2] at q
          cases w with
          | bl b =>
            have q' : rd X.K Ga Wd relW ph h sg (.ok (.bl b) h1) Q := q
            exact fun ph' H' v g R' rl => ⟨b, rl.1, q' ph' H' _ g R' ⟨rfl, trivial⟩⟩
          | _ => exact q.elim
        | exc cc d h1 => rw [e2] at q; exact q.elim
        | bad => rw [e2] at q; exact q.elim
      · rw [if_neg kn] at q; exact q.elim
/-! an own != by an own == -/
structure NeC (K : PySem.W.Frag) (Ga : Nat → Addr) (ci : Nat) : Prop where
  ne : PySem.W.findIn K (.ref (Ga ci)) "__ne__" = some (some (.builtin "object.__ne__"))
  so : PySem.W.subIn K (.ref (Ga ci)) (.type "object") = some true
def NeFs (X : Cx) (Ga : Nat → Addr) (me : Nat → Option Mini.F) : Prop := ∀ c mf, me c = some mf → NeC X.K Ga c
def rNeO (X : Cx) (Ga : Nat → Addr) (me : Nat → Option Mini.F) : R2 := fun x y H Q => ∃ ph h wx wy c mf, HR X.K Ga ph h H ∧ x = vW ph wx ∧ y = vW ph wy ∧ wf h.length wx ∧ wf h.length wy ∧ insOf wx h = some c ∧ me c = some mf ∧ insOf wy h = some c ∧
  rd X.K Ga (fun _ _ _ _ => False) relW ph h [] (mf [wx, wy] h) (fun v H' => ∃ b, v = .bl b ∧ Q (.bl (!b)) H')
theorem ins_cell {w : Mini.W} {c : Nat} (e : insOf w h = some c) : ∃ n fs, w = .ref n ∧ h[n]? = some (.ins c fs) := by
  cases w with
  | ref n =>
    simp only [insOf] at e
    cases e1 : h[n]? with
    | none => rw [e1] at e; cases e
    | some cl =>
      rw [e1] at e
      cases cl with
      | ins c' fs => cases e; exact ⟨n, fs, rfl, e1⟩
      | _ => cases e
  | _ => cases e
theorem op_neO {j : Nat} {me : Nat → Option Mini.F} (hr : RoomG (j + 1) X.A) (he : EqFs X Ga j me) (hn : NeFs X Ga me) : OpR X (compareOp .NotEq) (rNeO X Ga me) := by
  intro pins s sg H x y v u Q I rx ry q
  obtain ⟨ph, h, wx, wy, c, mf, R, rfl, rfl, hx, hy, ei, em, ej, x2⟩ := q
  obtain ⟨fi, fd, ps, EC, F, hb⟩ := he c mf em
  obtain ⟨n, fs, rfl, e1⟩ := ins_cell ei
  obtain ⟨n2, fs2, rfl, e2⟩ := ins_cell ej
  show wpAny (model X.prog X.w) X.A (richCompare .NotEq v u) (EP X pins sg Q) X.xe s
  obtain ⟨⟨dx, z1, cx⟩, _⟩ := R.cells n _ e1
  obtain ⟨⟨dx2, z2, _⟩, _⟩ := R.cells n2 _ e2
  obtain rfl : v = Value.ref (ph n) := rx
  obtain rfl : u = Value.ref (ph n2) := ry
  obtain ⟨mA, J, _⟩ := ins_get I.hok z1
  obtain ⟨od, J, _⟩ := J.look
  obtain ⟨mB, L, _⟩ := ins_get I.hok z2
  obtain ⟨oe, L, _⟩ := L.look
  refine PySem.W.ne_K (by have := hr.room.un; omega) I.kIn J L (hn c mf em).ne (hn c mf em).so EC.hs EC.hf ?_
  have hl : [Mini.W.ref n, .ref n2].length = ps.length := by
    by_cases cc : [Mini.W.ref n, .ref n2].length = ps.length
    · exact cc
    · rw [F.len _ _ cc] at x2; exact x2.elim
  have b := hb s [.ref (ph n), .ref (ph n2)] I.kIn (by rw [List.append_nil]; exact hl)
  rw [List.append_nil] at b
  have rv : Vals ([Mini.W.ref n, .ref n2].map (vW ph)) [Value.ref (ph n), .ref (ph n2)] := .cons (show RelV (V.ref (ph n)) (Value.ref (ph n)) from rfl) (.cons (show RelV (V.ref (ph n2)) (Value.ref (ph n2)) from rfl) .nil)
  refine wpAny_call (codeAny_mono (F.run X.A.in1 X.stack s H ⟨[.ref (ph n), .ref (ph n2)], []⟩ [.ref (ph n), .ref (ph n2)] _ _ (fun _ _ _ => False) ⟨hr.room.in1, hr.g⟩ ⟨I.ok.frames, I.ok.mod, I.bs, I.env0.bsz, I.stack, I.stkFree, I.hok, I.bare⟩ b rv ⟨ph, h, [.ref n, .ref n2], R, rfl, fun w hw => by
      rcases List.mem_cons.mp hw with z | z
      · rw [z]; exact hx
      · rw [List.mem_singleton.mp z]; exact hy, x2⟩) fun rr s' hq => ?_)
  cases rr with
  | error e => exact (passAt (X := X) (W := fun _ _ _ _ => False) takes0 sg pins H s e s' I hq)
  | ok fl =>
    cases fl with
    | ret w =>
      obtain ⟨z, H', I', rz, b, ez, q⟩ := I.after hq
      subst ez
      obtain rfl : w = Value.bool b := rz
      exact ⟨b, rfl, .bl (!b), H', I', rfl, q⟩
    | next => exact False.elim hq
    | brk => exact False.elim hq
    | cont => exact False.elim hq
theorem s_neO {me : Nat → Option Mini.F} {R0 : R2} (s0 : BinS X Ga gNe R0) : BinS X Ga (neO me) (fun x y H Q => R0 x y H Q ∨ rNeO X Ga me x y H Q) := by
  intro Wd ph h H sg x y Q R w1 w2 q
  unfold neO at q
  cases e : insOf x h with
  | none =>
    rw [e] at q
    exact .inl (s0 Wd ph h H sg x y Q R w1 w2 q)
  | some c =>
    rw [e] at q
    simp only [] at q
    cases em : me c with
    | none => rw [em] at q; exact q.elim
    | some mf =>
      rw [em] at q
      simp only [] at q
      by_cases kn : insOf y h = some c
      · rw [if_pos kn] at q
        refine .inr ⟨ph, h, x, y, c, mf, R, rfl, rfl, w1, w2, e, em, kn, ?_⟩
        cases e2 : mf [x, y] h with
        | ok w h1 =>
          rw [e2] at q
          cases w with
          | bl b =>
            have q' : rd X.K Ga Wd relW ph h sg (.ok (.bl (!b)) h1) Q := q
            exact fun ph' H' v g R' rl => ⟨b, rl.1, q' ph' H' _ g R' ⟨rfl, trivial⟩⟩
          | _ => exact q.elim
        | exc cc d h1 => rw [e2] at q; exact q.elim
        | bad => rw [e2] at q; exact q.elim
      · rw [if_neg kn] at q; exact q.elim
end
end Br
set_option Elab.async false
set_option autoImplicit false
set_option linter.all false
set_option maxRecDepth 100000
set_option maxHeartbeats 1100000
namespace Br
open PySem PySem.Spec PyProof.Rows L2 Mini
section
variable {X : Cx} {Ga : Nat → Addr} {pin : Pin} {Wd : WX} {ph : Nat → Addr} {h : MH} {r : Mini.Env} {sg : L2.St} {H : Hp} {a b c e : Expr} {pos : Pos} {m ma mb : Mini.E}
theorem f_tuple : FnS X Ga fTuple (fun xs H Q => ∃ p ys, xs = [.ref p] ∧ ((SqL X.K H p ys ∧ ∀ l, H l = none → Q (.ref l) (upd H l (.tup ys))) ∨ (SqT X.K H p ys ∧ Q (.ref p) H))) := by
  intro Wd ph h H sg xs Q R wx q
  match xs, q with
  | [.ref a], q =>
    simp only [fTuple] at q
    cases e1 : lstAt h a with
    | some ys =>
      rw [e1] at q
      obtain ⟨z1, z2⟩ := lstAt_ok R e1
      exact ⟨ph a, _, rfl, .inl ⟨z1, fun l hl => rd_new (o := fun _ => .tup (ys.map (vW ph))) q R hl (at_tup z2)⟩⟩
    | none =>
      rw [e1] at q
      simp only [] at q
      cases e2 : tupAt h a with
      | none => rw [e2] at q; exact q.elim
      | some ys =>
        rw [e2] at q
        exact ⟨ph a, _, rfl, .inr ⟨(tupAt_ok R e2).1, rd_ok (w := .ref a) q R (wx _ List.mem_cons_self)⟩⟩
theorem bools_map {ph : Nat → Addr} : ∀ {xs : List Mini.W} {bs : List Bool}, boolsOf xs = some bs → xs.map (vW ph) = bs.map V.bl
  | [], bs, e => by cases e; rfl
  | x :: xs, bs, e => by
    cases x with
    | bl b =>
      unfold boolsOf at e
      cases e1 : boolsOf xs with
      | none => rw [e1] at e; cases e
      | some cs =>
        rw [e1] at e
        cases e
        show V.bl b :: xs.map (vW ph) = _
        rw [bools_map e1]
        rfl
    | _ => cases e
theorem f_all : FnS X Ga fAll (rAll X.K) := by
  intro Wd ph h H sg xs Q R wx q
  match xs, q with
  | [.ref a], q =>
    simp only [fAll] at q
    cases e1 : lstAt h a with
    | none => rw [e1] at q; exact q.elim
    | some ys =>
      rw [e1] at q
      obtain ⟨z1, z2⟩ := lstAt_ok R e1
      simp only [Option.bind] at q
      cases e2 : boolsOf ys with
      | none => rw [e2] at q; exact q.elim
      | some bs =>
        rw [e2] at q
        rw [bools_map e2] at z1
        exact ⟨ph a, bs, rfl, z1, rd_ok (w := .bl _) q R trivial⟩
/-- xs[::-1] -/
theorem e_rev {k : Nat} {p1 p2 p3 : Pos} (ha : PE X a (tE X.K Ga pin Wd ma)) : PE X (.Subscript a (.Slice none none (some (.UnaryOp .USub (.Constant (.int 1) k p1) p2)) p3) pos) (tE X.K Ga pin Wd (eRev ma)) := by
  refine PE.imp (pe_revL ha) fun sg H Q ⟨ph, h, r, s, x⟩ => ?_
  refine ⟨ph, h, r, s, x.bind fun u h1 _ ph1 H1 b1 g1 R1 ⟨eb1, w1⟩ x1 => ?_⟩
  unfold revL at x1
  cases u with
  | ref n =>
    simp only [] at x1
    cases e1 : lstAt h1 n with
    | none => rw [e1] at x1; exact x1.elim
    | some ys =>
      rw [e1] at x1
      obtain ⟨z1, z2⟩ := lstAt_ok R1 e1
      refine ⟨ph1 n, _, eb1, z1, fun l hl => ?_⟩
      rw [← List.map_reverse]
      exact rd_new (o := fun _ => .lst (ys.reverse.map (vW ph1))) x1 R1 hl (at_lst fun x hx => z2 x (List.mem_reverse.mp hx))
  | _ => exact x1.elim
/-- + of tuples -/
theorem s_addX : BinS X Ga gAddX (fun x y H Q => rAddA x y H Q ∨ rCatA X.K x y H Q) := by
  intro Wd ph h H sg x y Q R w1 w2 q
  unfold gAddX at q
  cases e1 : tupOf h x with
  | none => rw [e1] at q; exact .inl (s_add Wd ph h H sg x y Q R w1 w2 q)
  | some xs =>
    cases e2 : tupOf h y with
    | none => rw [e1, e2] at q; exact .inl (s_add Wd ph h H sg x y Q R w1 w2 q)
    | some ys =>
      rw [e1, e2] at q
      simp only [] at q
      cases x with
      | ref n =>
        cases y with
        | ref k =>
          obtain ⟨a1, z1⟩ := tupAt_ok R (show tupAt h n = some xs from e1)
          obtain ⟨a2, z2⟩ := tupAt_ok R (show tupAt h k = some ys from e2)
          have hx : xs.map (vW ph) = [] ↔ xs = [] := List.map_eq_nil_iff
          have hy : ys.map (vW ph) = [] ↔ ys = [] := List.map_eq_nil_iff
          by_cases c3 : xs.length + ys.length ≤ 10000000
          · rw [if_pos c3] at q
            refine .inr ⟨ph n, ph k, _, _, rfl, rfl, a1, a2, by rw [List.length_map, List.length_map]; exact m_line c3, fun c1 => ?_, fun c1 c2 => ?_, fun c1 c2 p hp => ?_⟩
            · rw [if_pos (hx.mp c1)] at q
              exact rd_ok (w := .ref k) q R w2
            · rw [if_neg (fun z => c1 (hx.mpr z)), if_pos (hy.mp c2)] at q
              exact rd_ok (w := .ref n) q R w1
            · rw [if_neg (fun z => c1 (hx.mpr z)), if_neg (fun z => c2 (hy.mpr z))] at q
              rw [← List.map_append]
              refine rd_new (o := fun _ => .tup ((xs ++ ys).map (vW ph))) q R hp (at_tup fun x hx => ?_)
              rcases (List.mem_append.mp hx : _ ∨ _) with hx | hx
              · exact z1 x hx
              · exact z2 x hx
          · rw [if_neg c3] at q; exact q.elim
        | _ => cases e2
      | _ => cases e1
theorem s_in : BinS X Ga gIn (rInD X.K) := by
  intro Wd ph h H sg x y Q R w1 w2 q
  unfold gIn at q
  cases e1 : dataOf h dep x with
  | none => rw [e1] at q; exact q.elim
  | some d =>
    cases e2 : dataOf h dep y with
    | none => rw [e1, e2] at q; exact q.elim
    | some dy =>
      rw [e1, e2] at q
      cases dy with
      | list ds =>
        simp only [] at q
        by_cases c : SeqAt.shaped d = true ∧ SeqAt.shaped (.list ds) = true
        · rw [if_pos c] at q
          exact ⟨d, ds, dataOf_ok R _ _ _ w1 e1, dataOf_ok R _ _ _ w2 e2, c.1, c.2, rd_ok (w := .bl _) q R trivial⟩
        · rw [if_neg c] at q; exact q.elim
      | _ => exact q.elim
theorem s_notin : BinS X Ga gNotIn (rNotInD X.K) := by
  intro Wd ph h H sg x y Q R w1 w2 q
  unfold gNotIn at q
  cases e1 : dataOf h dep x with
  | none => rw [e1] at q; exact q.elim
  | some d =>
    cases e2 : dataOf h dep y with
    | none => rw [e1, e2] at q; exact q.elim
    | some dy =>
      rw [e1, e2] at q
      cases dy with
      | list ds =>
        simp only [] at q
        by_cases c : SeqAt.shaped d = true ∧ SeqAt.shaped (.list ds) = true
        · rw [if_pos c] at q
          exact ⟨d, ds, dataOf_ok R _ _ _ w1 e1, dataOf_ok R _ _ _ w2 e2, c.1, c.2, rd_ok (w := .bl _) q R trivial⟩
        · rw [if_neg c] at q; exact q.elim
      | _ => exact q.elim
end
end Br
set_option Elab.async false
set_option autoImplicit false
set_option linter.all false
set_option maxRecDepth 100000
set_option maxHeartbeats 1100000
namespace Br
open PySem PySem.Spec PyProof.Rows L2 Mini
/-! ### own classes as the top has written them, and short words for gen.py -/
structure Meth_ (K : PySem.W.Frag) (C : Addr) (nm qual : Str) (st : Stmt) (ps : List Str) : Prop where
  ex : ∃ (f : Addr) (fd : FuncData), PySem.W.findIn K (.ref C) nm = some (some (.ref f)) ∧ PySem.W.isFn K (.ref f) = true ∧ Fun K nm qual st f fd ∧ Binds K fd ps []
structure DefM (P : Program) (w : World) (K : PySem.W.Frag) (mg : Str → Option Value) (base : Heap) (Ga : Nat → Addr) (k : Nat) (C : Addr) (nm qual : Str) (st : Stmt) (ps : List Str) (m : Mini.F) : Prop where
  ex : ∃ (f : Addr) (fd : FuncData), PySem.W.findIn K (.ref C) nm = some (some (.ref f)) ∧ PySem.W.isFn K (.ref f) = true ∧ Fun K nm qual st f fd ∧ Binds K fd ps [] ∧ FnM P w K mg base Ga k f fd ps m
theorem defm_of {P : Program} {w : World} {K : PySem.W.Frag} {mg : Str → Option Value} {base : Heap} {Ga : Nat → Addr} {k : Nat} {C : Addr} {x q : Str} {st : Stmt} {N ps : List Str} {sb : Mini.S} (Y : Meth_ K C x q st ps) (S : FnScope N ps (defScope st))
    (hbody : ∀ (f : Addr) (cdv : Value) (A : Around) (outer : List PySem.Env) (s : Shared) (H : Hp) (E : XK), RoomG k (A.deeper (envOfC q (defScope st) s.heap.objs.size f cdv)) →
      PSs (cxOf (L2.CX P w) P w K mg base N q (defScope st) f cdv A outer s H E) (defBody st) (tS K Ga none (fun c d _ H => E c d H) sb)) :
    DefM P w K mg base Ga (k + 1) C x q st ps (fnOf N.length ps.length sb) := by
  obtain ⟨f, fd, h1, h0, F, h2⟩ := Y.ex
  obtain ⟨oc, od, kV, doc, pm, an, cdv, ct, sl, rfl, lk, hcd⟩ := F.ex
  exact ⟨f, _, h1, h0, F, h2, fnm_of lk hcd S fun A outer s H E hr => hbody f cdv A outer s H E hr⟩
structure OwnC (K : PySem.W.Frag) (mg : Str → Option Value) (Ga : Nat → Addr) (ci : Nat) (x : Str) : Prop where
  g : mg x = some (.ref (Ga ci))
  cx : ClsX K (Ga ci)
  made : PySem.W.makesIn K (Ga ci) = true
  kp : PySem.W.keepIn K (.ref (Ga ci)) = true
  kit : KitC K Ga ci
section
variable {X : Cx} {Ga : Nat → Addr} {pin : Pin} {Wd : WX} {e a b : Expr} {es : List Expr} {kws : List Keyword} {m ma mb : Mini.E} {ms mk : Mini.A} {pos p : Pos} {k j ci : Nat} {x q : Str} {st : Stmt} {ps ks : List Str} {mf : Mini.F}
theorem mk_ (D : DefM X.prog X.w X.K X.mg X.base Ga k (Ga ci) "__init__" q st ps mf) (C : OwnC X.K X.mg Ga ci x) (hr : RoomG j X.A) (tk : Takes X Wd) (ha : PA X (e :: es) (tA X.K Ga pin Wd ms)) (hk : k + 1 ≤ j := by decide) (hg : Gl X x := by rfl) (hdb : (x == ("__debug__" : Str)) = false := by decide) (he : starEach (e :: es) X.env = (false, eval e X.env) :: starEach es X.env := by rfl) (hpl : (backTo pos (starEach es X.env)).any (·.1) = false := by rfl) :
    PE X (.Call (.Name x p) (e :: es) [] pos) (tE X.K Ga pin Wd (eMake ci mf ms)) := by
  obtain ⟨f, fd, h1, h0, F, h2, M⟩ := D.ex
  exact e_make ⟨C.made, h1, h0, C.kp⟩ C.cx M (hr.mono hk) hg C.g h2 tk ha hdb he hpl
theorem mkK_ {n : Nat} {is : List Nat} (D : DefM X.prog X.w X.K X.mg X.base Ga k (Ga ci) "__init__" q st ps mf) (C : OwnC X.K X.mg Ga ci x) (hr : RoomG j X.A) (tk : Takes X Wd)
    (hb : ∀ (kV doc pm : Value) (an : Option Addr) (cdv ct : Value) (u : Value) (ws : List Value), ws.length = ks.length → bindArgs (PySem.W.fnOf "__init__" q (defArgs st) (defBody st) (defScope st) .none kV doc pm an cdv ct) ⟨[u], ks.zip ws⟩ = pure (ps.zip (u :: pick is ws)))
    (hkw : PK X kws (tA X.K Ga pin Wd mk)) (hn : ks.length = n := by rfl) (hk : k + 1 ≤ j := by decide) (hg : Gl X x := by rfl) (hall : (backToKw pos (keywordEach kws X.env)).all (·.1.isSome) = true := by rfl) (hks : (backToKw pos (keywordEach kws X.env)).filterMap (·.1) = ks := by rfl) (hdb : (x == ("__debug__" : Str)) = false := by decide)
    (hpl : ((backTo pos (starEach [] X.env)).any (·.1) || (backToKw pos (keywordEach kws X.env)).any (·.1.isNone))
      = false := by rfl) :
    PE X (.Call (.Name x p) [] kws pos) (tE X.K Ga pin Wd (eMakeK ci mf is (aN n mk))) := by
  obtain ⟨f, fd, h1, h0, F, h2, M⟩ := D.ex
  refine e_makeK ⟨C.made, h1, h0, C.kp⟩ C.cx M (hr.mono hk) hg C.g ?_ tk hkw hn hall hks hdb hpl
  obtain ⟨oc, od, kV, doc, pm, an, cdv, ct, sl, rfl, lk, hcd⟩ := F.ex
  exact fun s u ws h1 => .of_eq (hb kV doc pm an cdv ct u ws h1)
theorem isiC_ (C : OwnC X.K X.mg Ga ci x) {p2 : Pos} (hm : X.mg "isinstance" = none) (ha : PE X a (tE X.K Ga pin Wd m)) (hg : Gl X x := by rfl) (hgl : Gl X "isinstance" := by rfl) (hd2 : (x == ("__debug__" : Str)) = false := by decide) (he : starEach (a :: [.Name x p2]) X.env = (false, eval a X.env) :: starEach [.Name x p2] X.env := by rfl) (he2 : starEach (.Name x p2 :: []) X.env = (false, eval (.Name x p2) X.env) :: starEach [] X.env := by rfl) (hpl : (backTo pos (starEach [.Name x p2] X.env)).any (·.1) = false := by rfl) :
    PE X (.Call (.Name "isinstance" p) [a, .Name x p2] [] pos) (tE X.K Ga pin Wd (eUn (gIsiC ci) m)) := e_isiC rfl hgl hm hg C.g C.kit hd2 ha he he2 hpl
theorem addX_ (ha : PE X a (tE X.K Ga pin Wd ma)) (hb : PE X b (tE X.K Ga pin Wd mb)) : PE X (.BinOp a .Add b pos) (tE X.K Ga pin Wd (eBin gAddX ma mb)) := e_bin (OpR.or op_addA op_catA) s_addX ha hb
end
theorem blkOk_in {N : List Str} {sc scope : Scope} {own : List (Str × Nat)} (h : blkC N sc scope own = true) : BlkOk N sc scope own := blkOk_by h
theorem blk_in {N N' : List Str} {sc sc' scope : Scope} {own : List (Str × Nat)} (e : sc = sc') (h : blkC N sc' scope own = true) : blkC N sc scope own = true := by rw [e]; exact h
theorem hu65 {k : Nat} {A : Around} (r : RoomG k A) : A.units + 65 < cLine := by have := r.room.un; omega
theorem kitC_of {K : PySem.W.Frag} {Ga : Nat → Addr} {ci n : Nat} (hci : ci < n) (hC : PySem.W.isClsIn K (Ga ci) = true) (hT : PySem.W.typeIn K (.ref (Ga ci)) = some (.type "type")) (h0 : ∀ c, n ≤ c → PySem.W.hasDictIn K (Ga c) = false)
    (h1 : ∀ c, c < n → PySem.W.subIn K (.ref (Ga c)) (.ref (Ga ci)) = some (decide (c = ci))) (h2 : ∀ k : Option Mini.Ty, PySem.W.subIn K (.type (kindName k)) (.ref (Ga ci)) = some false) : KitC K Ga ci := by
  have e2 : ((PySem.W.clsIn K (Ga ci)).isSome && PySem.W.typeIn K (.ref (Ga ci)) == some (.type "type")) = true := by
    have h2' : (PySem.W.clsIn K (Ga ci)).isSome = true := hC
    rw [h2', hT] <;> rfl
  have all : ∀ c, PySem.W.hasDictIn K (Ga c) = true → PySem.W.kitOne K (.ref (Ga c)) (.ref (Ga ci)) = some (decide (c = ci)) := fun c hc => by
    have lt : c < n := Nat.lt_of_not_le fun z => by have := h0 c z; rw [hc] at this; cases this
    have s := h1 c lt
    unfold PySem.W.kitOne
    by_cases z : (Value.ref (Ga c) == Value.ref (Ga ci)) = true
    · rw [if_pos z]
      have zz' : Ga c = Ga ci := Value.ref.inj (beq_iff_eq.mp z)
      by_cases cc : c = ci
      · simp [cc]
      · exfalso
        have s2 := h1 ci hci
        rw [zz', s2] at s
        simp [cc] at s
    · rw [if_neg z]
      show (if ((PySem.W.clsIn K (Ga ci)).isSome && PySem.W.typeIn K (.ref (Ga ci)) == some (.type "type")) = true then PySem.W.subIn K (.ref (Ga c)) (.ref (Ga ci)) else none) = some (decide (c = ci))
      rw [if_pos e2]
      exact s
  refine ⟨fun k => ?_, fun c cx => all c cx.cl.hd, fun c cx => all c cx.xf.hdC⟩
  have n : ¬ (Value.type (kindName k) == Value.ref (Ga ci)) = true := fun z => by have := beq_iff_eq.mp z; cases this
  unfold PySem.W.kitOne
  rw [if_neg n]
  show (if ((PySem.W.clsIn K (Ga ci)).isSome && PySem.W.typeIn K (.ref (Ga ci)) == some (.type "type")) = true then PySem.W.subIn K (.type (kindName k)) (.ref (Ga ci)) else none) = some false
  rw [if_pos e2]
  exact h2 k
end Br
set_option Elab.async false
set_option autoImplicit false
set_option linter.all false
set_option maxRecDepth 100000
set_option maxHeartbeats 1100000
namespace Br
open PySem PySem.Spec PyProof.Rows L2 Mini
section
variable {X : Cx} {Ga : Nat → Addr} {pin : Pin} {Wd : WX} {ph : Nat → Addr} {h : MH} {r : Mini.Env} {sg : L2.St} {H : Hp} {o e : Expr} {m mo : Mini.E}
/-- what a method of one argument does, of Mini and of the model -/
def Met1S (X : Cx) (Ga : Nat → Addr) (g : Mini.W → Mini.W → MH → Mini.R Mini.W) (rr : V → List V → Hp → VK → Prop) : Prop :=
  ∀ (Wd : WX) (ph : Nat → Addr) (h : MH) (H : Hp) (sg : L2.St) (x y : Mini.W) (Q : VK), HR X.K Ga ph h H → wf h.length x → wf h.length y → rd X.K Ga Wd relW ph h sg (g x y h) Q → rr (vW ph x) [vW ph y] H Q
def Met0S (X : Cx) (Ga : Nat → Addr) (g : Mini.W → MH → Mini.R Mini.W) (rr : V → List V → Hp → VK → Prop) : Prop :=
  ∀ (Wd : WX) (ph : Nat → Addr) (h : MH) (H : Hp) (sg : L2.St) (x : Mini.W) (Q : VK), HR X.K Ga ph h H → wf h.length x → rd X.K Ga Wd relW ph h sg (g x h) Q → rr (vW ph x) [] H Q
theorem isLst_ty {u : Mini.W} (R1 : HR X.K Ga ph h H) (c : isLst u h = true) : ∃ n xs, u = .ref n ∧ h[n]? = some (.lst xs) ∧ H (ph n) = some (.lst (xs.map (vW ph))) := by
  cases u with
  | ref n =>
    simp only [isLst] at c
    cases e1 : h[n]? with
    | none => rw [e1] at c; cases c
    | some cl =>
      rw [e1] at c
      cases cl with
      | lst xs => exact ⟨n, xs, rfl, e1, (R1.cells n _ e1).1⟩
      | _ => cases c
  | _ => cases c
theorem e_met1 {nm : Str} {id : String} {p q : Pos} {g : Mini.W → Mini.W → MH → Mini.R Mini.W} {rr : V → List V → Hp → VK → Prop} (slot : Slot "list" nm id) (hty : typeOf (.builtin id) = pure (.type "method_descriptor")) (mt : MtR X id rr) (hg : Met1S X Ga g rr)
    (ho : PE X o (tE X.K Ga pin Wd mo)) (he : PE X e (tE X.K Ga pin Wd m)) (hbase : attributeBase o nm X.env (eval o X.env) = eval o X.env := by rfl)
    (hfew : ((backTo q (starEach [e] X.env)).all (fun x => !x.1) && (backToKw q (keywordEach [] X.env)).all (fun x => x.1.isSome)
      && decide (([e] : List Expr).length + ([] : List Keyword).length + (if ([] : List Keyword).isEmpty then 0 else 1) < 30))
      = true := by rfl)
    (hline : (p.endLine == q.line) = true := by rfl) (hs : starEach (e :: []) X.env = (false, eval e X.env) :: starEach [] X.env := by rfl) (hplain : (backTo q (starEach [] X.env)).any (·.1) = false := by rfl) :
    PE X (.Call (.Attribute o nm p) [e] [] q) (tE X.K Ga pin Wd (eMet1 g mo m)) := by
  refine PE.imp (pe_bm PySem.F.plainAttrs_list slot hty mt ho (pa_cons he pa_nil hs) hbase hfew hline hs hplain) fun sg H Q ⟨ph, h, r, s, x⟩ => ?_
  refine ⟨ph, h, r, s, x.bind fun u h1 _ ph1 H1 b1 g1 R1 ⟨eb1, w1⟩ x1 => ?_⟩
  by_cases c : isLst u h1 = true
  · rw [if_pos c] at x1
    refine ⟨?_, ph1, h1, r, s.grow g1 R1, x1.bind fun y h2 _ ph2 H2 b2 g2 R2 ⟨eb2, w2⟩ x2 => ?_⟩
    · obtain ⟨n, xs, rfl, e1, e2⟩ := isLst_ty R1 c
      rw [eb1]
      exact .inl ⟨rfl, _, .inl (.inl e2)⟩
    · rw [eb1, eb2, ← g2.v w1]
      exact hg Wd ph2 h2 H2 _ u y _ R2 (w1.mono g2.le) w2 x2
  · rw [if_neg c] at x1; exact x1.elim
theorem e_met0 {nm : Str} {id : String} {p q : Pos} {g : Mini.W → MH → Mini.R Mini.W} {rr : V → List V → Hp → VK → Prop} (slot : Slot "list" nm id) (hty : typeOf (.builtin id) = pure (.type "method_descriptor")) (mt : MtR X id rr) (hg : Met0S X Ga g rr)
    (ho : PE X o (tE X.K Ga pin Wd mo)) (hbase : attributeBase o nm X.env (eval o X.env) = eval o X.env := by rfl) (hline : (p.endLine == q.line) = true := by rfl) :
    PE X (.Call (.Attribute o nm p) [] [] q) (tE X.K Ga pin Wd (eMet0 g mo)) := by
  refine PE.imp (pe_bm0 PySem.F.plainAttrs_list slot hty mt ho hbase hline) fun sg H Q ⟨ph, h, r, s, x⟩ => ?_
  refine ⟨ph, h, r, s, x.bind fun u h1 _ ph1 H1 b1 g1 R1 ⟨eb1, w1⟩ x1 => ?_⟩
  by_cases c : isLst u h1 = true
  · rw [if_pos c] at x1
    refine ⟨?_, ?_⟩
    · obtain ⟨n, xs, rfl, e1, e2⟩ := isLst_ty R1 c
      rw [eb1]
      exact .inl ⟨rfl, _, .inl (.inl e2)⟩
    · rw [eb1]
      exact hg Wd ph1 h1 H1 _ u _ R1 w1 x1
  · rw [if_neg c] at x1; exact x1.elim
theorem lstM_ok {K : PySem.W.Frag} {x : Mini.W} {a : Nat} {xs : List Mini.W} (R : HR K Ga ph h H) (e : lstM h x = some (a, xs)) : x = .ref a ∧ h[a]? = some (.lst xs) ∧ H (ph a) = some (.lst (xs.map (vW ph))) ∧ ∀ y ∈ xs, wf h.length y := by
  cases x with
  | ref n =>
    simp only [lstM] at e
    cases e1 : h[n]? with
    | none => rw [e1] at e; cases e
    | some cl =>
      rw [e1] at e
      cases cl with
      | lst ys => cases e; exact ⟨rfl, e1, R.cells _ _ e1⟩
      | _ => cases e
  | _ => cases e
theorem set_lst {K : PySem.W.Frag} {a : Nat} {xs ys : List Mini.W} (R : HR K Ga ph h H) (e : h[a]? = some (.lst xs)) (hy : ∀ y ∈ ys, wf h.length y) : HR K Ga ph (h.set a (.lst ys)) (upd H (ph a) (.lst (ys.map (vW ph)))) :=
  R.set e trivial trivial ⟨upd_same, hy⟩
theorem er_map {α β : Type} (f : α → β) : ∀ (xs : List α) (k : Nat), (xs.map f).eraseIdx k = (xs.eraseIdx k).map f
  | [], _ => rfl
  | x :: xs, 0 => rfl
  | x :: xs, k + 1 => by
    show f x :: (xs.map f).eraseIdx k = f x :: (xs.eraseIdx k).map f
    rw [er_map f xs k]
theorem m_ext : Met1S X Ga gExt rExtend := by
  intro Wd ph h H sg x y Q R w1 w2 q
  unfold gExt at q
  cases e1 : lstM h x with
  | none => rw [e1] at q; exact q.elim
  | some p =>
    cases e2 : lstM h y with
    | none => rw [e1, e2] at q; exact q.elim
    | some p2 =>
      obtain ⟨a, xs⟩ := p
      obtain ⟨b, ys⟩ := p2
      rw [e1, e2] at q
      simp only [] at q
      by_cases c : xs.length + ys.length ≤ 10000000
      · rw [if_pos c] at q
        obtain ⟨rfl, h1, a1, z1⟩ := lstM_ok R e1
        obtain ⟨rfl, h2, a2, z2⟩ := lstM_ok R e2
        refine ⟨ph a, ph b, xs.map (vW ph), ys.map (vW ph), rfl, rfl, a1, a2, by rw [List.length_map, List.length_map]; exact m_line c, ?_⟩
        rw [← List.map_append]
        exact q.ok1 ph _ _ Grow.set (set_lst R h1 fun y hy => by
          rcases (List.mem_append.mp hy : _ ∨ _) with hy | hy
          · exact z1 y hy
          · exact z2 y hy) ⟨rfl, trivial⟩
      · rw [if_neg c] at q; exact q.elim
theorem m_pop : Met0S X Ga gPop rPop := by
  intro Wd ph h H sg x Q R w1 q
  unfold gPop at q
  cases e1 : lstM h x with
  | none => rw [e1] at q; exact q.elim
  | some p =>
    obtain ⟨a, xs⟩ := p
    rw [e1] at q
    simp only [] at q
    cases e2 : xs[xs.length - 1]? with
    | none => rw [e2] at q; exact q.elim
    | some y =>
      rw [e2] at q
      obtain ⟨rfl, h1, a1, z1⟩ := lstM_ok R e1
      refine ⟨ph a, xs.map (vW ph), vW ph y, rfl, rfl, a1, by rw [List.length_map, List.getElem?_map, e2]; rfl, ?_⟩
      have em : (xs.map (vW ph)).dropLast = xs.dropLast.map (vW ph) := by rw [List.map_dropLast]
      rw [em]
      exact q.ok1 ph _ _ Grow.set (set_lst R h1 fun y hy => z1 y (List.dropLast_subset xs hy)) ⟨rfl, by rw [List.length_set]; exact z1 y (List.mem_of_getElem? e2)⟩
theorem m_rev : Met0S X Ga gRevM rReverse := by
  intro Wd ph h H sg x Q R w1 q
  unfold gRevM at q
  cases e1 : lstM h x with
  | none => rw [e1] at q; exact q.elim
  | some p =>
    obtain ⟨a, xs⟩ := p
    rw [e1] at q
    obtain ⟨rfl, h1, a1, z1⟩ := lstM_ok R e1
    refine ⟨ph a, xs.map (vW ph), rfl, rfl, a1, ?_⟩
    rw [← List.map_reverse]
    exact q.ok1 ph _ _ Grow.set (set_lst R h1 fun y hy => z1 y (List.mem_reverse.mp hy)) ⟨rfl, trivial⟩
theorem m_popAt : Met1S X Ga gPopAt rPopAt := by
  intro Wd ph h H sg x y Q R w1 w2 q
  unfold gPopAt at q
  cases e1 : lstM h x with
  | none => rw [e1] at q; exact q.elim
  | some p =>
    obtain ⟨a, xs⟩ := p
    rw [e1] at q
    cases y with
    | int i =>
      simp only [] at q
      by_cases c : 0 ≤ i ∧ i < 9223372036854775808
      · rw [if_pos c] at q
        cases e2 : xs[i.toNat]? with
        | none => rw [e2] at q; exact q.elim
        | some w =>
          rw [e2] at q
          obtain ⟨rfl, h1, a1, z1⟩ := lstM_ok R e1
          have hl : i.toNat < xs.length := (List.getElem?_eq_some_iff.mp e2).1
          refine ⟨ph a, xs.map (vW ph), i, i.toNat, vW ph w, rfl, rfl, a1, by omega, by omega, ?_, by rw [List.getElem?_map, e2]; rfl, ?_⟩
          · rw [List.length_map]
            unfold seqIndex?
            simp only []
            rw [if_neg (by omega : ¬ i < 0), if_pos (by simp; omega)]
          · have em : (xs.map (vW ph)).eraseIdx i.toNat = (xs.eraseIdx i.toNat).map (vW ph) := er_map _ _ _
            rw [em]
            exact q.ok1 ph _ _ Grow.set (set_lst R h1 fun y hy => z1 y (List.mem_of_mem_eraseIdx hy)) ⟨rfl, by rw [List.length_set]; exact z1 w (List.mem_of_getElem? e2)⟩
      · rw [if_neg c] at q; exact q.elim
    | _ => exact q.elim
end
end Br
set_option Elab.async false
set_option autoImplicit false
set_option linter.all false
set_option maxRecDepth 100000
set_option maxHeartbeats 4100000
namespace Br
open PySem PySem.Spec PyProof.Rows L2 Mini
/-! ### a tuple once, or not at all -/
theorem tup_mul1 (l : Addr) (items : Array Value) (n : Nat) (dd : Option Addr) (sl : Array (Option Value)) (u : Tok) :
    Meets (Builtin.«tuple.__mul__» ⟨[.ref l, .int 1 u], []⟩) (fun _ R s => s.heap.get? l = some { cls := .type "tuple", dict := dd, data := .seq items n, slots := sl } ∧ R (.ok (.ret (Value.ref l))) s) :=
  .of_wp fun pr wd A R st hh => by
    obtain ⟨hp, gn, dr, tk, os⟩ := st
    obtain ⟨hL, h⟩ := hh
    have f1 := AutoSeq1.idx_int
    have lim0 : (decide ((1 : Int) < -(2 ^ 63)) || decide ((1 : Int) ≥ 2 ^ 63)) = false := by decide
    wp_walk using wpAny_loadPart' hL
    repeat (first
      | (refine wpAny_ite_false (decide_eq_false (by rw [lim0]; exact Bool.false_ne_true)) ?_; wp_walk using wpAny_loadPart' hL)
      | (refine wpAny_ite_true (by simp) ?_; wp_walk using wpAny_loadPart' hL))
    exact ⟨_, rfl, h⟩
theorem tup_mul0 (l : Addr) (items : Array Value) (n : Nat) (dd : Option Addr) (sl : Array (Option Value)) (u : Tok) (hi : items.isEmpty = false) :
    Meets (Builtin.«tuple.__mul__» ⟨[.ref l, .int 0 u], []⟩) (fun _ R s => s.heap.get? l = some { cls := .type "tuple", dict := dd, data := .seq items n, slots := sl } ∧
      R (.ok (.ret (Value.ref s.heap.objs.size))) { s with heap := s.heap.push { cls := Value.type "tuple", data := Data.seq #[] }, toks := s.toks }) :=
  .of_wp fun pr wd A R st hh => by
    obtain ⟨hp, gn, dr, tk, os⟩ := st
    obtain ⟨hL, h⟩ := hh
    have f1 := AutoSeq1.idx_int
    have lim0 : (decide ((0 : Int) < -(2 ^ 63)) || decide ((0 : Int) ≥ 2 ^ 63)) = false := by decide
    have one1 : (items.isEmpty || (0 : Int) == 1) = false := by rw [hi]; rfl
    wp_walk using wpAny_loadPart' hL
    repeat (first
      | (refine wpAny_ite_false (decide_eq_false (by rw [lim0]; exact Bool.false_ne_true)) ?_; wp_walk using wpAny_loadPart' hL)
      | (refine wpAny_ite_false (decide_eq_false (by rw [one1]; exact Bool.false_ne_true)) ?_; wp_walk using wpAny_loadPart' hL)
      | (refine wpAny_ite_true (by simp) ?_; wp_walk using wpAny_loadPart' hL))
    exact ⟨_, rfl, h⟩
def rRep01 (K : PySem.W.Frag) : R2 := fun x y H Q => ∃ l xs, x = .ref l ∧ SqT K H l xs ∧ xs ≠ [] ∧ ((y = .int 1 ∧ Q (.ref l) H) ∨ (y = .int 0 ∧ ∀ p, H p = none → Q (.ref p) (upd H p (.tup []))))
theorem op_rep01 {X : Cx} : OpR X (binaryOp .Mult) (rRep01 X.K) := by
  intro pins s sg H x y v u Q I rx ry hh
  obtain ⟨l, xs, rfl, hT, hne, q⟩ := hh
  cases rx
  obtain ⟨its, r, ⟨⟨cl, dd, dat, sl⟩, ho, hc, n, hd⟩, hs⟩ := I.tuple hT
  simp only at hc hd
  subst hc hd
  have hi : its.toArray.isEmpty = false := by clear q; exact (by
    cases its with
    | nil => cases r; exact absurd rfl hne
    | cons a b => rfl)
  rcases q with ⟨rfl, q⟩ | ⟨rfl, q⟩
  · obtain ⟨t, rfl⟩ := ry
    refine wpAny_binaryOp_repeat_ref (T := "tuple") (U := "int") (by decide) ⟨_, ho, rfl⟩ (fun s' => typeIs_int s' 1 t) noFill_tuple_mul F.fills_int_mul F.slot_int_rmul repeat_tuple F.slot_int_index.lookup
      (call_meets F.slot_int_rmul (typeIs_int s 1 t) F.entry_int_rmul (F.args_int_rmul_2 _ _) (int_rmul_tuple 1 t l its.toArray n dd sl)
        ⟨ho, rfl, ⟨_, ho, rfl⟩, call_meets F.slot_tuple_mul ⟨_, ho, rfl⟩ F.entry_tuple_mul (F.args_tuple_mul_2 _ _) (tup_mul1 l its.toArray n dd sl t) ⟨ho, ?_⟩⟩)
    exact ⟨.ref l, H, I, rfl, q⟩
  · obtain ⟨t, rfl⟩ := ry
    refine wpAny_binaryOp_repeat_ref (T := "tuple") (U := "int") (by decide) ⟨_, ho, rfl⟩ (fun s' => typeIs_int s' 0 t) noFill_tuple_mul F.fills_int_mul F.slot_int_rmul repeat_tuple F.slot_int_index.lookup
      (call_meets F.slot_int_rmul (typeIs_int s 0 t) F.entry_int_rmul (F.args_int_rmul_2 _ _) (int_rmul_tuple 0 t l its.toArray n dd sl)
        ⟨ho, rfl, ⟨_, ho, rfl⟩, call_meets F.slot_tuple_mul ⟨_, ho, rfl⟩ F.entry_tuple_mul (F.args_tuple_mul_2 _ _) (tup_mul0 l its.toArray n dd sl t hi) ⟨ho, ?_⟩⟩)
    exact ⟨.ref s.heap.objs.size, _, I.laid (t' := s.toks) (o := .tup []) (fun b ob q => Heap.get?_push_of_some _ q) (Nat.le_refl _) ⟨Nat.zero_le _, [], .nil, IsTup.new _ _⟩, rfl, q _ (I.hok.fresh (Nat.le_refl _))⟩
theorem s_mulX {X : Cx} {Ga : Nat → Addr} : BinS X Ga gMulX (fun x y H Q => rI CMulA (fun i j => .int (i * j)) x y H Q ∨ (rRepT X.K x y H Q ∨ rRep01 X.K x y H Q)) := by
  intro Wd ph h H sg x y Q R w1 w2 q
  unfold gMulX at q
  cases e1 : tupOf h x with
  | none => rw [e1] at q; exact .inl (s_intOpC (fun _ _ => mulOk_ok) Wd ph h H sg x y Q R w1 w2 q)
  | some xs =>
    rw [e1] at q
    cases y with
    | int k =>
      simp only [] at q
      cases x with
      | ref n =>
        obtain ⟨a1, z1⟩ := tupAt_ok R (show tupAt h n = some xs from e1)
        by_cases c0 : xs = []
        · rw [if_pos c0] at q; exact q.elim
        · rw [if_neg c0] at q
          have hx : xs.map (vW ph) ≠ [] := fun z => c0 (List.map_eq_nil_iff.mp z)
          by_cases c1 : k = 1
          · rw [if_pos c1] at q
            subst c1
            exact .inr (.inr ⟨ph n, _, rfl, a1, hx, .inl ⟨rfl, rd_ok (w := .ref n) q R w1⟩⟩)
          · rw [if_neg c1] at q
            by_cases c2 : k = 0
            · rw [if_pos c2] at q
              subst c2
              exact .inr (.inr ⟨ph n, _, rfl, a1, hx, .inr ⟨rfl, fun p hp => rd_new (o := fun _ => .tup (([] : List Mini.W).map (vW ph))) q R hp (at_tup fun x hx => nomatch hx)⟩⟩)
            · rw [if_neg c2] at q
              by_cases c3 : 2 ≤ k ∧ k ≤ 1000 ∧ xs.length ≤ 1000
              · rw [if_pos c3] at q
                refine .inr (.inl ⟨ph n, k, _, rfl, rfl, a1, hx, c3.1, c3.2.1, by rw [List.length_map]; exact c3.2.2, fun p hp => ?_⟩)
                have em : (List.replicate k.toNat (xs.map (vW ph))).flatten = ((List.replicate k.toNat xs).flatten).map (vW ph) := by rw [List.map_flatten, List.map_replicate]
                rw [em]
                refine rd_new (o := fun _ => .tup (((List.replicate k.toNat xs).flatten).map (vW ph))) q R hp (at_tup fun x hx => ?_)
                obtain ⟨ls, hl, hx⟩ := List.mem_flatten.mp hx
                rw [(List.mem_replicate.mp hl).2] at hx
                exact z1 x hx
              · rw [if_neg c3] at q; exact q.elim
      | _ => cases e1
    | _ => exact .inl (s_intOpC (fun _ _ => mulOk_ok) Wd ph h H sg x _ Q R w1 w2 q)
theorem mulX_ {X : Cx} {Ga : Nat → Addr} {pin : Pin} {Wd : WX} {a b : Expr} {pos : Pos} {ma mb : Mini.E} (ha : PE X a (tE X.K Ga pin Wd ma)) (hb : PE X b (tE X.K Ga pin Wd mb)) : PE X (.BinOp a .Mult b pos) (tE X.K Ga pin Wd (eBin gMulX ma mb)) := e_bin (OpR.or op_mulA (OpR.or op_repT op_rep01)) s_mulX ha hb
theorem op_isB {X : Cx} : OpR X (compareOp .Is) (fun x y H Q => ∃ b c, x = .bl b ∧ y = .bl c ∧ Q (.bl (decide (b = c))) H) := by
  intro pins s sg H x y v u Q I rx ry h
  obtain ⟨b, c, rfl, rfl, q0⟩ := h
  cases rx
  cases ry
  show wpAny _ _ ((isSame (Value.bool b) (Value.bool c)) >>= fun z => pure (Value.bool z)) _ _ s
  refine wpAny_bind (wpAny_isSame_plain (by rfl) (wpAny_pure ?_))
  refine ⟨.bl (decide (b = c)), H, I, ?_, q0⟩
  show Value.bool _ = Value.bool _
  cases b <;> cases c <;> rfl
theorem op_isnotB {X : Cx} : OpR X (compareOp .IsNot) (fun x y H Q => ∃ b c, x = .bl b ∧ y = .bl c ∧ Q (.bl (!decide (b = c))) H) := by
  intro pins s sg H x y v u Q I rx ry h
  obtain ⟨b, c, rfl, rfl, q0⟩ := h
  cases rx
  cases ry
  show wpAny _ _ ((isSame (Value.bool b) (Value.bool c)) >>= fun z => pure (Value.bool (!z))) _ _ s
  refine wpAny_bind (wpAny_isSame_plain (by rfl) (wpAny_pure ?_))
  refine ⟨.bl (!decide (b = c)), H, I, ?_, q0⟩
  show Value.bool _ = Value.bool _
  cases b <;> cases c <;> rfl
theorem s_is {X : Cx} {Ga : Nat → Addr} : BinS X Ga gIs (fun x y H Q => (y = .non ∧ Q (.bl (decide (x = .non))) H) ∨ ∃ b c, x = .bl b ∧ y = .bl c ∧ Q (.bl (decide (b = c))) H) := by
  intro Wd ph h H sg x y Q R w1 w2 q
  unfold gIs at q
  cases x with
  | bl b => cases y with
    | bl c => exact .inr ⟨b, c, rfl, rfl, rd_ok (w := .bl _) q R trivial⟩
    | _ => exact .inl (s_isN Wd ph h H sg (.bl b) _ Q R w1 w2 q)
  | _ => exact .inl (s_isN Wd ph h H sg _ y Q R w1 w2 q)
theorem s_isnot {X : Cx} {Ga : Nat → Addr} : BinS X Ga gIsNot (fun x y H Q => (y = .non ∧ Q (.bl (!decide (x = .non))) H) ∨ ∃ b c, x = .bl b ∧ y = .bl c ∧ Q (.bl (!decide (b = c))) H) := by
  intro Wd ph h H sg x y Q R w1 w2 q
  unfold gIsNot at q
  cases x with
  | bl b => cases y with
    | bl c => exact .inr ⟨b, c, rfl, rfl, rd_ok (w := .bl _) q R trivial⟩
    | _ => exact .inl (s_notN Wd ph h H sg (.bl b) _ Q R w1 w2 q)
  | _ => exact .inl (s_notN Wd ph h H sg _ y Q R w1 w2 q)
theorem f_str {X : Cx} {Ga : Nat → Addr} : FnS X Ga fStr (fun xs H Q => ∃ i, xs = [.int i] ∧ i.natAbs.log2 < 1920 ∧ Q (.str (toString i)) H) := by
  intro Wd ph h H sg xs Q R wx q
  match xs, q with
  | [.int i], q =>
    simp only [fStr] at q
    by_cases c : i.natAbs.log2 < 1920
    · rw [if_pos c] at q
      exact ⟨i, rfl, c, rd_ok (w := .str _) q R trivial⟩
    · rw [if_neg c] at q; exact q.elim
theorem rowLt_eq : ∀ a b : List Int, rowLt a b = HT.lexLt a b
  | [], [] => rfl
  | [], _ :: _ => rfl
  | _ :: _, [] => rfl
  | a :: l, b :: m => by
    show (if a = b then rowLt l m else decide (a < b)) = if a = b then HT.lexLt l m else decide (a < b)
    rw [rowLt_eq l m]
theorem ints_vW {ph : Nat → Addr} : ∀ {xs : List Mini.W} {ns : List Int}, intsOf xs = some ns → xs.map (vW ph) = ns.map V.int
  | [], ns, e => by cases e; rfl
  | x :: xs, ns, e => by
    cases x with
    | int i =>
      unfold intsOf at e
      cases e1 : intsOf xs with
      | none => rw [e1] at e; cases e
      | some cs =>
        rw [e1] at e
        cases e
        show V.int i :: xs.map (vW ph) = _
        rw [ints_vW e1]
        rfl
    | _ => cases e
theorem s_ltX {X : Cx} {Ga : Nat → Addr} : BinS X Ga gLtX (fun x y H Q => rI0 (fun i j => .bl (decide (i < j))) x y H Q ∨ rLtT X.K x y H Q) := by
  intro Wd ph h H sg x y Q R w1 w2 q
  unfold gLtX at q
  cases e1 : (tupOf h x).bind intsOf with
  | none => rw [e1] at q; exact .inl (s_intCmp Wd ph h H sg x y Q R w1 w2 q)
  | some ns =>
    cases e2 : (tupOf h y).bind intsOf with
    | none => rw [e1, e2] at q; exact .inl (s_intCmp Wd ph h H sg x y Q R w1 w2 q)
    | some ms =>
      rw [e1, e2] at q
      simp only [] at q
      obtain ⟨xs, t1, t2⟩ := Option.bind_eq_some_iff.mp e1
      obtain ⟨ys, t3, t4⟩ := Option.bind_eq_some_iff.mp e2
      cases x with
      | ref n =>
        cases y with
        | ref k =>
          obtain ⟨a1, _⟩ := tupAt_ok R (show tupAt h n = some xs from t1)
          obtain ⟨a2, _⟩ := tupAt_ok R (show tupAt h k = some ys from t3)
          rw [ints_vW t2] at a1
          rw [ints_vW t4] at a2
          rw [rowLt_eq] at q
          exact .inr ⟨ph n, ph k, ns, ms, rfl, rfl, a1, a2, rd_ok (w := .bl _) q R trivial⟩
        | _ => cases t3
      | _ => cases t1
section
variable {X : Cx} {Ga : Nat → Addr} {pin : Pin} {Wd : WX} {ph : Nat → Addr} {h : MH} {r : Mini.Env} {sg : L2.St} {H : Hp} {e tg : Expr} {es : List Expr} {pos : Pos}
theorem pg_or {t1 t2 : TG} (p1 : PG X tg t1) (p2 : PG X tg t2) : PG X tg (fun v σ H Q => t1 v σ H Q ∨ t2 v σ H Q) := ⟨fun pins s σ H v u Q I rv want => by
  rcases want with x | x
  · exact p1.run pins s σ H v u Q I rv x
  · exact p2.run pins s σ H v u Q I rv x⟩
theorem g_seq {is : List Nat} {k n : Nat} {gs : List Mini.G} (hc : X.calm = true) (hg : Tgs X Ga pin is es gs) (hl : gs.length = n := by rfl) (hn : (assignEach es X.env).length = n := by rfl) (hst : (assignEach es X.env).findIdx? (·.1) = none := by rfl) : Tg X Ga pin is (.Tuple es k pos) (gSeqT gs) := by
  obtain ⟨ts, p, z⟩ := hg.ex
  refine ⟨_, pg_or (pg_tup hc p hn hst) (pg_unl hc p hn hst), fun ph h r sg H w Q s hw q => ?_⟩
  cases w with
  | ref a =>
    have q' : rdG X.K Ga pin is ph h sg (match seqAt h a with | some xs => gAll gs xs r h | none => .bad) Q := q
    unfold seqAt at q'
    have len : ∀ {xs : List Mini.W}, rdG X.K Ga pin is ph h sg (gAll gs xs r h) Q → (xs.map (vW ph)).length = n := fun {xs} q1 => by
      cases e : gAll gs xs r h with
      | ok r1 h1 => rw [List.length_map, gAll_len e, hl]
      | exc c d h1 => rw [e] at q1; exact q1.elim
      | bad => rw [e] at q1; exact q1.elim
    cases e1 : h[a]? with
    | none => rw [e1] at q'; exact q'.elim
    | some cl =>
      have y := s.hr.cells a cl e1
      rw [e1] at q'
      cases cl with
      | tup xs => exact .inl ⟨ph a, _, rfl, .inl (.inl y.1), len q', z ph h r sg H xs Q s y.2 q'⟩
      | ct xs => exact .inl ⟨ph a, _, rfl, .inr y.1, len q', z ph h r sg H xs Q s y.2 q'⟩
      | lst xs => exact .inr ⟨ph a, _, rfl, .inl (.inl y.1), len q', z ph h r sg H xs Q s y.2 q'⟩
      | fz xs =>
        obtain ⟨⟨o, y1⟩, y2⟩ := y
        exact .inr ⟨ph a, _, rfl, .inl (.inr ⟨o, y1⟩), len q', z ph h r sg H xs Q s y2 q'⟩
      | cl xs =>
        obtain ⟨⟨o, its, m, y1, y2, y3, y4, y5, y6⟩, yw⟩ := y
        exact .inr ⟨ph a, _, rfl, .inr ⟨o, its, m, y1, y2, y3, y4, y5, y6⟩, len q', z ph h r sg H xs Q s yw q'⟩
      | _ => exact q'.elim
  | _ => exact q.elim
end
end Br
set_option Elab.async false
set_option autoImplicit false
set_option linter.all false
set_option maxRecDepth 100000
set_option maxHeartbeats 1100000
namespace Br
open PySem PySem.Spec PyProof.Rows L2 Mini
/-! ### calls with positions, keywords and defaults; own methods -/
/-- how such a call binds: pl values ahead (self), n by position, the keywords ks, the defaults ds -/
def KBf (K : PySem.W.Frag) (fd : FuncData) (ps : List Str) (pl n : Nat) (ks : List Str) (is : List Nat) (ds : List Value) : Prop :=
  ∀ (s : Shared) (pre us ws : List Value), K.In s.heap → pre.length = pl → us.length = n → ws.length = ks.length → BindsTo s fd ⟨pre ++ us, ks.zip ws⟩ (ps.zip (pre ++ pick is (us ++ ws ++ ds)))
/-- values that need no heap -/
def Cnst (dws : List Mini.W) (ds : List Value) : Prop := (∀ ph, Vals (dws.map (vW ph)) ds) ∧ ∀ w ∈ dws, ∀ n, wf n w
theorem cnst_nil : Cnst [] [] := ⟨fun _ => .nil, fun _ h => nomatch h⟩
section
variable {X : Cx} {Ga : Nat → Addr} {pin : Pin} {Wd : WX} {ph : Nat → Addr} {h : MH} {r : Mini.Env} {sg : L2.St} {H : Hp} {e o : Expr} {es : List Expr} {kws : List Keyword} {pos apos p : Pos} {mo : Mini.E} {ms mk : Mini.A} {x : Str} {k n ci : Nat} {is : List Nat} {dws : List Mini.W} {ds : List Value} {f fi : Addr} {fd : FuncData} {ps ks : List Str} {mf : Mini.F}
/-- what the arguments leave -/
def ArgQ (X : Cx) (Ga : Nat → Addr) (Wd : WX) (sg : L2.St) (n m : Nat) (ph : Nat → Addr) (h : MH) (g : List Mini.W → List Mini.W → MH → Mini.R Mini.W) (Q : VK) (vs zs : List V) (H : Hp) : Prop :=
  ∃ ph2 h2 xs ys, xs.length = n ∧ ys.length = m ∧ Grow ph h ph2 h2 ∧ HR X.K Ga ph2 h2 H ∧ vs = xs.map (vW ph2) ∧ zs = ys.map (vW ph2) ∧ (∀ w ∈ xs, wf h2.length w) ∧ (∀ w ∈ ys, wf h2.length w) ∧ rd X.K Ga Wd relW ph2 h2 sg (g xs ys h2) Q
theorem args_of {m : Nat} {g : List Mini.W → List Mini.W → MH → Mini.R Mini.W} {Q : VK} (S : SR X.K Ga pin ph h r sg H) (y : rd X.K Ga Wd relW ph h sg (eArgs n m ms mk g r h) Q) :
    tA X.K Ga pin Wd ms sg H (fun vs H1 => tA X.K Ga pin Wd mk sg H1 (fun zs H2 => ArgQ X Ga Wd sg n m ph h g Q vs zs H2)) := by
  unfold eArgs at y
  refine ⟨ph, h, r, S, y.bind fun xs h1 _ ph1 H1 b1 g1 R1 ⟨eb1, w1⟩ x1 => ⟨ph1, h1, r, S.grow g1 R1, x1.bind fun ys h2 _ ph2 H2 b2 g2 R2 ⟨eb2, w2⟩ x2 => ?_⟩⟩
  by_cases c : xs.length = n ∧ ys.length = m
  · rw [if_pos c] at x2
    exact ⟨ph2, h2, xs, ys, c.1, c.2, g1.trans g2, R2, by rw [eb1]; exact (g2.vs w1).symm, eb2, fun w hw => (w1 w hw).mono g2.le, w2, x2⟩
  · rw [if_neg c] at x2; exact x2.elim
theorem arg_vals {ph2 : Nat → Addr} {xs ys : List Mini.W} {us ws : List Value} (hd : Cnst dws ds) (r1 : Vals (xs.map (vW ph2)) us) (r2 : Vals (ys.map (vW ph2)) ws) : Vals ((pick is (xs ++ ys ++ dws)).map (vW ph2)) (pick is (us ++ ws ++ ds)) := by
  rw [← pick_map]
  refine pick_vals ?_
  rw [List.map_append, List.map_append]
  exact (r1.append r2).append (hd.1 ph2)
theorem arg_wf {N : Nat} {xs ys : List Mini.W} (hd : Cnst dws ds) (w1 : ∀ w ∈ xs, wf N w) (w2 : ∀ w ∈ ys, wf N w) : ∀ w ∈ pick is (xs ++ ys ++ dws), wf N w := fun w hw => by
  rcases List.mem_append.mp (pick_mem hw) with z | z
  · rcases List.mem_append.mp z with z | z
    · exact w1 w z
    · exact w2 w z
  · exact hd.2 w z N
/-- the arguments of a call, then the call -/
theorem with_args {m : Nat} {Q : VK} {fv : Value} {first : List Value} {pins : List (Addr × Obj)} {s : Shared} {g : List Mini.W → List Mini.W → MH → Mini.R Mini.W} (I : Inv X pins sg H s) (S : SR X.K Ga pin ph h r sg H)
    (hk : PySem.W.keepIn X.K fv = true) (ha : PA X es (tA X.K Ga pin Wd ms)) (hkw : PK X kws (tA X.K Ga pin Wd mk)) (hes : (es = [] ∧ ms = aNil) ∨ ∃ e rest, es = e :: rest ∧ starEach (e :: rest) X.env = (false, eval e X.env) :: starEach rest X.env)
    (hall : (backToKw pos (keywordEach kws X.env)).all (·.1.isSome) = true) (hks : (backToKw pos (keywordEach kws X.env)).filterMap (·.1) = ks)
    (hpl : ((backTo pos (starEach es X.env)).any (·.1) || (backToKw pos (keywordEach kws X.env)).any (·.1.isNone)) = false) (y : rd X.K Ga Wd relW ph h sg (eArgs n m ms mk g r h) Q)
    (hgo : ∀ us ws s2 vs zs H2, Inv X pins sg H2 s2 → Vals vs us → Vals zs ws → ArgQ X Ga Wd sg n m ph h g Q vs zs H2 → wpAny (model X.prog X.w) X.A (call fv (first ++ us) (ks.zip ws)) (EP X pins sg Q) X.xe s2) :
    wpAny (model X.prog X.w) X.A (callWith pos fv first (backTo pos (starEach es X.env)) (backToKw pos (keywordEach kws X.env))) (EP X pins sg Q) X.xe s := by
  have y2 := args_of S y
  rcases hes with ⟨rfl, rfl⟩ | ⟨e, rest, rfl, he⟩
  · refine PySem.W.callWith_KW0 (h₀ := X.base) I.ok.mod.kin hk hall ?_ hpl
    obtain ⟨pa, h0, r0, S0, q⟩ := y2
    have q1 := q pa H [] (Grow.refl _ _) S0.hr ⟨rfl, fun _ hx => nomatch hx⟩
    refine thn (hkw.run pos pins s sg H _ I q1) fun ws s2 ⟨zs, H2, I2, rz, q2⟩ => ⟨I2.kIn, ?_⟩
    rw [hks]
    exact hgo [] ws s2 [] zs H2 I2 .nil rz q2
  · refine PySem.W.callWith_KW (h₀ := X.base) I.ok.mod.kin hk hall (thn (ha.run pos pins s sg H _ I y2) fun us s1 ⟨vs, H1, I1, rv, q⟩ => ?_) hpl he
    refine thn (hkw.run pos pins s1 sg H1 _ I1 q) fun ws s2 ⟨zs, H2, I2, rz, q2⟩ => ⟨I2.kIn, ?_⟩
    rw [hks]
    exact hgo us ws s2 vs zs H2 I2 rv rz q2
/-- f(e, .., k = e, ..) -/
theorem e_callN {m : Nat} (F : FnM X.prog X.w X.K X.mg X.base Ga k f fd ps mf) (hr : RoomG k X.A) (hg : Gl X x) (hm : X.mg x = some (.ref f)) (hk : PySem.W.keepIn X.K (.ref f) = true) (hb : KBf X.K fd ps 0 n ks is ds) (hd : Cnst dws ds) (tk : Takes X Wd)
    (ha : PA X es (tA X.K Ga pin Wd ms)) (hkw : PK X kws (tA X.K Ga pin Wd mk)) (hes : (es = [] ∧ ms = aNil) ∨ ∃ e rest, es = e :: rest ∧ starEach (e :: rest) X.env = (false, eval e X.env) :: starEach rest X.env) (hn : ks.length = m)
    (hall : (backToKw pos (keywordEach kws X.env)).all (·.1.isSome) = true) (hks : (backToKw pos (keywordEach kws X.env)).filterMap (·.1) = ks) (hdb : (x == ("__debug__" : Str)) = false)
    (hpl : ((backTo pos (starEach es X.env)).any (·.1) || (backToKw pos (keywordEach kws X.env)).any (·.1.isNone)) = false) :
    PE X (.Call (.Name x p) es kws pos) (tE X.K Ga pin Wd (eCallN mf is dws n m ms mk)) := by
  refine ⟨fun pins s sg H Q I ⟨ph, h, r, S, y⟩ => ?_⟩
  refine wpAny_Call_Name_kw (ld_glob I hg hm (?_ : _) hdb)
  refine with_args I S hk ha hkw hes hall hks hpl y fun us ws s2 vs zs H2 I2 r1 r2 ⟨ph2, h2, xs, ys, l1, l2, g2, R2, e1, e2, w1, w2, x2⟩ => ?_
  subst e1 e2
  refine wpAny_call (codeAny_mono (run_m F hr tk (fun hl => ?_) I2 R2 (arg_wf (is := is) hd w1 w2) (arg_vals (is := is) hd r1 r2) x2) fun rr s' q => ?_)
  · exact hb s2 [] us ws I2.kIn rfl (by rw [← r1.length, List.length_map, l1]) (by rw [← r2.length, List.length_map, l2, hn])
  · cases rr with
    | error e => exact q
    | ok fl => cases fl <;> first | exact q | exact q.elim
/-- C(e, .., k = e, ..) -/
theorem e_makeN {m : Nat} (M : Mk X.K (Ga ci) fi) (cx : ClsX X.K (Ga ci)) (F : FnM X.prog X.w X.K X.mg X.base Ga k fi fd ps mf) (hr : RoomG (k + 1) X.A) (hg : Gl X x) (hm : X.mg x = some (.ref (Ga ci))) (hb : KBf X.K fd ps 1 n ks is ds) (hd : Cnst dws ds) (tk : Takes X Wd)
    (ha : PA X es (tA X.K Ga pin Wd ms)) (hkw : PK X kws (tA X.K Ga pin Wd mk)) (hes : (es = [] ∧ ms = aNil) ∨ ∃ e rest, es = e :: rest ∧ starEach (e :: rest) X.env = (false, eval e X.env) :: starEach rest X.env) (hn : ks.length = m)
    (hall : (backToKw pos (keywordEach kws X.env)).all (·.1.isSome) = true) (hks : (backToKw pos (keywordEach kws X.env)).filterMap (·.1) = ks) (hdb : (x == ("__debug__" : Str)) = false)
    (hpl : ((backTo pos (starEach es X.env)).any (·.1) || (backToKw pos (keywordEach kws X.env)).any (·.1.isNone)) = false) :
    PE X (.Call (.Name x p) es kws pos) (tE X.K Ga pin Wd (eMakeN ci mf is dws n m ms mk)) := by
  refine ⟨fun pins s sg H Q I ⟨ph, h, r, S, y⟩ => ?_⟩
  refine wpAny_Call_Name_kw (ld_glob I hg hm (?_ : _) hdb)
  refine with_args I S M.kp ha hkw hes hall hks hpl y fun us ws s2 vs zs H2 I2 r1 r2 ⟨ph2, h2, xs, ys, l1, l2, g2, R2, e1, e2, w1, w2, x2⟩ => ?_
  subst e1 e2
  refine wpAny_call (codeAny_mono (run_new M cx F hr tk (fun s' v kin hl => ?_) I2 R2 (arg_wf (is := is) hd w1 w2) (arg_vals (is := is) hd r1 r2) x2) fun rr s' q => ?_)
  · exact hb s' [v] us ws kin rfl (by rw [← r1.length, List.length_map, l1]) (by rw [← r2.length, List.length_map, l2, hn])
  · cases rr with
    | error e => exact q
    | ok fl => cases fl <;> first | exact q | exact q.elim
/-- o.m(e, .., k = e, ..), m an own method -/
theorem e_methN {m : Nat} {nm : Str} {pl : Sem Bool} (M : Meth X.K (Ga ci) nm f) (F : FnM X.prog X.w X.K X.mg X.base Ga k f fd ps mf) (hr : RoomG k X.A) (hb : KBf X.K fd ps 1 n ks is ds) (hd : Cnst dws ds) (tk : Takes X Wd) (ho : PE X o (tE X.K Ga pin Wd mo))
    (ha : PA X es (tA X.K Ga pin Wd ms)) (hkw : PK X kws (tA X.K Ga pin Wd mk)) (hes : (es = [] ∧ ms = aNil) ∨ ∃ e rest, es = e :: rest ∧ starEach (e :: rest) X.env = (false, eval e X.env) :: starEach rest X.env) (hn : ks.length = m)
    (hall : (backToKw pos (keywordEach kws X.env)).all (·.1.isSome) = true) (hks : (backToKw pos (keywordEach kws X.env)).filterMap (·.1) = ks)
    (hpl : ((backTo pos (starEach es X.env)).any (·.1) || (backToKw pos (keywordEach kws X.env)).any (·.1.isNone)) = false)
    (ht : eval (.Call (.Attribute o nm apos) es kws pos) X.env = (do
      let ov ← eval o X.env
      standAt apos.atName
      let (f, first) ← holding [ov] (getMethod ov nm pl)
      callWith pos f first (backTo pos (starEach es X.env)) (backToKw pos (keywordEach kws X.env)))) :
    PE X (.Call (.Attribute o nm apos) es kws pos) (tE X.K Ga pin Wd (eMethN ci nm mf is dws n m mo ms mk)) := by
  refine ⟨fun pins s sg H Q I ⟨ph, h, r, S, y⟩ => ?_⟩
  have y1 : rd X.K Ga Wd relW ph h sg ((mo r h).bind fun u h0 => if hasM ci nm u h0 = true then eArgs n m ms mk (fun xs ys h => mf (u :: pick is (xs ++ ys ++ dws)) h) r h0 else .bad) Q := y
  have y2 : tE X.K Ga pin Wd mo sg H (fun v H1 => ∃ ph1 h1 u, SR X.K Ga pin ph1 h1 r sg H1 ∧ v = vW ph1 u ∧ wf h1.length u ∧ rd X.K Ga Wd relW ph1 h1 sg (if hasM ci nm u h1 = true then eArgs n m ms mk (fun xs ys h => mf (u :: pick is (xs ++ ys ++ dws)) h) r h1 else .bad) Q) :=
    ⟨ph, h, r, S, y1.bind fun u h1 _ ph1 H1 b1 g1 R1 ⟨eb1, w1⟩ x1 => ⟨ph1, h1, u, S.grow g1 R1, eb1, w1, x1⟩⟩
  refine PySem.W.methodCall_KW (pl := pl) (thn (ho.run pins s sg H _ I y2) fun ov s1 ⟨v, H1, I1, rv, ph1, h1, u, S1, ev, wu, x1⟩ => ?_) ht
  subst ev
  by_cases c : hasM ci nm u h1 = true
  · rw [if_pos c] at x1
    cases u with
    | ref a =>
      unfold hasM at c
      simp only [] at c
      cases e1 : h1[a]? with
      | none => rw [e1] at c; cases c
      | some cl =>
        rw [e1] at c
        cases cl with
        | ins c0 fs =>
          simp only [Bool.and_eq_true, decide_eq_true_eq, Option.isNone_iff_eq_none] at c
          obtain ⟨rfl, hno⟩ := c
          obtain ⟨⟨dx, z1, cx⟩, z2⟩ := S1.hr.cells a _ e1
          obtain rfl : ov = Value.ref (ph1 a) := rv
          refine getmeth_ok I1 z1 cx.cl M (by rw [fs_lookup, hno]; rfl) ?_
          refine with_args I1 S1 M.kp ha hkw hes hall hks hpl x1 fun us ws s2 vs zs H2 I2 r1 r2 ⟨ph2, h2, xs, ys, l1, l2, g2, R2, e1, e2, w1, w2, x2⟩ => ?_
          subst e1 e2
          have ep : Value.ref (ph1 a) = Value.ref (ph2 a) := by rw [g2.eq a wu]
          rw [ep]
          refine wpAny_call (codeAny_mono (run_m (ws := .ref a :: pick is (xs ++ ys ++ dws)) F hr tk (fun hl => ?_) I2 R2 (fun w hw => ?_) (.cons rfl (arg_vals (is := is) hd r1 r2)) x2) fun rr s' q => ?_)
          · exact hb s2 [.ref (ph2 a)] us ws I2.kIn rfl (by rw [← r1.length, List.length_map, l1]) (by rw [← r2.length, List.length_map, l2, hn])
          · rcases List.mem_cons.mp hw with z | z
            · rw [z]; exact Nat.lt_of_lt_of_le wu g2.le
            · exact arg_wf (is := is) hd w1 w2 w z
          · cases rr with
            | error e => exact q
            | ok fl => cases fl <;> first | exact q | exact q.elim
        | _ => cases c
    | _ => cases c
  · rw [if_neg c] at x1; exact x1.elim
end
/-! ### bindings -/
theorem kbf_of {K : PySem.W.Frag} {f : Addr} {fd : FuncData} {x qual : Str} {st : Stmt} {pl n : Nat} {ps ks : List Str} {is : List Nat} (F : Fun K x qual st f fd)
    (h : ∀ (kV doc pm : Value) (an : Option Addr) (cdv ct : Value) (pre us ws : List Value), pre.length = pl → us.length = n → ws.length = ks.length → bindArgs (PySem.W.fnOf x qual (defArgs st) (defBody st) (defScope st) .none kV doc pm an cdv ct) ⟨pre ++ us, ks.zip ws⟩ = pure (ps.zip (pre ++ pick is (us ++ ws ++ [])))) :
    KBf K fd ps pl n ks is [] := by
  obtain ⟨oc, od, kV, doc, pm, an, cdv, ct, sl, rfl, lk, hcd⟩ := F.ex
  exact fun s pre us ws _ h0 h1 h2 => .of_eq (h kV doc pm an cdv ct pre us ws h0 h1 h2)
/-- keyword-only parameters with defaults; ms: those that lack -/
theorem kbf_ofD {K : PySem.W.Frag} {f : Addr} {fd : FuncData} {x qual : Str} {st : Stmt} {pl n : Nat} {ps ks : List Str} {is : List Nat} {kws : List (Str × V)} (ms : List (Str × V)) (F : FunD K x qual (defArgs st) (defBody st) (defScope st) [] kws f fd) (hk : kws ≠ []) (hms : ∀ q ∈ ms, q ∈ kws)
    (h : ∀ (D : Addr) (doc pm : Value) (an : Option Addr) (cdv ct : Value) (pre us ws mv : List Value), pre.length = pl → us.length = n → ws.length = ks.length → mv.length = ms.length →
      KwChain D ((ms.map (·.1)).zip mv) (bindArgs (PySem.W.fnOf x qual (defArgs st) (defBody st) (defScope st) .none (.ref D) doc pm an cdv ct) ⟨pre ++ us, ks.zip ws⟩) (ps.zip (pre ++ pick is (us ++ ws ++ mv)))) :
    ∃ mv, Vals (ms.map (·.2)) mv ∧ KBf K fd ps pl n ks is mv := by
  obtain ⟨oc, od, dV, kV, doc, pm, an, cdv, ct, osl, rfl, lk, hcd, hD, hK⟩ := (F.ex)
  rcases (hD : _) with ⟨_, rfl⟩ | ⟨e, _⟩
  · rcases (hK : _) with e | ⟨D, rfl, hq⟩
    · exact absurd e hk
    · obtain ⟨mv, hl, rk, hks⟩ := (kwd_vals (ms := ms) (fun q hm => hq q (hms q hm)))
      exact ⟨mv, rk, fun s pre us ws I l0 l1 l2 => BindsTo.of_looks fun M => KwChain.looks I hks (h D doc pm an cdv ct pre us ws mv l0 l1 l2 hl)⟩
  · exact absurd rfl e
end Br
set_option Elab.async false
set_option autoImplicit false
set_option linter.all false
set_option maxRecDepth 100000
set_option maxHeartbeats 1100000
namespace Br
open PySem PySem.Spec PyProof.Rows L2 Mini
/-! ### set(xs), xs a list of whole numbers; sorted of it -/
/-- a set that has just been made -/
abbrev bareSet (w : World) : Obj := { cls := .type "set", dict := none, data := .set #[] 0 (.fresh 0 0 (!w.params.followText "set-order")) }
section
variable {P : Program} {w : World} {B : Around} {U : Value → Shared → Prop} {z : Shared}
/-- what the filling of a new set leaves -/
def FilledS (w : World) (ns : List Int) (z : Shared) (v : Value) (y : Shared) : Prop := v = .none ∧ ∃ h' tk c, y = { z with heap := h', toks := tk } ∧ SetR w h' z.heap.objs.size (fun j => decide (j ∈ ns)) c ∧ c ≤ ns.length ∧ ∀ b o, z.heap.get? b = some o → h'.get? b = some o
set_option maxRecDepth 100001 in
set_option maxHeartbeats 3200001 in
theorem set_of_list {l : Addr} {items : Array Value} (ns : List Int) {Q : Value → Shared → Prop} (calm : B.handled = none) (il : z.heap.IsList l items) (hit : IntsAre items.toList ns) (room : ns.length + 1 < scanBound)
    (goal : ∀ (h' : Heap) (tk c : Nat), SetR w h' z.heap.objs.size (fun j => decide (j ∈ ns)) c → c ≤ ns.length → (∀ b o, z.heap.get? b = some o → h'.get? b = some o) → Q (.ref z.heap.objs.size) { z with heap := h', toks := tk }) :
    wpAny (model P w) B (call (.type "set") [.ref l]) Q U z := by
  have many : items.size = ns.length := by have q := IntsAre.length hit; rwa [Array.length_toList] at q
  obtain ⟨c, tl, hmro⟩ := (F.called_set.mro)
  have made := F.called_set.made; have sub := F.called_set.sub
  refine wpAny_call (codeAny_of_tree (show wpAny _ _ (callAny (.type "set") _) _ _ _ from wpAny_pure ⟨Code.quiet_builtin _ (by decide +kernel), codeAny_builtin F.entry_type_call ?_⟩))
  rw [(Around.under_plain (weight_type_call_type "set" [.ref l] []) rfl)]
  have t1 := F.called_set.notType; have t2 := F.called_set.canCreate; have t3 := F.typeCall_set_1 (.ref l)
  repeat (any_goals (first | (assumption) | wp_step))
  refine codeAny_mono (code_set_led1 (.ref l) (E := U) (Q₁ := fun v y => v = .ref z.heap.objs.size ∧ y = { z with heap := z.heap.push (bareSet w) }) ⟨rfl, rfl⟩) fun res y hr => ?_
  cases res with
  | error e => exact hr
  | ok fl => cases fl with
    | ret v =>
      obtain ⟨rfl, rfl⟩ := hr
      have eS : (z.heap.push (bareSet w)).get? z.heap.objs.size = some (bareSet w) := Heap.get?_push_size _ rfl
      have eT : Shared.TypeIs { z with heap := z.heap.push (bareSet w) } (.ref z.heap.objs.size) "set" := ⟨_, eS, rfl⟩
      have i1 := F.called_set.init.lookup; have i2 := F.called_set.init.bind (.ref z.heap.objs.size)
      repeat (any_goals (first | (assumption) | wp_step))
      refine codeAny_mono (codeAny_call_builtin (R := wants (FilledS w ns z) U) F.called_set.init.plain F.entry_set_init (check_set_init_1 eT ?_)) fun res2 y2 hr2 => ?_
      · obtain ⟨⟨ocl, odi, oda, osl⟩, ho, hcl, nl, hda⟩ := il
        simp only at hcl hda; subst hcl hda
        have ho2 : (z.heap.push (bareSet w)).get? l = some { cls := .type "list", dict := odi, data := .seq items nl, slots := osl } := Heap.get?_push_of_some _ ho
        have n1 := F.sub_list_set; have n2 := F.sub_list_frozenset
        have n3 : (Value.type "list" == Value.type "dict") = false := by decide
        have il2 : (z.heap.push (bareSet w)).IsList l items := ⟨_, ho2, rfl, nl, rfl⟩
        unfold Builtin.«set.__init__»
        unfold noKeywords
        unfold Builtin.Frozenset.updateFrom
        generalize eI : pyIter = PI
        wp_walk
        subst eI
        refine wpAny_pyIter_list il2 (wpAny_bind (wpAny_runValue ?_))
        have lt := Heap.lt_size ho
        have sz : (z.heap.push (bareSet w)).objs.size = z.heap.objs.size + 1 := Heap.size_push ..
        have far : l ≠ (z.heap.push (bareSet w)).objs.size := by rw [sz]; exact Nat.ne_of_lt (Nat.lt_succ_of_lt lt)
        have out : z.heap.objs.size ∉ [(z.heap.push (bareSet w)).objs.size, l] := by
          rw [sz]; intro q; simp only [List.mem_cons, List.not_mem_nil, or_false] at q; exact q.elim (fun q => Nat.ne_of_lt (Nat.lt_succ_self _) q) fun q => Nat.ne_of_gt lt q
        have val : ∀ (i : Nat) (v : Value), items[i]? = some v → ∃ k t, ns[i]? = some k ∧ v = .int k t := fun i v hv => by
          have lt2 : i < ns.length := by rw [← many]; exact (Array.getElem?_eq_some_iff.mp hv).1
          obtain ⟨t, e⟩ := IntsAre.int_at hit i v (by rw [Array.getElem?_toList]; exact hv)
          exact ⟨ns[i], t, List.getElem?_eq_getElem lt2, by rw [e, List.getD_eq_getElem?_getD, List.getElem?_eq_getElem lt2]; rfl⟩
        refine set_update_ints ((Walks.list (show B.in1.in1.in1.handled = none by simp [calm]) _ l far items).toS) z.heap.objs.size out ns many room val (items.size - 0) 0 _ (by omega) (Nat.zero_le _)
          ⟨⟨_, Heap.get?_push_size _ rfl, rfl, rfl⟩, il2.push _⟩ ⟨0, Nat.le_refl 0, setR_new_at (Heap.get?_push_of_some _ eS)⟩ fun y c hm hc hS => ?_
        obtain ⟨hy, gy, dy, ty, oy⟩ := y
        obtain rfl : gy = z.gens := hm.gens
        obtain rfl : dy = z.drawn := hm.drawn
        obtain rfl : oy = z.os := hm.os
        show wpAny _ _ _ _ _ _
        refine wpAny_pure (show wpAny _ _ (ret Value.none) _ _ _ from wpAny_pure ⟨rfl, hy, ty, c, rfl, hS, by omega, fun b o e => hm.heap b o (fun q => ?_) (Heap.get?_push_of_some _ (Heap.get?_push_of_some _ e))⟩)
        have lb := Heap.lt_size e
        rw [sz] at q; simp only [List.mem_cons, List.not_mem_nil, or_false] at q; exact q.elim (fun q => Nat.ne_of_lt lb q) fun q => Nat.ne_of_lt (Nat.lt_succ_of_lt lb) q
      · cases res2 with
        | error e => exact hr2
        | ok fl2 => cases fl2 with
          | ret v =>
            obtain ⟨rfl, hy, ty, c, rfl, hS, hc, hk⟩ := hr2
            repeat (any_goals (first | (assumption) | wp_step))
            exact goal _ _ _ hS hc hk
          | _ => exact hr2.elim
    | _ => exact hr.elim
end
/-! ### ascending rows of numbers -/
theorem insU_mem {x k : Int} : ∀ {ys : List Int}, k ∈ insU x ys ↔ k = x ∨ k ∈ ys
  | [] => by simp [insU]
  | y :: ys => by
    unfold insU
    by_cases c : x < y
    · rw [if_pos c, List.mem_cons]
    · rw [if_neg c]
      by_cases d : x = y
      · rw [if_pos d]; subst d; simp
      · rw [if_neg d, List.mem_cons, insU_mem, List.mem_cons]
        constructor
        · rintro (q | q | q)
          · exact .inr (.inl q)
          · exact .inl q
          · exact .inr (.inr q)
        · rintro (q | q | q)
          · exact .inr (.inl q)
          · exact .inl q
          · exact .inr (.inr q)
theorem insU_asc {x : Int} : ∀ {ys : List Int}, ys.Pairwise (· < ·) → (insU x ys).Pairwise (· < ·)
  | [], _ => List.pairwise_singleton _ _
  | y :: ys, q => by
    obtain ⟨q1, q2⟩ := List.pairwise_cons.mp q
    unfold insU
    by_cases c : x < y
    · rw [if_pos c]
      exact List.pairwise_cons.mpr ⟨fun k hk => by
        rcases List.mem_cons.mp hk with z | z
        · rw [z]; exact c
        · have := q1 k z; omega, q⟩
    · rw [if_neg c]
      by_cases d : x = y
      · rw [if_pos d]; exact q
      · rw [if_neg d]
        exact List.pairwise_cons.mpr ⟨fun k hk => by
          rcases insU_mem.mp hk with z | z
          · omega
          · exact q1 k z, insU_asc q2⟩
theorem sortU_mem {k : Int} : ∀ {xs : List Int}, k ∈ sortU xs ↔ k ∈ xs
  | [] => Iff.rfl
  | x :: xs => by
    show k ∈ insU x (sortU xs) ↔ _
    rw [insU_mem, sortU_mem, List.mem_cons]
theorem sortU_asc : ∀ {xs : List Int}, (sortU xs).Pairwise (· < ·)
  | [] => List.Pairwise.nil
  | _ :: _ => insU_asc sortU_asc
theorem asc_eq : ∀ {xs ys : List Int}, xs.Pairwise (· < ·) → ys.Pairwise (· < ·) → (∀ k, k ∈ xs ↔ k ∈ ys) → xs = ys
  | [], [], _, _, _ => rfl
  | [], y :: ys, _, _, q => nomatch (q y).mpr List.mem_cons_self
  | x :: xs, [], _, _, q => nomatch (q x).mp List.mem_cons_self
  | x :: xs, y :: ys, p1, p2, q => by
    obtain ⟨a1, a2⟩ := List.pairwise_cons.mp p1
    obtain ⟨b1, b2⟩ := List.pairwise_cons.mp p2
    have e : x = y := by
      rcases List.mem_cons.mp ((q x).mp List.mem_cons_self) with z | z
      · exact z
      · rcases List.mem_cons.mp ((q y).mpr List.mem_cons_self) with z2 | z2
        · exact z2.symm
        · have := b1 x z; have := a1 y z2; omega
    subst e
    refine congrArg (x :: ·) (asc_eq a2 b2 fun k => ⟨fun hk => ?_, fun hk => ?_⟩)
    · rcases List.mem_cons.mp ((q k).mp (List.mem_cons_of_mem _ hk)) with z | z
      · have := a1 k hk; omega
      · exact z
    · rcases List.mem_cons.mp ((q k).mpr (List.mem_cons_of_mem _ hk)) with z | z
      · have := b1 k hk; omega
      · exact z
theorem insU_len {x : Int} : ∀ {ys : List Int}, (insU x ys).length ≤ ys.length + 1
  | [] => Nat.le_refl _
  | y :: ys => by
    unfold insU
    split
    · exact Nat.le_refl _
    · split
      · exact Nat.le_succ _
      · exact Nat.succ_le_succ insU_len
theorem sortU_len : ∀ {xs : List Int}, (sortU xs).length ≤ xs.length
  | [] => Nat.le_refl _
  | x :: xs => Nat.le_trans insU_len (Nat.succ_le_succ sortU_len)
section
variable {X : Cx} {Ga : Nat → Addr} {pin : Pin} {Wd : WX} {a e : Expr} {pos p p2 pos2 : Pos} {m : Mini.E}
/-- set(xs) -/
def rSetI (K : PySem.W.Frag) (w : World) : List V → Hp → VK → Prop := fun vs H Q => ∃ (l : Addr) (ns : List Int), vs = [.ref l] ∧ SqL K H l (ns.map V.int) ∧ ns.length ≤ 1000 ∧ ∀ p c, H p = none → c ≤ ns.length → Q (.ref p) (upd H p (SetO w p (fun j => decide (j ∈ ns)) c))
theorem cr_setI (hc : X.calm = true) : CallR X (.type "set") (rSetI X.K X.w) := by
  intro pins s sg H vs us Q I r x
  obtain ⟨l, ns, rfl, hq, hl, q⟩ := x
  rw [Vals.ref1 r]
  obtain ⟨its, rv, pl, hz⟩ := (I.list hq)
  refine set_of_list (items := its.toArray) ns (I.ok.hd hc) pl.isList (by simpa using ints_of_vals rv) (by unfold scanBound; omega) fun h' tk c R hn hk => ?_
  exact ⟨.ref s.heap.objs.size, _, I.laid hk (Nat.le_refl _) (setO_new R), rfl, q _ c (I.hok.fresh (Nat.le_refl _)) hn⟩
/-- sorted(set(e)) -/
theorem e_sortU (hc : X.calm = true) (hg : Gl X "sorted") (hm : X.mg "sorted" = none) (hg2 : Gl X "set") (hm2 : X.mg "set" = none) (ha : PE X a (tE X.K Ga pin Wd m)) (hs : starEach [a] X.env = (false, eval a X.env) :: starEach [] X.env := by rfl)
    (hs2 : starEach [.Call (.Name "set" p2) [a] [] pos2] X.env = (false, eval (.Call (.Name "set" p2) [a] [] pos2) X.env) :: starEach [] X.env := by rfl) :
    PE X (.Call (.Name "sorted" p) [.Call (.Name "set" p2) [a] [] pos2] [] pos) (tE X.K Ga pin Wd (eFn fSortU (aCons m aNil))) := by
  refine PE.imp (pe_callB (cr_sortedSet hc) hg hm (by decide +kernel) (pa_cons (pe_callTy (cr_setI hc) hg2 hm2 (by decide +kernel) (pa_cons ha pa_nil hs) (he := hs) (hpl := by rfl)) pa_nil hs2) (by decide) (by decide) hs2 (by rfl)) fun sg H Q ⟨ph, h, r, s, x⟩ => ?_
  have x1 : rd X.K Ga Wd relW ph h sg ((m r h).bind fun w h1 => fSortU [w] h1) Q := by
    have e : eFn fSortU (aCons m aNil) r h = (m r h).bind fun w h1 => fSortU [w] h1 := by
      unfold eFn
      cases e : m r h <;> simp [aCons, e, R.bind]
    rw [e] at x; exact x
  refine ⟨ph, h, r, s, x1.bind fun w h1 _ ph1 H1 b1 g1 R1 ⟨eb1, w1⟩ x2 => ?_⟩
  unfold fSortU at x2
  cases w with
  | ref l =>
    simp only [] at x2
    cases e1 : lstAt h1 l with
    | none => rw [e1] at x2; exact x2.elim
    | some ys =>
      rw [e1] at x2
      obtain ⟨z1, z2⟩ := lstAt_ok R1 e1
      simp only [Option.bind] at x2
      cases e2 : intsOf ys with
      | none => rw [e2] at x2; exact x2.elim
      | some ns =>
        rw [e2] at x2
        simp only [] at x2
        by_cases c : ns.length < 64
        · rw [if_pos c] at x2
          rw [intsOf_ok e2, map_int] at z1
          subst eb1
          refine ⟨ph1 l, ns, rfl, z1, by omega, fun t n ht hn => ⟨t, _, n, rfl, upd_same, by omega, fun out q asc mem _ hq => ?_⟩⟩
          obtain rfl : out = sortU ns := asc_eq asc sortU_asc fun k => by rw [mem k, sortU_mem, decide_eq_true_eq]
          have R2 : HR X.K Ga ph1 h1 (upd H1 t (SetO X.w t (fun j => decide (j ∈ ns)) n)) := by
            refine ⟨fun i c e => (R1.cells i c e).to (Nat.le_refl _) (fun _ _ => rfl) fun t2 => ?_, R1.inj⟩
            obtain ⟨o, ho⟩ := (R1.cells i c e).some t2
            exact upd_ne fun z => by rw [z, ht] at ho; cases ho
          have R3 := R2.push (a := q) (o := .lst ((sortU ns).map V.int)) (c := .lst ((sortU ns).map W.int)) hq ⟨by rw [map_int]; exact upd_same, fun w hw => by obtain ⟨_, _, rfl⟩ := List.mem_map.mp hw; trivial⟩
          have y := x2 (ext ph1 h1.length q) _ (.ref q) Grow.ext R3 ⟨by show V.ref q = V.ref _; rw [ext_at], by show h1.length < _; rw [List.length_append]; exact Nat.lt_succ_self _⟩
          exact y
        · rw [if_neg c] at x2; exact x2.elim
  | _ => exact x2.elim
/-- list(range(e)) -/
theorem e_lrng (hc : X.calm = true) (hg : Gl X "list") (hm : X.mg "list" = none) (hg2 : Gl X "range") (hm2 : X.mg "range" = none) (ha : PE X a (tE X.K Ga pin Wd m)) (hs : starEach [a] X.env = (false, eval a X.env) :: starEach [] X.env := by rfl)
    (hs2 : starEach [.Call (.Name "range" p2) [a] [] pos2] X.env = (false, eval (.Call (.Name "range" p2) [a] [] pos2) X.env) :: starEach [] X.env := by rfl) :
    PE X (.Call (.Name "list" p) [.Call (.Name "range" p2) [a] [] pos2] [] pos) (tE X.K Ga pin Wd (eLRng m)) := by
  refine PE.imp (pe_listRg hc hg hm (prg_1 hg2 hm2 ha hs) hs2) fun sg H Q ⟨ph, h, r, s, x⟩ => ?_
  refine ⟨ph, h, r, s, x.bind fun w h1 _ ph1 H1 b1 g1 R1 ⟨eb1, w1⟩ x1 => ?_⟩
  cases w with
  | int n =>
    have x2 : rd X.K Ga Wd relW ph1 h1 sg (if 0 ≤ n ∧ n ≤ 100000 then .ok (.ref h1.length) (h1 ++ [.lst ((List.range n.toNat).map fun i => W.int (i : Nat))]) else .bad) Q := x1
    by_cases c : 0 ≤ n ∧ n ≤ 100000
    · rw [if_pos c] at x2
      refine ⟨n, by rw [eb1]; rfl, RgOk.of_le (Int.le_refl 0) (by omega) (by omega) c.1, fun q hq => ?_⟩
      have em : rgV 0 n = ((List.range n.toNat).map fun i => W.int (i : Nat)).map (vW (ext ph1 h1.length q)) := by
        unfold rgV
        rw [List.map_map, show (n - 0).toNat = n.toNat by rw [Int.sub_zero]]
        exact List.map_congr_left fun i _ => by show V.int (0 + (i : Nat)) = V.int _; rw [Int.zero_add]
      have R3 := R1.push (a := q) (o := .lst (rgV 0 n)) (c := .lst ((List.range n.toNat).map fun i => W.int (i : Nat))) hq ⟨by rw [em]; exact upd_same, fun w hw => by obtain ⟨_, _, rfl⟩ := List.mem_map.mp hw; trivial⟩
      exact x2 (ext ph1 h1.length q) _ (.ref q) Grow.ext R3 ⟨by show V.ref q = V.ref _; rw [ext_at], by show h1.length < _; rw [List.length_append]; exact Nat.lt_succ_self _⟩
    · rw [if_neg c] at x2; exact x2.elim
  | _ => exact x1.elim
end
end Br
set_option Elab.async false
set_option autoImplicit false
set_option linter.all false
set_option maxRecDepth 100000
set_option maxHeartbeats 1100000
namespace Br
open PySem PySem.Spec PyProof.Rows L2 Mini
section
variable {X : Cx} {Ga : Nat → Addr} {pin : Pin} {Wd : WX} {ph : Nat → Addr} {h : MH} {r : Mini.Env} {sg : L2.St} {H : Hp} {tg iter tg1 iter1 elt : Expr} {pos : Pos} {m : Mini.E} {ta tb : Mini.T} {α β : Type}
/-! ### comprehensions with two fors -/
theorem rd_any {K : PySem.W.Frag} {rel : (Nat → Addr) → Nat → α → β → Prop} {q : Mini.R α} {Q : β → Hp → Prop} {sg' : L2.St} (x : rd K Ga W0 rel ph h sg q Q) : rd K Ga W0 rel ph h sg' q Q := by
  cases q with
  | ok a h' => exact x
  | exc c d h' => exact fun ph' H' g R z => x ph' H' g R z
  | bad => exact x
/-- an item put behind the list that is made -/
theorem add_ok {K : PySem.W.Frag} {n : Nat} {D : Addr} {y : Mini.W} {k : MH → Mini.R Mini.W} {Q : VK} (R : HR K Ga ph h H) (wy : wf h.length y) (hn : n < h.length) (eD : ph n = D) (x : rd K Ga W0 relW ph h sg (lcAdd n y k h) Q) :
    ∃ acc, H D = some (.lst acc) ∧ acc.length < sizeLine ∧ ∃ h2, HR K Ga ph h2 (upd H D (.lst (acc ++ [vW ph y]))) ∧ Grow ph h ph h2 ∧ rd K Ga W0 relW ph h2 sg (k h2) Q := by
  unfold lcAdd at x
  cases e6 : h[n]? with
  | none => rw [e6] at x; exact x.elim
  | some cl =>
    rw [e6] at x
    cases cl with
    | lst acc =>
      simp only [] at x
      by_cases c6 : acc.length < 10000000
      · rw [if_pos c6] at x
        obtain ⟨z1, z2⟩ := R.cells _ _ e6
        rw [eD] at z1
        have em : (acc ++ [y]).map (vW ph) = acc.map (vW ph) ++ [vW ph y] := by rw [List.map_append]; rfl
        have R6 : HR K Ga ph (h.set n (.lst (acc ++ [y]))) (upd H (ph n) (.lst (acc.map (vW ph) ++ [vW ph y]))) := R.set e6 trivial trivial ⟨by rw [em]; exact upd_same, fun x hx => by
          rcases (List.mem_append.mp hx : _ ∨ _) with hx | hx
          · exact z2 x hx
          · rw [List.mem_singleton.mp hx]; exact wy⟩
        rw [eD] at R6
        exact ⟨acc.map (vW ph), z1, by rw [List.length_map]; exact m_line1 c6, _, R6, Grow.set, rd.base Grow.set x⟩
      · rw [if_neg c6] at x; exact x.elim
    | _ => exact x.elim
theorem lc2_of {is js vs us : List Nat} {mi mj : Mini.I} {g g1 : Mini.G} {t t1 : TG} (ho : ∀ j ∈ is, j ∈ vs) (ho1 : ∀ j ∈ js, j ∈ us) (hz : TgS X Ga none is g t) (hz1 : TgS X Ga none js g1 t1) (sg : L2.St) (H : Hp) (Q : VK) (x : tE X.K Ga none Wd (eLc2 vs us mi g ta mj g1 tb m) sg H Q) :
    tLc2 (tI X.K Ga none Wd mi) t (tT X.K Ga none W0 ta) (tI X.K Ga none W0 mj) t1 (tT X.K Ga none W0 tb) (tE X.K Ga none W0 m) vs us sg H Q := by
  obtain ⟨ph, h, r, s, x⟩ := x
  refine ⟨ph, h, r, s, x.bind fun q h1 _ ph1 H1 J g1' R1 rl x1 => fun D hD => ?_⟩
  obtain ⟨src, k⟩ := q
  have x2 := rd_quiet (sg' := sg) x1
  let ph2 := ext ph1 h1.length D
  have gr2 : Grow ph1 h1 ph2 (h1 ++ [Cell.lst []]) := Grow.ext
  have R2 : HR X.K Ga ph2 (h1 ++ [Cell.lst []]) (upd H1 D (.lst [])) := R1.push hD ⟨upd_same, fun _ hx => nomatch hx⟩
  have eD : ph2 h1.length = D := ext_at
  have s2 : SR X.K Ga none ph2 (h1 ++ [Cell.lst []]) r sg (upd H1 D (.lst [])) := (s.grow g1' R1).grow gr2 R2
  let Nxt : Nat → Nat → Hp → Prop := fun i n H => ∃ ph h, SR X.K Ga none ph h r sg H ∧ SrcAt X.K J src ph h.length ∧ h1.length < h.length ∧ ph h1.length = D ∧ rd X.K Ga W0 relW ph h sg (lcOuter src g ta mj g1 tb m us (Mini.wipe r vs) h1.length n i h) Q
  refine ⟨Nxt, ⟨k, ph2, _, s2, SrcAt.grow gr2 rl, by rw [List.length_append]; exact Nat.lt_succ_self _, eD, rd.base gr2 x2⟩, fun i n H ⟨ph, h, s, sr, hl, eD, x⟩ => ?_⟩
  cases n with
  | zero => exact x.elim
  | succ n =>
    unfold lcOuter at x
    cases e : src.at i h with
    | none => rw [e] at x; exact x.elim
    | some q =>
      rw [e] at x
      cases q with
      | none =>
        refine .inl ⟨src_stop s.hr sr e, ?_⟩
        have q := x.ok1 ph H _ (Grow.refl _ _) s.hr ⟨rfl, hl⟩
        rw [show vW ph (.ref h1.length) = .ref D from congrArg V.ref eD] at q
        exact q
      | some w =>
        obtain ⟨y1, y2, y3⟩ := src_go s.hr sr e
        refine .inr ⟨y1, Nxt (i + 1) n, fun H' y => ⟨n, Nat.lt_succ_self n, y⟩, fun v H' y => ?_⟩
        obtain ⟨rfl, rfl⟩ := y3 v H' y
        simp only [] at x
        refine hz ph h (Mini.wipe r vs) (L2.wipe sg vs) H' w _ (s.wipe vs) y2 ?_
        cases e2 : g w (Mini.wipe r vs) h with
        | exc cc d h2 => rw [e2] at x; exact x.elim
        | bad => rw [e2] at x; exact x.elim
        | ok r1 h3 =>
          rw [e2] at x
          intro ph3 sg3 H3 gr3 S3 f3
          refine ⟨(wipe_same f3 ho).trans wipe_wipe, ph3, h3, r1, S3, ?_⟩
          refine (rd_any (sg' := sg3) (rd.base gr3 x)).bind fun k2 h4 _ ph4 H4 b4 gr4 R4 eb4 x5 => ?_
          rw [show b4 = k2 from eb4]
          have gg4 := gr3.trans gr4
          cases k2 with
          | false =>
            rw [if_neg (fun z => nomatch z)]
            rw [if_neg (fun z => nomatch z)] at x5
            exact ⟨ph4, h4, s.grow gg4 R4, sr.grow gg4, Nat.lt_of_lt_of_le hl gg4.le, (gg4.eq _ hl).trans eD, rd_any x5⟩
          | true =>
            rw [if_pos rfl]
            rw [if_pos rfl] at x5
            have S4 := S3.grow gr4 R4
            refine ⟨ph4, h4, r1, S4, x5.bind fun q5 h5 _ ph5 H5 J5 gr5 R5 rl5 x6 => ?_⟩
            obtain ⟨src5, k5⟩ := q5
            have gg5 := gg4.trans gr5
            have S5 := S4.grow gr5 R5
            let In : Nat → Nat → Hp → Prop := fun j n' H => ∃ ph6 h6, SR X.K Ga none ph6 h6 r1 sg3 H ∧ Grow ph h ph6 h6 ∧ SrcAt X.K J5 src5 ph6 h6.length ∧ rd X.K Ga W0 relW ph6 h6 sg (lcInner src5 g1 tb m (Mini.wipe r1 us) h1.length (lcOuter src g ta mj g1 tb m us (Mini.wipe r vs) h1.length n (i + 1)) n' j h6) Q
            refine ⟨In, ⟨k5, ph5, h5, S5, gg5, rl5, rd_any x6⟩, fun j n6 H6 ⟨ph6, h6, S6, gr6, sr6, x7⟩ => ?_⟩
            have hl6 : h1.length < h6.length := Nat.lt_of_lt_of_le hl gr6.le
            have eD6 : ph6 h1.length = D := (gr6.eq _ hl).trans eD
            cases n6 with
            | zero => exact x7.elim
            | succ n6 =>
              unfold lcInner at x7
              cases e7 : src5.at j h6 with
              | none => rw [e7] at x7; exact x7.elim
              | some q7 =>
                rw [e7] at x7
                cases q7 with
                | none => exact .inl ⟨src_stop S6.hr sr6 e7, ph6, h6, s.grow gr6 S6.hr, sr.grow gr6, hl6, eD6, x7⟩
                | some w7 =>
                  obtain ⟨z1, z2, z3⟩ := src_go S6.hr sr6 e7
                  refine .inr ⟨z1, In (j + 1) n6, fun H' y => ⟨n6, Nat.lt_succ_self n6, y⟩, fun v7 H7 y7 => ?_⟩
                  obtain ⟨rfl, rfl⟩ := z3 v7 H7 y7
                  simp only [] at x7
                  refine hz1 ph6 h6 (Mini.wipe r1 us) (L2.wipe sg3 us) H7 w7 _ (S6.wipe us) z2 ?_
                  cases e8 : g1 w7 (Mini.wipe r1 us) h6 with
                  | exc cc d h2 => rw [e8] at x7; exact x7.elim
                  | bad => rw [e8] at x7; exact x7.elim
                  | ok r8 h8 =>
                    rw [e8] at x7
                    intro ph8 sg8 H8 gr8 S8 f8
                    refine ⟨(wipe_same f8 ho1).trans wipe_wipe, ph8, h8, r8, S8, ?_⟩
                    refine (rd_any (sg' := sg8) (rd.base gr8 x7)).bind fun k9 h9 _ ph9 H9 b9 gr9 R9 eb9 x9 => ?_
                    rw [show b9 = k9 from eb9]
                    have gg9 := gr8.trans gr9
                    cases k9 with
                    | false =>
                      rw [if_neg (fun z => nomatch z)]
                      rw [if_neg (fun z => nomatch z)] at x9
                      exact ⟨ph9, h9, S6.grow gg9 R9, gr6.trans gg9, sr6.grow gg9, rd_any x9⟩
                    | true =>
                      rw [if_pos rfl]
                      rw [if_pos rfl] at x9
                      refine ⟨ph9, h9, r8, S8.grow gr9 R9, x9.bind fun y ha _ pa Ha ba ga Ra ⟨eba, wa⟩ xa => ?_⟩
                      have gga := gg9.trans ga
                      obtain ⟨acc, za, zb, hb, Rb, gb, xb⟩ := add_ok Ra wa (Nat.lt_of_lt_of_le hl6 gga.le) ((gga.eq _ hl6).trans eD6) xa
                      rw [eba]
                      exact ⟨acc, za, zb, pa, hb, S6.grow (gga.trans gb) Rb, gr6.trans (gga.trans gb), sr6.grow (gga.trans gb), rd_any xb⟩
section
variable {is js us : List Nat} {ifs ifs1 : List Expr} {scope : Scope} {own : List (Str × Nat)} {mi mj : Mini.I} {g g1 : Mini.G} {t t1 : TG}
theorem e_lc2 (hc : X.calm = true) (hN : X.N.Nodup) (hi : PI X tg iter (tI X.K Ga none Wd mi)) (ok : BlkOk X.N X.env.scope scope own) (ho : ∀ j ∈ is, j ∈ own.map (·.2)) (hu : ∀ j ∈ us, j ∈ own.map (·.2)) (ho1 : ∀ j ∈ js, j ∈ us) (hz : TgS X Ga none is g t) (hz1 : TgS X Ga none js g1 t1)
    (hg : ∀ (s : Shared) (H : Hp) (C : Addr) (cl : List (Str × Addr)) (fp : List Addr), PG (X.blk s H scope (compEnvC scope cl C X.env) fp) tg t) (ht : ∀ (s : Shared) (H : Hp) (C : Addr) (cl : List (Str × Addr)) (fp : List Addr), PTs (X.blk s H scope (compEnvC scope cl C X.env) fp) ifs (tT X.K Ga none W0 ta))
    (hj : ∀ (s : Shared) (H : Hp) (C : Addr) (cl : List (Str × Addr)) (fp : List Addr), PI (X.blk s H scope (compEnvC scope cl C X.env) fp) tg1 iter1 (tI X.K Ga none W0 mj))
    (hg1 : ∀ (s : Shared) (H : Hp) (C : Addr) (cl : List (Str × Addr)) (fp : List Addr), PG (X.blk s H scope (compEnvC scope cl C X.env) fp) tg1 t1) (ht1 : ∀ (s : Shared) (H : Hp) (C : Addr) (cl : List (Str × Addr)) (fp : List Addr), PTs (X.blk s H scope (compEnvC scope cl C X.env) fp) ifs1 (tT X.K Ga none W0 tb))
    (he : ∀ (s : Shared) (H : Hp) (C : Addr) (cl : List (Str × Addr)) (fp : List Addr), PE (X.blk s H scope (compEnvC scope cl C X.env) fp) elt (tE X.K Ga none W0 m)) (hs : ∀ x, foldedSetIterable iter X.env x = pure x := by intro _; rfl) (hs1 : ∀ env x, foldedSetIterable iter1 env x = pure x := by intro _ _; rfl) :
    PE X (.ListComp elt [⟨tg, iter, ifs, 0⟩, ⟨tg1, iter1, ifs1, 0⟩] scope pos) (tE X.K Ga none Wd (eLc2 (own.map (·.2)) us mi g ta mj g1 tb m)) :=
  PE.imp (pe_lc2 hc hN hi ok hu hg ht hj hg1 ht1 he hs hs1) (lc2_of ho ho1 hz hz1)
theorem s_setLc2 {i : Nat} {y : Str} {py spos : Pos} (hc : X.calm = true) (hN : X.N.Nodup) (hy : X.N[i]? = some y) (hyl : X.env.scope.names.lookup y = some .local)
    (hsw : swapsWith (.ListComp elt [⟨tg, iter, ifs, 0⟩, ⟨tg1, iter1, ifs1, 0⟩] scope pos) (some (.Name y py)) spos.line X.env = pure true) (hi : PI X tg iter (tI X.K Ga none Wd mi)) (ok : BlkOk X.N X.env.scope scope own) (ho : ∀ j ∈ is, j ∈ own.map (·.2)) (hu : ∀ j ∈ us, j ∈ own.map (·.2)) (ho1 : ∀ j ∈ js, j ∈ us)
    (hz : TgS X Ga none is g t) (hz1 : TgS X Ga none js g1 t1)
    (hg : ∀ (s : Shared) (H : Hp) (C : Addr) (cl : List (Str × Addr)) (fp : List Addr), PG (X.blk s H scope (compEnvC scope cl C X.env) fp) tg t) (ht : ∀ (s : Shared) (H : Hp) (C : Addr) (cl : List (Str × Addr)) (fp : List Addr), PTs (X.blk s H scope (compEnvC scope cl C X.env) fp) ifs (tT X.K Ga none W0 ta))
    (hj : ∀ (s : Shared) (H : Hp) (C : Addr) (cl : List (Str × Addr)) (fp : List Addr), PI (X.blk s H scope (compEnvC scope cl C X.env) fp) tg1 iter1 (tI X.K Ga none W0 mj))
    (hg1 : ∀ (s : Shared) (H : Hp) (C : Addr) (cl : List (Str × Addr)) (fp : List Addr), PG (X.blk s H scope (compEnvC scope cl C X.env) fp) tg1 t1) (ht1 : ∀ (s : Shared) (H : Hp) (C : Addr) (cl : List (Str × Addr)) (fp : List Addr), PTs (X.blk s H scope (compEnvC scope cl C X.env) fp) ifs1 (tT X.K Ga none W0 tb))
    (he : ∀ (s : Shared) (H : Hp) (C : Addr) (cl : List (Str × Addr)) (fp : List Addr), PE (X.blk s H scope (compEnvC scope cl C X.env) fp) elt (tE X.K Ga none W0 m)) (hs : ∀ x, foldedSetIterable iter X.env x = pure x := by intro _; rfl) (hs1 : ∀ env x, foldedSetIterable iter1 env x = pure x := by intro _ _; rfl) :
    PS X (.Assign [.Name y py] (.ListComp elt [⟨tg, iter, ifs, 0⟩, ⟨tg1, iter1, ifs1, 0⟩] scope pos) spos) (tS X.K Ga none Wd (sSet i (eLc2 (own.map (·.2)) us mi g ta mj g1 tb m))) := by
  refine PS.imp (ps_setLc2 hc hN hy hyl hsw hi ok hu hg ht hj hg1 ht1 he hs hs1) fun D sg H ⟨ph, h, r, s, x⟩ => ?_
  refine lc2_of ho ho1 hz hz1 sg H _ ⟨ph, h, r, s, ?_⟩
  refine st_of (k := fun w h1 => .ok .nx (r.set i (some w)) h1) (D := D) s ?_ fun w h1 ph1 H1 b g S rl x1 => ?_
  · unfold sSet sAsg at x
    cases e : eLc2 (own.map (·.2)) us mi g ta mj g1 tb m r h <;> (rw [e] at x; exact x)
  · rw [rl.1]
    exact x1 ph1 _ H1 (Grow.refl _ _) (S.put rl.2 lets0)
end
end
end Br
set_option Elab.async false
set_option autoImplicit false
set_option linter.all false
set_option maxRecDepth 100000
set_option maxHeartbeats 1600000
namespace Br
open PySem PySem.Spec PyProof.Rows L2 Mini
/-! ### zip of two sides, each a list (true) or a tuple (false) -/
def ItK (kd : Bool) (h : Heap) (it l : Addr) (i : Nat) : Prop := match kd with
  | true => h.IsListIter it l i
  | false => h.IsTupleIter it l i
def SeK (kd : Bool) (h : Heap) (l : Addr) (xs : Array Value) : Prop := match kd with
  | true => h.IsList l xs
  | false => h.IsTuple l xs
theorem ItK.kept {kd : Bool} {h h' : Heap} {it l : Addr} {i : Nat} (x : ItK kd h it l i) (k : ∀ o, h.get? it = some o → h'.get? it = some o) : ItK kd h' it l i := by
  cases kd
  · exact Heap.IsTupleIter.at x k
  · exact Heap.IsListIter.at x k
theorem ItK.there {kd : Bool} {h : Heap} {it l : Addr} {i : Nat} (x : ItK kd h it l i) : ∃ o, h.get? it = some o ∧ ∀ v, o.data ≠ .cell v := by
  cases kd <;> (obtain ⟨o, e, _, d⟩ := x; exact ⟨o, e, fun v q => by rw [d] at q; cases q⟩)
theorem SeK.kept {kd : Bool} {h h' : Heap} {l : Addr} {xs : Array Value} (x : SeK kd h l xs) (k : ∀ o, h.get? l = some o → h'.get? l = some o) : SeK kd h' l xs := by
  cases kd <;> (obtain ⟨o, e, r⟩ := x; exact ⟨o, k o e, r⟩)
theorem SeK.lt {kd : Bool} {h : Heap} {l : Addr} {xs : Array Value} (x : SeK kd h l xs) : l < h.objs.size := by
  cases kd <;> (obtain ⟨o, e, r⟩ := x; exact Heap.lt_size e)
section
variable {P : Program} {w : World} {B : Around} {U : Value → Shared → Prop} {y0 : Shared} {ka kb : Bool}
theorem nextK_item {kd : Bool} {it l : Addr} {i : Nat} {items : Array Value} {x : Value} {Q : Value → Shared → Prop} (p : ItK kd y0.heap it l i) (q : SeK kd y0.heap l items) (hx : items[i]? = some x)
    (goal : ∀ h', ItK kd h' it l (i + 1) → Heap.SameBut it y0.heap h' → Q x { y0 with heap := h' }) : wpAny (model P w) B (Builtin.SmallTypes.nextOf (.ref it)) Q U y0 := by
  cases kd
  · exact RZ.nextOf_tuple_item p q hx goal
  · exact wpAny_nextOf_list_item p q hx goal
theorem nextK_end {kd : Bool} {it l : Addr} {i : Nat} {items : Array Value} {Q : Value → Shared → Prop} (hh : B.handled = none) (p : ItK kd y0.heap it l i) (q : SeK kd y0.heap l items) (hx : items[i]? = none)
    (goal : ∀ h' e, Heap.ExtBut it y0.heap h' → (∃ o, h'.get? e = some o ∧ o.cls = .type "StopIteration") → U (.ref e) { y0 with heap := h' }) : wpAny (model P w) B (Builtin.SmallTypes.nextOf (.ref it)) Q U y0 := by
  cases kd
  · exact RZ.nextOf_tuple_end hh p q hx goal
  · exact wpAny_nextOf_list_end hh p q hx goal
theorem zipK_item {z TI TO i1 i2 l1 l2 : Addr} {k1 k2 : Nat} {xs ys : Array Value} {x y a b : Value} {Q : Value → Shared → Prop} (D : ZipApart z TI TO i1 i2 l1 l2)
    (ez : IsZip y0.heap z TI TO .none) (eI : IsPair y0.heap TI (.ref i1) (.ref i2)) (eO : IsPair y0.heap TO a b) (p1 : ItK ka y0.heap i1 l1 k1) (p2 : ItK kb y0.heap i2 l2 k2) (q1 : SeK ka y0.heap l1 xs) (q2 : SeK kb y0.heap l2 ys) (hx : xs[k1]? = some x) (hy : ys[k2]? = some y)
    (goal : ∀ h', IsZip h' z TI TO (rawInt y0.heap.objs.size) → IsPair h' TO x y → ItK ka h' i1 l1 (k1 + 1) → ItK kb h' i2 l2 (k2 + 1) → IsPair h' y0.heap.objs.size x y → h'.objs.size = y0.heap.objs.size + 1 →
      (∀ c o, c ≠ z → c ≠ TO → c ≠ i1 → c ≠ i2 → y0.heap.get? c = some o → h'.get? c = some o) → Q (.ref y0.heap.objs.size) { y0 with heap := h' }) :
    wpAny (model P w) B (Builtin.«zip.__next__» ⟨[.ref z], []⟩) (fun fin s' => ∃ v, fin = .done (.ret v) ∧ Q v s') U y0 := by
  refine (show wpAny _ _ (field (.ref z) 2 >>= _) _ _ _ from wpAny_bind (wpAny_field ez rfl (x := .bool false) rfl (show wpAny _ _ (field (.ref z) 3 >>= _) _ _ _ from wpAny_bind (wpAny_field ez rfl (x := .ref TI) rfl (wpAny_bind (wpAny_seqItems eI rfl ?_))))))
  refine (show wpAny _ _ (Builtin.SmallTypes.ownedTupleIsFree (.ref z) >>= _) _ _ _ from wpAny_bind ?_)
  unfold Builtin.SmallTypes.ownedTupleIsFree <;> skip
  refine wpAny_bind (wpAny_field ez rfl (x := .none) rfl (wpAny_pure ?_)); simp only [if_true]
  refine wpAny_bind (wpAny_rule (wpAny_bind (wpAny_field ez rfl (x := .ref TO) rfl (wpAny_bind (wpAny_setField_rec ez (by simp) fun g1 ez1 b1 => ?_)))))
  replace ez1 : IsZip g1 z TI TO .ellipsis := ez1
  refine wpAny_bind ?_; simp only [List.forIn_nil, List.forIn_cons, List.zipIdx_nil, List.zipIdx_cons]
  -- the first side
  refine wpAny_bind (wpAny_bind (wpAny_onRaise (show wpAny _ _ (Builtin.SmallTypes.nextOf (.ref i1) >>= _) _ _ _ from wpAny_bind (nextK_item (p1.kept fun o e => b1.extBut _ _ D.i1z e) (q1.kept fun o e => b1.extBut _ _ D.l1z e) hx fun g2 p1' b2 => wpAny_pure ?_))))
  have eO2 : IsPair g2 TO a b := b2.extBut _ _ D.TOi1 (b1.extBut _ _ D.TOz eO)
  refine wpAny_bind (wpAny_seqItems eO2 rfl (wpAny_bind (wpAny_updateSeq_pair eO2 fun g3 eO3 b3 => ?_)))
  replace eO3 : IsPair g3 TO x b := eO3
  have up3 : ∀ c o, c ≠ z → c ≠ TO → c ≠ i1 → y0.heap.get? c = some o → g3.get? c = some o := fun c o c1 c2 c3 e => b3.extBut _ _ c2 (b2.extBut _ _ c3 (b1.extBut _ _ c1 e))
  -- the second
  refine wpAny_bind (wpAny_letGo (wpAny_pure (wpAny_bind (wpAny_bind (wpAny_onRaise (show wpAny _ _ (Builtin.SmallTypes.nextOf (.ref i2) >>= _) _ _ _ from wpAny_bind (nextK_item (p2.kept fun o e => up3 _ o D.i2z D.TOi2.symm D.i12.symm e)
    (q2.kept fun o e => up3 _ o D.l2z D.l2TO D.l2i1 e) hy fun g4 p2' b4 => wpAny_pure ?_)))))))
  have eO4 : IsPair g4 TO x b := b4.extBut _ _ D.TOi2 eO3
  refine wpAny_bind (wpAny_seqItems eO4 rfl (wpAny_bind (wpAny_updateSeq_pair eO4 fun g5 eO5 b5 => ?_)))
  replace eO5 : IsPair g5 TO x y := eO5
  refine wpAny_bind (wpAny_letGo (wpAny_pure (wpAny_pure (wpAny_bind (wpAny_seqItems eO5 rfl (wpAny_bind (wpAny_newTuple ?_)))))))
  have many : g5.objs.size = y0.heap.objs.size := by rw [b5.1, b4.1, b3.1, b2.1, b1.1]
  have ez5 : IsZip g5 z TI TO .ellipsis := b5.extBut _ _ D.TOz.symm (b4.extBut _ _ D.i2z.symm (b3.extBut _ _ D.TOz.symm (b2.extBut _ _ D.i1z.symm ez1)))
  have up5 : ∀ c o, c ≠ z → c ≠ TO → c ≠ i1 → c ≠ i2 → y0.heap.get? c = some o → g5.get? c = some o := fun c o c1 c2 c3 c4 e => b5.extBut _ _ c2 (b4.extBut _ _ c4 (up3 c o c1 c2 c3 e))
  have lz : z < g5.objs.size := Heap.lt_size ez5
  refine (show wpAny _ _ (Builtin.SmallTypes.ownedTupleHandOut (.ref z) (.ref g5.objs.size) >>= _) _ _ _ from wpAny_bind ?_)
  unfold Builtin.SmallTypes.ownedTupleHandOut <;> skip
  refine wpAny_bind (wpAny_setField_rec (show IsZip (g5.push { cls := .type "tuple", data := .seq #[x, y] }) z TI TO .ellipsis from Heap.get?_push_of_some _ ez5) (by simp) fun g7 ez7 b7 => ?_)
  replace ez7 : IsZip g7 z TI TO (rawInt g5.objs.size) := ez7
  refine wpAny_setField_rec ez7 (by simp) fun g8 ez8 b8 => ?_
  replace ez8 : IsZip g8 z TI TO (rawInt g5.objs.size) := ez8
  have up : ∀ c o, c ≠ z → g5.get? c = some o → g8.get? c = some o := fun c o c1 e => b8.extBut _ _ c1 (b7.extBut _ _ c1 (Heap.get?_push_of_some _ e))
  have eT : IsPair g8 g5.objs.size x y := b8.extBut _ _ (Nat.ne_of_gt lz) (b7.extBut _ _ (Nat.ne_of_gt lz) (Heap.get?_push_size _ rfl))
  have m8 : g8.objs.size = g5.objs.size + 1 := by rw [b8.1, b7.1, Heap.size_push]
  rw [many] at ez8 eT m8
  refine wpAny_pure ⟨_, rfl, (?_ : _)⟩
  rw [show (Value.ref g5.objs.size) = .ref y0.heap.objs.size from congrArg Value.ref many]
  exact goal g8 ez8 (up _ _ D.TOz eO5) (p1'.kept fun o e => up _ o D.i1z (b5.extBut _ _ D.TOi1.symm (b4.extBut _ _ D.i12 (b3.extBut _ _ D.TOi1.symm e)))) (p2'.kept fun o e => up _ o D.i2z (b5.extBut _ _ D.TOi2.symm e)) eT m8 fun c o c1 c2 c3 c4 e => up c o c1 (up5 c o c1 c2 c3 c4 e)
theorem zipK_end {z TI TO i1 i2 l1 l2 : Addr} {k1 k2 : Nat} {xs ys : Array Value} {a b : Value} {Q : Fin → Shared → Prop} (hh : B.handled = none) (D : ZipApart z TI TO i1 i2 l1 l2)
    (ez : IsZip y0.heap z TI TO .none) (eI : IsPair y0.heap TI (.ref i1) (.ref i2)) (eO : IsPair y0.heap TO a b) (p1 : ItK ka y0.heap i1 l1 k1) (p2 : ItK kb y0.heap i2 l2 k2) (q1 : SeK ka y0.heap l1 xs) (q2 : SeK kb y0.heap l2 ys) (over : xs[k1]? = none ∨ ys[k2]? = none)
    (goal : ∀ h' e, (∀ c o, c ≠ z → c ≠ TO → c ≠ i1 → c ≠ i2 → y0.heap.get? c = some o → h'.get? c = some o) → (∃ o, h'.get? e = some o ∧ o.cls = .type "StopIteration") → U (.ref e) { y0 with heap := h' }) :
    wpAny (model P w) B (Builtin.«zip.__next__» ⟨[.ref z], []⟩) Q U y0 := by
  refine (show wpAny _ _ (field (.ref z) 2 >>= _) _ _ _ from wpAny_bind (wpAny_field ez rfl (x := .bool false) rfl (show wpAny _ _ (field (.ref z) 3 >>= _) _ _ _ from wpAny_bind (wpAny_field ez rfl (x := .ref TI) rfl (wpAny_bind (wpAny_seqItems eI rfl ?_))))))
  refine (show wpAny _ _ (Builtin.SmallTypes.ownedTupleIsFree (.ref z) >>= _) _ _ _ from wpAny_bind ?_)
  unfold Builtin.SmallTypes.ownedTupleIsFree <;> skip
  refine wpAny_bind (wpAny_field ez rfl (x := .none) rfl (wpAny_pure ?_)); simp only [if_true]
  refine wpAny_bind (wpAny_rule (wpAny_bind (wpAny_field ez rfl (x := .ref TO) rfl (wpAny_bind (wpAny_setField_rec ez (by simp) fun g1 ez1 b1 => ?_)))))
  replace ez1 : IsZip g1 z TI TO .ellipsis := ez1
  refine wpAny_bind ?_; simp only [List.forIn_nil, List.forIn_cons, List.zipIdx_nil, List.zipIdx_cons]
  refine wpAny_bind (wpAny_bind (wpAny_onRaise (show wpAny _ _ (Builtin.SmallTypes.nextOf (.ref i1) >>= _) _ _ _ from ?_)))
  have last : ∀ {g g' : Heap} {e : Addr}, IsZip g z TI TO .ellipsis → (∃ o, g.get? e = some o ∧ o.cls = .type "StopIteration") → Heap.SameBut z g g' → ∃ o, g'.get? e = some o ∧ o.cls = .type "StopIteration" := fun ez ⟨o, e1, e2⟩ b => by
    refine ⟨o, b.extBut _ _ (fun q => ?_) e1, e2⟩
    subst q; rw [ez] at e1; cases e1; simp at e2
  cases hx : xs[k1]? with
  | none =>
    refine wpAny_bind (nextK_end hh (p1.kept fun o e => b1.extBut _ _ D.i1z e) (q1.kept fun o e => b1.extBut _ _ D.l1z e) hx fun g2 e b2 he => ?_)
    have ez2 : IsZip g2 z TI TO .ellipsis := b2 _ _ D.i1z.symm ez1
    exact wpAny_setField_rec ez2 (by simp) fun g3 _ b3 => goal g3 e (fun c o c1 _ c3 _ q => b3.extBut _ _ c1 (b2 _ _ c3 (b1.extBut _ _ c1 q))) (last ez2 he b3)
  | some x =>
    have hy : ys[k2]? = none := over.elim (fun q => by rw [hx] at q; cases q) id
    refine wpAny_bind (nextK_item (p1.kept fun o e => b1.extBut _ _ D.i1z e) (q1.kept fun o e => b1.extBut _ _ D.l1z e) hx fun g2 p1' b2 => wpAny_pure ?_)
    have eO2 : IsPair g2 TO a b := b2.extBut _ _ D.TOi1 (b1.extBut _ _ D.TOz eO)
    refine wpAny_bind (wpAny_seqItems eO2 rfl (wpAny_bind (wpAny_updateSeq_pair eO2 fun g3 eO3 b3 => ?_)))
    have up3 : ∀ c o, c ≠ z → c ≠ TO → c ≠ i1 → y0.heap.get? c = some o → g3.get? c = some o := fun c o c1 c2 c3 e => b3.extBut _ _ c2 (b2.extBut _ _ c3 (b1.extBut _ _ c1 e))
    refine wpAny_bind (wpAny_letGo (wpAny_pure (wpAny_bind (wpAny_bind (wpAny_onRaise (show wpAny _ _ (Builtin.SmallTypes.nextOf (.ref i2) >>= _) _ _ _ from wpAny_bind (nextK_end hh (p2.kept fun o e => up3 _ o D.i2z D.TOi2.symm D.i12.symm e)
      (q2.kept fun o e => up3 _ o D.l2z D.l2TO D.l2i1 e) hy fun g4 e b4 he => ?_)))))))
    have ez4 : IsZip g4 z TI TO .ellipsis := b4 _ _ D.i2z.symm (b3.extBut _ _ D.TOz.symm (b2.extBut _ _ D.i1z.symm ez1))
    exact wpAny_setField_rec ez4 (by simp) fun g5 _ b5 => goal g5 e (fun c o c1 c2 c3 c4 q => b5.extBut _ _ c1 (b4 _ _ c4 (up3 c o c1 c2 c3 q))) (last ez4 he b5)
theorem nextZ_item {z TI TO i1 i2 l1 l2 : Addr} {k1 k2 : Nat} {xs ys : Array Value} {x y a b : Value} {Q : Option Value → Shared → Prop} (D : ZipApart z TI TO i1 i2 l1 l2)
    (ez : IsZip y0.heap z TI TO .none) (eI : IsPair y0.heap TI (.ref i1) (.ref i2)) (eO : IsPair y0.heap TO a b) (p1 : ItK ka y0.heap i1 l1 k1) (p2 : ItK kb y0.heap i2 l2 k2) (q1 : SeK ka y0.heap l1 xs) (q2 : SeK kb y0.heap l2 ys) (hx : xs[k1]? = some x) (hy : ys[k2]? = some y)
    (goal : ∀ h', IsZip h' z TI TO (rawInt y0.heap.objs.size) → IsPair h' TO x y → ItK ka h' i1 l1 (k1 + 1) → ItK kb h' i2 l2 (k2 + 1) → IsPair h' y0.heap.objs.size x y → h'.objs.size = y0.heap.objs.size + 1 →
      (∀ c o, c ≠ z → c ≠ TO → c ≠ i1 → c ≠ i2 → y0.heap.get? c = some o → h'.get? c = some o) → Q (some (.ref y0.heap.objs.size)) { y0 with heap := h' }) : wpAny (model P w) B (pyNext (.ref z)) Q U y0 := by
  have ty : y0.TypeIs (.ref z) "zip" := ⟨_, ez, rfl⟩
  unfold pyNext
  refine wpAny_bind (wpAny_attempt (wpAny_callSpecial?_slot (name := Str.ofString "__next__") ty F.slot_zip_next (wpAny_call_entry F.slot_zip_next ty F.entry_zip_next ?_ (F.args_zip_next_1 _))))
  exact zipK_item D ez eI eO p1 p2 q1 q2 hx hy fun h' a1 a2 a3 a4 a5 a6 a7 => wpAny_pure (goal h' a1 a2 a3 a4 a5 a6 a7)
theorem nextZ_end {z TI TO i1 i2 l1 l2 : Addr} {k1 k2 : Nat} {xs ys : Array Value} {a b : Value} {Q : Option Value → Shared → Prop} (hh : B.handled = none) (D : ZipApart z TI TO i1 i2 l1 l2)
    (ez : IsZip y0.heap z TI TO .none) (eI : IsPair y0.heap TI (.ref i1) (.ref i2)) (eO : IsPair y0.heap TO a b) (p1 : ItK ka y0.heap i1 l1 k1) (p2 : ItK kb y0.heap i2 l2 k2) (q1 : SeK ka y0.heap l1 xs) (q2 : SeK kb y0.heap l2 ys) (over : xs[k1]? = none ∨ ys[k2]? = none)
    (goal : ∀ h', (∀ c o, c ≠ z → c ≠ TO → c ≠ i1 → c ≠ i2 → y0.heap.get? c = some o → h'.get? c = some o) → Q none { y0 with heap := h' }) : wpAny (model P w) B (pyNext (.ref z)) Q U y0 := by
  have ty : y0.TypeIs (.ref z) "zip" := ⟨_, ez, rfl⟩
  unfold pyNext
  refine wpAny_bind (wpAny_attempt (wpAny_callSpecial?_slot (name := Str.ofString "__next__") ty F.slot_zip_next (wpAny_call_entry F.slot_zip_next ty F.entry_zip_next ?_ (F.args_zip_next_1 _))))
  exact zipK_end hh D ez eI eO p1 p2 q1 q2 over fun h' e k ⟨o, e1, e2⟩ => wpAny_bind (wpAny_isInstance (T := "StopIteration") (b := true) ⟨o, e1, e2⟩ isSubtype_stop (wpAny_pure (goal h' k)))
end
end Br
set_option Elab.async false
set_option autoImplicit false
set_option linter.all false
set_option maxRecDepth 100000
set_option maxHeartbeats 1600000
namespace Br
open PySem PySem.Spec PyProof.Rows L2 Mini
/-! ### zip(x, y) as a source of a loop -/
def itName : Bool → String
  | true => "list_iterator"
  | false => "tuple_iterator"
abbrev itObj (kd : Bool) (l : Addr) : Obj := { cls := .type (itName kd), data := .fields #[.ref l, .int 0 0] }
section
variable {P : Program} {w : World} {B : Around} {U : Value → Shared → Prop} {y0 : Shared} {ka kb : Bool}
theorem iterK {kd : Bool} {l : Addr} {items : Array Value} {Q : Value → Shared → Prop} (q : SeK kd y0.heap l items) (goal : Q (.ref y0.heap.objs.size) { y0 with heap := y0.heap.push (itObj kd l) }) : wpAny (model P w) B (pyIter (.ref l)) Q U y0 := by
  cases kd
  · exact wpAny_pyIter_tuple q goal
  · exact wpAny_pyIter_list q goal
theorem SeK.push {kd : Bool} {h : Heap} {l : Addr} {xs : Array Value} (x : SeK kd h l xs) (o : Obj) : SeK kd (h.push o) l xs := x.kept fun _ e => Heap.get?_push_of_some _ e
abbrev zA (h : Heap) (ka : Bool) (l1 : Addr) : Heap := h.push (itObj ka l1)
abbrev zB (h : Heap) (ka kb : Bool) (l1 l2 : Addr) : Heap := (zA h ka l1).push (itObj kb l2)
abbrev zC (h : Heap) (ka kb : Bool) (l1 l2 : Addr) : Heap := (zB h ka kb l1 l2).push { cls := .type "tuple", data := .seq #[.ref h.objs.size, .ref (zA h ka l1).objs.size] }
abbrev zD (h : Heap) (ka kb : Bool) (l1 l2 : Addr) : Heap := (zC h ka kb l1 l2).push { cls := .type "tuple", data := .seq #[.none, .none] }
abbrev zE (h : Heap) (ka kb : Bool) (l1 l2 : Addr) : Heap := (zD h ka kb l1 l2).push { cls := .type "zip", data := .fields #[.none, .bool false, .bool false, .ref (zB h ka kb l1 l2).objs.size, .ref (zC h ka kb l1 l2).objs.size] }
theorem meets_zipK (ka kb : Bool) (l1 l2 : Addr) (xs ys : Array Value) : Meets (Builtin.«zip.__new__» ⟨[.type "zip", .ref l1, .ref l2], []⟩) (fun _ R s => SeK ka s.heap l1 xs ∧ SeK kb s.heap l2 ys ∧ R (.ok (.ret (.ref (zD s.heap ka kb l1 l2).objs.size))) { s with heap := zE s.heap ka kb l1 l2 }) :=
  .of_wp fun prog w A R s x => by
    obtain ⟨hp, g, d, tk, os⟩ := s; obtain ⟨x1, x2, goal⟩ := x
    have hsub := sub_zip
    have e1 : SeK ka (Shared.heap ⟨hp, g, d, tk, os⟩) l1 xs := x1
    have e2 : SeK kb (Shared.heap ⟨hp.push (itObj ka l1), g, d, tk, os⟩) l2 ys := SeK.push x2 _
    wp_walk using iterK e1, iterK e2
    exact ⟨_, rfl, goal⟩
theorem call_zipK {l1 l2 : Addr} {xs ys : Array Value} {Q : Value → Shared → Prop} (q1 : SeK ka y0.heap l1 xs) (q2 : SeK kb y0.heap l2 ys)
    (goal : ∀ h', IsZip h' (y0.heap.objs.size + 4) (y0.heap.objs.size + 2) (y0.heap.objs.size + 3) .none → IsPair h' (y0.heap.objs.size + 2) (.ref y0.heap.objs.size) (.ref (y0.heap.objs.size + 1)) → IsPair h' (y0.heap.objs.size + 3) .none .none →
      ItK ka h' y0.heap.objs.size l1 0 → ItK kb h' (y0.heap.objs.size + 1) l2 0 → (∀ c o, y0.heap.get? c = some o → h'.get? c = some o) → Q (.ref (y0.heap.objs.size + 4)) { y0 with heap := h' }) :
    wpAny (model P w) B (call (.type "zip") [.ref l1, .ref l2]) Q U y0 := by
  refine callType_new F.called_zip (by decide) (F.typeCall_zip_2 _ _) (F.newCall_zip_2 _ _) (fun obj => F.args_object_init_3 obj _ _) F.entry_zip_new (meets_zipK ka kb l1 l2 xs ys) ⟨q1, q2, ?_⟩
  have m1 : (zA y0.heap ka l1).objs.size = y0.heap.objs.size + 1 := Heap.size_push ..
  have m2 : (zB y0.heap ka kb l1 l2).objs.size = y0.heap.objs.size + 2 := by rw [Heap.size_push, m1]
  have m3 : (zC y0.heap ka kb l1 l2).objs.size = y0.heap.objs.size + 3 := by rw [Heap.size_push, m2]
  have m4 : (zD y0.heap ka kb l1 l2).objs.size = y0.heap.objs.size + 4 := by rw [Heap.size_push, m3]
  have up : ∀ {h : Heap} {c : Addr} {o o2 : Obj}, h.get? c = some o → (h.push o2).get? c = some o := fun e => Heap.get?_push_of_some _ e
  have f5 : (zE y0.heap ka kb l1 l2).get? (zD y0.heap ka kb l1 l2).objs.size = some _ := Heap.get?_push_size _ rfl
  have f4 : (zE y0.heap ka kb l1 l2).get? (zC y0.heap ka kb l1 l2).objs.size = some _ := up (Heap.get?_push_size _ rfl)
  have f3 : (zE y0.heap ka kb l1 l2).get? (zB y0.heap ka kb l1 l2).objs.size = some _ := up (up (Heap.get?_push_size _ rfl))
  have f2 : (zE y0.heap ka kb l1 l2).get? (zA y0.heap ka l1).objs.size = some (itObj kb l2) := up (up (up (Heap.get?_push_size _ rfl)))
  have f1 : (zE y0.heap ka kb l1 l2).get? y0.heap.objs.size = some (itObj ka l1) := up (up (up (up (Heap.get?_push_size _ rfl))))
  show _ ∧ _
  rw [m2, m3, m4] at f5; rw [m1, m2] at f3; rw [m3] at f4; rw [m1] at f2; rw [m4]
  have itk : ∀ {kd : Bool} {h : Heap} {it l : Addr}, h.get? it = some (itObj kd l) → ItK kd h it l 0 := by intro kd h it l e; cases kd <;> exact ⟨_, e, rfl, rfl⟩
  exact ⟨⟨_, f5, rfl⟩, goal _ f5 f3 f4 (itk f1) (itk f2) fun c o e => up (up (up (up (up e))))⟩
end
/-- a side as the heap tells it -/
def SqB (kd : Bool) (K : PySem.W.Frag) (H : Hp) (a : Addr) (xs : List V) : Prop := match kd with
  | true => SqL K H a xs
  | false => SqT K H a xs
section
variable {X : Cx} {pins : List (Addr × Obj)} {sg : L2.St} {H : Hp} {s : Shared} {kd : Bool} {a : Addr} {xs ys : List V}
theorem side_is (I : Inv X pins sg H s) (q : SqB kd X.K H a xs) : ∃ its : List Value, Vals xs its ∧ SeK kd s.heap a its.toArray := by
  cases kd
  · obtain ⟨its, rv, p, _⟩ := I.tuple q; exact ⟨its, rv, p⟩
  · obtain ⟨its, rv, p, _⟩ := I.list q; exact ⟨its, rv, p.isList⟩
theorem side_inj (I : Inv X pins sg H s) (q : SqB kd X.K H a xs) (q2 : SqB kd X.K H a ys) : xs = ys := by
  cases kd
  · exact I.tuple_inj q q2
  · exact I.list_inj q q2
end
def ItzK (K : PySem.W.Frag) (ka kb : Bool) (a b : Addr) : It :=
  ⟨fun i H => ∃ (xs ys : List V) (x y : V), SqB ka K H a xs ∧ SqB kb K H b ys ∧ xs[i]? = some x ∧ ys[i]? = some y,
    fun i H v H' => ∃ T x y, v = .ref T ∧ H T = none ∧ H' = upd H T (.tup [x, y]) ∧ (∀ xs, SqB ka K H a xs → xs[i]? = some x) ∧ ∀ ys, SqB kb K H b ys → ys[i]? = some y,
    fun i H => ∃ xs ys : List V, SqB ka K H a xs ∧ SqB kb K H b ys ∧ (xs.length ≤ i ∨ ys.length ≤ i)⟩
theorem turn_zipK {P : Program} {w : World} {K : PySem.W.Frag} {elts : List Expr} {kk : Nat} {tpos : Pos} {ka kb : Bool} {a b z TI TO i1 i2 : Addr} (D : ZipApart z TI TO i1 i2 a b) :
    Turn P w K (.Tuple elts kk tpos) (ItzK K ka kb a b) [z, TI, TO, i1, i2] z (fun i h => IsZip h z TI TO .none ∧ IsPair h TI (.ref i1) (.ref i2) ∧ (∃ x y, IsPair h TO x y) ∧ ItK ka h i1 a i ∧ ItK kb h i2 b i) where
  mem := by simp
  obj := fun i h st c hc => by
    obtain ⟨ez, eI, ⟨x, y, eO⟩, p1, p2⟩ := st
    simp only [List.mem_cons, List.not_mem_nil, or_false] at hc
    rcases hc with rfl | rfl | rfl | rfl | rfl
    · exact ⟨_, ez, fun v q => nomatch q⟩
    · exact ⟨_, eI, fun v q => nomatch q⟩
    · exact ⟨_, eO, fun v q => nomatch q⟩
    · exact p1.there
    · exact p2.there
  keep := fun i h h' st k => by
    obtain ⟨ez, eI, ⟨x, y, eO⟩, p1, p2⟩ := st
    exact ⟨k z (by simp) _ ez, k TI (by simp) _ eI, ⟨x, y, k TO (by simp) _ eO⟩, p1.kept (k i1 (by simp)), p2.kept (k i2 (by simp))⟩
  item := by
    intro X eP ew eK calm i pins s sg H E I fp st go
    subst eP ew eK
    obtain ⟨ez, eI, ⟨x0, u0, eO⟩, p1, p2⟩ := st
    obtain ⟨xs, ys, x, y, sx, sy, gx, gy⟩ := go
    obtain ⟨its, rv, q1⟩ := side_is I sx
    obtain ⟨its2, rv2, q2⟩ := side_is I sy
    obtain ⟨u, eu, ru⟩ := rv.get gx
    obtain ⟨u2, eu2, ru2⟩ := rv2.get gy
    have lz : z < s.heap.objs.size := Heap.lt_size ez
    refine nextZ_item D ez eI eO p1 p2 q1 q2 (x := u) (y := u2) (by simpa using eu) (by simpa using eu2) fun h' ez' eO' p1' p2' eT many up => ⟨_, rfl, wpAny_letOwnedTupleGo_zip (s := { s with heap := h' }) ez' fun g ez'' same => ?_⟩
    have eT2 : g.get? s.heap.objs.size = some { cls := .type "tuple", data := .seq #[u, u2] } := (same.2 _ (Nat.ne_of_gt lz)).trans eT
    have J : Inv X pins sg (upd H s.heap.objs.size (.tup [x, y])) { s with heap := g } :=
      I.turnedNew (t' := s.toks) (ch := [z, TI, TO, i1, i2]) (fun c o no e => by
        simp only [List.mem_cons, List.not_mem_nil, or_false, not_or] at no
        exact (same.2 c no.1).trans (up c o no.1 no.2.2.1 no.2.2.2.1 no.2.2.2.2 e)) fp (Nat.le_refl _) ⟨by show 2 ≤ sizeLine; decide, [u, u2], .cons ru (.cons ru2 .nil), ⟨_, eT2, rfl, _, rfl⟩⟩
    refine ⟨.ref s.heap.objs.size, _, J, rfl, ⟨_, x, y, rfl, I.hok.fresh (Nat.le_refl _), rfl, fun l hl => by rw [side_inj I hl sx]; exact gx, fun l hl => by rw [side_inj I hl sy]; exact gy⟩,
      ⟨ez'', (same.2 _ D.TIz).trans (up _ _ D.TIz D.TITO D.TIi1 D.TIi2 eI), ⟨u, u2, (same.2 _ D.TOz).trans eO'⟩, p1'.kept fun o e => (same.2 _ D.i1z).trans e, p2'.kept fun o e => (same.2 _ D.i2z).trans e⟩, fun c hc => ?_⟩
    have lc : c < s.heap.objs.size := by
      have hc' := hc
      simp only [List.mem_cons, List.not_mem_nil, or_false] at hc'
      rcases (hc' : _) with rfl | rfl | rfl | rfl | rfl
      · exact lz
      · exact Heap.lt_size eI
      · exact Heap.lt_size eO
      · obtain ⟨_, e, _⟩ := p1.there; exact Heap.lt_size e
      · obtain ⟨_, e, _⟩ := p2.there; exact Heap.lt_size e
    rw [upd_ne (Nat.ne_of_lt lc)]
    exact (fp c hc).1
  done := by
    intro X eP ew eK calm i pins s sg H E I fp st go
    subst eP ew eK
    obtain ⟨ez, eI, ⟨x0, u0, eO⟩, p1, p2⟩ := st
    obtain ⟨xs, ys, sx, sy, over⟩ := go
    obtain ⟨its, rv, q1⟩ := side_is I sx
    obtain ⟨its2, rv2, q2⟩ := side_is I sy
    have l1 := rv.length
    have l2 := rv2.length
    refine nextZ_end (I.ok.hd calm) D ez eI eO p1 p2 q1 q2 (over.elim (fun q => .inl (by simp; omega)) fun q => .inr (by simp; omega)) fun h' up => ⟨rfl, I.turnedL (t' := s.toks) (ch := [z, TI, TO, i1, i2]) (fun c o no e => ?_) fp⟩
    simp only [List.mem_cons, List.not_mem_nil, or_false, not_or] at no
    exact up c o no.1 no.2.2.1 no.2.2.2.1 no.2.2.2.2 e
  self := fun A i s Q E st q => wpAny_pyIter_zip st.1 q
def iZipK (K : PySem.W.Frag) (ta : TA) : TI := fun sg H R => ta sg H fun vs H1 => ∃ ka kb a b xs ys, vs = [.ref a, .ref b] ∧ SqB ka K H1 a xs ∧ SqB kb K H1 b ys ∧ R (ItzK K ka kb a b) H1
theorem pi_zipK {X : Cx} {e e2 : Expr} {ta : TA} {p pos tpos : Pos} {elts : List Expr} {kk : Nat} (hg : Gl X "zip") (hm : X.mg "zip" = none) (ha : PA X [e, e2] ta) (hs : starEach [e, e2] X.env = (false, eval e X.env) :: starEach [e2] X.env := by rfl)
    (hpl : (backTo pos (starEach [e2] X.env)).any (·.1) = false := by rfl) : PI X (.Tuple elts kk tpos) (.Call (.Name "zip" p) [e, e2] [] pos) (iZipK X.K ta) := by
  refine ⟨fun pins s sg H R I x => Call_ (ld_blt I hg hm PyProof.Rows.boot_zip (PyProof.Rows.callWith_type1 (thn (ha.run pos pins s sg H _ I x) fun us s1 ⟨vs, H1, I1, rv, q⟩ => ?_) hs hpl))⟩
  obtain ⟨ka, kb, a, b, xs, ys, rfl, sx, sy, q⟩ := q
  cases rv with
  | cons r rr => cases rr with
    | cons r2 rr =>
      cases rr; cases r; cases r2
      obtain ⟨its, _, q1⟩ := side_is I1 sx
      obtain ⟨its2, _, q2⟩ := side_is I1 sy
      have apart := PySem.W.ktu_apart s1.heap.objs.size a b q1.lt q2.lt
      refine call_zipK q1 q2 fun h' ez eI eO p1 p2 up => wpAny_pyIter_zip ez ⟨s1.heap.objs.size + 4, [s1.heap.objs.size + 4, s1.heap.objs.size + 2, s1.heap.objs.size + 3, s1.heap.objs.size, s1.heap.objs.size + 1], _, _, H1, rfl, I1.kept (t' := s1.toks) up, turn_zipK apart, ⟨ez, eI, ⟨_, _, eO⟩, p1, p2⟩, fun c hc => ?_, q⟩
      have le : s1.heap.objs.size ≤ c := by
        simp only [List.mem_cons, List.not_mem_nil, or_false] at hc
        rcases hc with rfl | rfl | rfl | rfl | rfl
        · exact Nat.le_add_right _ _
        · exact Nat.le_add_right _ _
        · exact Nat.le_add_right _ _
        · exact Nat.le_refl _
        · exact Nat.le_add_right _ _
      exact I1.fpOk le (I1.hok.fresh le)
end Br
set_option Elab.async false
set_option autoImplicit false
set_option linter.all false
set_option maxRecDepth 100000
set_option maxHeartbeats 1100000
namespace Br
open PySem PySem.Spec PyProof.Rows L2 Mini
section
variable {X : Cx} {Ga : Nat → Addr} {pin : Pin} {Wd : WX} {ph : Nat → Addr} {h : MH} {r : Mini.Env} {sg : L2.St} {H : Hp} {tg iter elt e e2 : Expr} {es : List Expr} {pos p tpos : Pos} {m ma mb : Mini.E} {ta : Mini.T} {sb : Mini.S} {body : List Stmt} {kk n : Nat}
/-! ### loops over rows of values -/
/-- an object laid beside what Mini has -/
theorem HR.beside {K : PySem.W.Frag} {T : Addr} {o : HO} (R : HR K Ga ph h H) (hT : H T = none) : HR K Ga ph h (upd H T o) := by
  refine ⟨fun i c e => (R.cells i c e).to (Nat.le_refl _) (fun _ _ => rfl) fun t => ?_, R.inj⟩
  obtain ⟨o, ho⟩ := (R.cells i c e).some t
  exact upd_ne fun z => by rw [z, hT] at ho; cases ho
theorem SR.beside {K : PySem.W.Frag} {T : Addr} {o : HO} (s : SR K Ga pin ph h r sg H) (hT : H T = none) : SR K Ga pin ph h r sg (upd H T o) := ⟨s.hr.beside hT, s.len, s.val, s.pin⟩
/-- src is what J walks, whatever comes behind -/
def RowsOf (K : PySem.W.Frag) (Ga : Nat → Addr) (J : It) (src : Src2) (ph : Nat → Addr) (n : Nat) : Prop := ∀ (p2 : Nat → Addr) (h2 : MH) (H : Hp) (i : Nat), (∀ k, k < n → p2 k = ph k) → n ≤ h2.length → HR K Ga p2 h2 H →
  (src i h2 = some none → J.stop i H) ∧ ∀ ws, src i h2 = some (some ws) → J.go i H ∧ (∀ w ∈ ws, wf h2.length w) ∧ ∀ x H', J.yld i H x H' → ∃ T, x = .ref T ∧ H T = none ∧ H' = upd H T (.tup (ws.map (vW p2)))
theorem RowsOf.grow {K : PySem.W.Frag} {J : It} {src : Src2} {ph1 : Nat → Addr} {h1 : MH} (q : RowsOf K Ga J src ph h.length) (g : Grow ph h ph1 h1) : RowsOf K Ga J src ph1 h1.length :=
  fun p2 h2 H i a b R => q p2 h2 H i (fun k hk => (a k (Nat.lt_of_lt_of_le hk g.le)).trans (g.eq k hk)) (Nat.le_trans g.le b) R
def relR (K : PySem.W.Frag) (Ga : Nat → Addr) (ph : Nat → Addr) (n : Nat) (q : Src2 × Nat) (J : It) : Prop := RowsOf K Ga J q.1 ph n
def tR (K : PySem.W.Frag) (Ga : Nat → Addr) (pin : Pin) (Wd : WX) (mi : I2) : TI := fun sg H R => ∃ ph h r, SR K Ga pin ph h r sg H ∧ rd K Ga Wd (relR K Ga) ph h sg (mi r h) R
theorem seqK_ok {K : PySem.W.Frag} {kd : Bool} {a : Nat} {xs : List Mini.W} (R : HR K Ga ph h H) (e : seqK kd h a = some xs) : SqB kd K H (ph a) (xs.map (vW ph)) ∧ ∀ w ∈ xs, wf h.length w := by
  cases kd
  · exact tupAt_ok R e
  · exact lstAt_ok R e
theorem seqK_lt {kd : Bool} {a : Nat} {xs : List Mini.W} (e : seqK kd h a = some xs) : a < h.length := by
  refine Nat.lt_of_not_le fun z => ?_
  have q : h[a]? = none := List.getElem?_eq_none z
  cases kd <;> (simp only [seqK, lstAt, tupAt, q] at e; cases e)
/-- zip(e, e2) -/
theorem r_zip {elts : List Expr} (hg : Gl X "zip") (hm : X.mg "zip" = none) (h1 : PE X e (tE X.K Ga pin Wd ma)) (h2 : PE X e2 (tE X.K Ga pin Wd mb)) (hs : starEach [e, e2] X.env = (false, eval e X.env) :: starEach [e2] X.env := by rfl) (hs2 : starEach [e2] X.env = (false, eval e2 X.env) :: starEach [] X.env := by rfl)
    (hpl : (backTo pos (starEach [e2] X.env)).any (·.1) = false := by rfl) : PI X (.Tuple elts kk tpos) (.Call (.Name "zip" p) [e, e2] [] pos) (tR X.K Ga pin Wd (iZip ma mb)) := by
  refine PI.imp (pi_zipK hg hm (pa_cons h1 (pa_cons h2 pa_nil hs2) hs) hs hpl) fun sg H R ⟨ph, h, r, s, x⟩ => ?_
  have x0 : rd X.K Ga Wd (relR X.K Ga) ph h sg ((ma r h).bind fun x h1 => (mb r h1).bind fun y h2 => zipOf x y h2) R := x
  refine ⟨ph, h, r, s, x0.bind fun w h1 _ ph1 H1 b1 g1 R1 ⟨eb1, w1⟩ x1 => ⟨ph1, h1, r, s.grow g1 R1, x1.bind fun u h2 _ ph2 H2 b2 g2 R2 ⟨eb2, w2⟩ x2 => ?_⟩⟩
  unfold zipOf at x2
  cases w with
  | ref a =>
    cases u with
    | ref b =>
      simp only [] at x2
      cases ea : seqK (kdAt h2 a) h2 a with
      | none => rw [ea] at x2; exact x2.elim
      | some xs =>
        cases eb : seqK (kdAt h2 b) h2 b with
        | none => rw [ea, eb] at x2; exact x2.elim
        | some ys =>
          rw [ea, eb] at x2
          refine ⟨kdAt h2 a, kdAt h2 b, ph2 a, ph2 b, _, _, ?_, (seqK_ok R2 ea).1, (seqK_ok R2 eb).1, x2 ph2 H2 _ (Grow.refl _ _) R2 fun p3 h3 H3 i a3 b3 R3 => ?_⟩
          · rw [eb1, eb2]
            show [V.ref (ph1 a), V.ref (ph2 b)] = _
            rw [g2.eq a w1]
          have pa : p3 a = ph2 a := a3 a (seqK_lt ea)
          have pb : p3 b = ph2 b := a3 b (seqK_lt eb)
          show (zipAt (kdAt h2 a) (kdAt h2 b) a b i h3 = some none → _) ∧ ∀ ws, zipAt (kdAt h2 a) (kdAt h2 b) a b i h3 = some (some ws) → _
          cases e3 : seqK (kdAt h2 a) h3 a with
          | none =>
            have z : zipAt (kdAt h2 a) (kdAt h2 b) a b i h3 = none := by unfold zipAt; rw [e3]
            rw [z]
            exact ⟨nofun, nofun⟩
          | some xs3 =>
            cases e4 : seqK (kdAt h2 b) h3 b with
            | none =>
              have z : zipAt (kdAt h2 a) (kdAt h2 b) a b i h3 = none := by unfold zipAt; rw [e3, e4]
              rw [z]
              exact ⟨nofun, nofun⟩
            | some ys3 =>
              have z : zipAt (kdAt h2 a) (kdAt h2 b) a b i h3 = some (both xs3[i]? ys3[i]?) := by unfold zipAt; rw [e3, e4]
              rw [z]
              obtain ⟨k1, f1⟩ := seqK_ok R3 e3
              obtain ⟨k2, f2⟩ := seqK_ok R3 e4
              rw [pa] at k1
              rw [pb] at k2
              refine ⟨fun q => ⟨_, _, k1, k2, ?_⟩, fun ws q => ?_⟩
              · have q' : both xs3[i]? ys3[i]? = none := Option.some.inj q
                rw [List.length_map, List.length_map]
                by_cases c : i < xs3.length
                · by_cases d : i < ys3.length
                  · rw [List.getElem?_eq_getElem c, List.getElem?_eq_getElem d] at q'; cases q'
                  · exact .inr (Nat.le_of_not_lt d)
                · exact .inl (Nat.le_of_not_lt c)
              · have q' : both xs3[i]? ys3[i]? = some ws := Option.some.inj q
                cases c : xs3[i]? with
                | none => rw [c] at q'; cases q'
                | some x =>
                  cases d : ys3[i]? with
                  | none => rw [c, d] at q'; cases q'
                  | some y =>
                    rw [c, d] at q'
                    cases q'
                    have m1 : (xs3.map (vW p3))[i]? = some (vW p3 x) := by rw [List.getElem?_map, c]; rfl
                    have m2 : (ys3.map (vW p3))[i]? = some (vW p3 y) := by rw [List.getElem?_map, d]; rfl
                    refine ⟨⟨_, _, _, _, k1, k2, m1, m2⟩, fun w hw => ?_, fun v H' ⟨T, x', y', ev, hT, eH, q1, q2⟩ => ⟨T, ev, hT, ?_⟩⟩
                    · simp only [List.mem_cons, List.not_mem_nil, or_false] at hw
                      rcases hw with rfl | rfl
                      · exact f1 _ (List.mem_of_getElem? c)
                      · exact f2 _ (List.mem_of_getElem? d)
                    · have z1 := q1 _ k1
                      have z2 := q2 _ k2
                      rw [m1] at z1
                      rw [m2] at z2
                      cases z1; cases z2
                      exact eH
    | _ => exact x2.elim
  | _ => cases u <;> exact x2.elim
/-- a row into its target -/
theorem row_tg {is : List Nat} {gs : List Mini.G} {ts : TGs} {ws : List Mini.W} {T : Addr} {Q : L2.St → Hp → Prop} (hl : gs.length = n) (z : TgsS X Ga pin is gs ts) (s : SR X.K Ga pin ph h r sg (upd H T (.tup (ws.map (vW ph))))) (hw : ∀ w ∈ ws, wf h.length w)
    (q : rdG X.K Ga pin is ph h sg (gAll gs ws r h) Q) : gTup X.K n ts (.ref T) sg (upd H T (.tup (ws.map (vW ph)))) Q := by
  refine ⟨T, ws.map (vW ph), rfl, .inl (.inl upd_same), ?_, z ph h r sg _ ws Q s hw q⟩
  cases e : gAll gs ws r h with
  | ok r1 h1 => rw [List.length_map, gAll_len e, hl]
  | exc c d h1 => rw [e] at q; exact q.elim
  | bad => rw [e] at q; exact q.elim
theorem lcr_of {is vs : List Nat} {mi : I2} {gs : List Mini.G} {ts : TGs} (hl : gs.length = n) (ho : ∀ j ∈ is, j ∈ vs) (hz : TgsS X Ga none is gs ts) (sg : L2.St) (H : Hp) (Q : VK) (x : tE X.K Ga none Wd (eLcR vs mi gs ta m) sg H Q) :
    tLc (tR X.K Ga none Wd mi) (gTup X.K n ts) (tT X.K Ga none W0 ta) (tE X.K Ga none W0 m) vs sg H Q := by
  obtain ⟨ph, h, r, s, x⟩ := x
  refine ⟨ph, h, r, s, x.bind fun q h1 _ ph1 H1 J g1' R1 rl x1 => fun D hD => ?_⟩
  obtain ⟨src, k⟩ := q
  have x2 := rd_quiet (sg' := sg) x1
  let ph2 := ext ph1 h1.length D
  have gr2 : Grow ph1 h1 ph2 (h1 ++ [Cell.lst []]) := Grow.ext
  have R2 : HR X.K Ga ph2 (h1 ++ [Cell.lst []]) (upd H1 D (.lst [])) := R1.push hD ⟨upd_same, fun _ hx => nomatch hx⟩
  have s2 : SR X.K Ga none ph2 (h1 ++ [Cell.lst []]) r sg (upd H1 D (.lst [])) := (s.grow g1' R1).grow gr2 R2
  let Nxt : Nat → Nat → Hp → Prop := fun i n H => ∃ ph h, SR X.K Ga none ph h r sg H ∧ RowsOf X.K Ga J src ph h.length ∧ h1.length < h.length ∧ ph h1.length = D ∧ rd X.K Ga W0 relW ph h sg (lcRows src gs ta m (Mini.wipe r vs) h1.length n i h) Q
  refine ⟨Nxt, ⟨k, ph2, _, s2, RowsOf.grow rl gr2, by rw [List.length_append]; exact Nat.lt_succ_self _, ext_at, rd.base gr2 x2⟩, fun i n H ⟨ph, h, s, sr, hl', eD, x⟩ => ?_⟩
  cases n with
  | zero => exact x.elim
  | succ n =>
    unfold lcRows at x
    obtain ⟨f1, f2⟩ := sr ph h H i (fun _ _ => rfl) (Nat.le_refl _) s.hr
    cases e : src i h with
    | none => rw [e] at x; exact x.elim
    | some q =>
      rw [e] at x
      cases q with
      | none =>
        refine .inl ⟨f1 e, ?_⟩
        have q := x.ok1 ph H _ (Grow.refl _ _) s.hr ⟨rfl, hl'⟩
        rw [show vW ph (.ref h1.length) = .ref D from congrArg V.ref eD] at q
        exact q
      | some ws =>
        obtain ⟨y1, y2, y3⟩ := f2 ws e
        refine .inr ⟨y1, Nxt (i + 1) n, fun H' y => ⟨n, Nat.lt_succ_self n, y⟩, fun v H' y => ?_⟩
        obtain ⟨T, rfl, hT, rfl⟩ := y3 v H' y
        simp only [] at x
        refine row_tg hl hz (Q := _) ((s.beside hT).wipe vs) y2 ?_
        cases e2 : gAll gs ws (Mini.wipe r vs) h with
        | exc cc d h2 => rw [e2] at x; exact x.elim
        | bad => rw [e2] at x; exact x.elim
        | ok r1 h3 =>
          rw [e2] at x
          intro ph3 sg3 H3 gr3 S3 f3
          refine ⟨(wipe_same f3 ho).trans wipe_wipe, ph3, h3, r1, S3, ?_⟩
          refine (rd_any (sg' := sg3) (rd.base gr3 x)).bind fun k2 h4 _ ph4 H4 b4 gr4 R4 eb4 x5 => ?_
          rw [show b4 = k2 from eb4]
          have gg4 := gr3.trans gr4
          cases k2 with
          | false =>
            rw [if_neg (fun z => nomatch z)]
            rw [if_neg (fun z => nomatch z)] at x5
            exact ⟨ph4, h4, s.grow gg4 R4, sr.grow gg4, Nat.lt_of_lt_of_le hl' gg4.le, (gg4.eq _ hl').trans eD, rd_any x5⟩
          | true =>
            rw [if_pos rfl]
            rw [if_pos rfl] at x5
            refine ⟨ph4, h4, r1, S3.grow gr4 R4, x5.bind fun y ha _ pa Ha ba ga Ra ⟨eba, wa⟩ xa => ?_⟩
            have gga := gg4.trans ga
            obtain ⟨acc, za, zb, hb, Rb, gb, xb⟩ := add_ok Ra wa (Nat.lt_of_lt_of_le hl' gga.le) ((gga.eq _ hl').trans eD) xa
            rw [eba]
            have ggb := gga.trans gb
            exact ⟨acc, za, zb, pa, hb, s.grow ggb Rb, sr.grow ggb, Nat.lt_of_lt_of_le hl' ggb.le, (ggb.eq _ hl').trans eD, rd_any xb⟩
theorem e_lcr {is : List Nat} {ifs : List Expr} {scope : Scope} {own : List (Str × Nat)} {mi : I2} {gs : List Mini.G} {ts : TGs} (hl : gs.length = n) (hc : X.calm = true) (hN : X.N.Nodup) (hi : PI X tg iter (tR X.K Ga none Wd mi)) (ok : BlkOk X.N X.env.scope scope own) (ho : ∀ j ∈ is, j ∈ own.map (·.2)) (hz : TgsS X Ga none is gs ts)
    (hg : ∀ (s : Shared) (H : Hp) (C : Addr) (cl : List (Str × Addr)) (fp : List Addr), PG (X.blk s H scope (compEnvC scope cl C X.env) fp) tg (gTup X.K n ts)) (ht : ∀ (s : Shared) (H : Hp) (C : Addr) (cl : List (Str × Addr)) (fp : List Addr), PTs (X.blk s H scope (compEnvC scope cl C X.env) fp) ifs (tT X.K Ga none W0 ta))
    (he : ∀ (s : Shared) (H : Hp) (C : Addr) (cl : List (Str × Addr)) (fp : List Addr), PE (X.blk s H scope (compEnvC scope cl C X.env) fp) elt (tE X.K Ga none W0 m)) (hs : ∀ x, foldedSetIterable iter X.env x = pure x := by intro _; rfl) :
    PE X (.ListComp elt [⟨tg, iter, ifs, 0⟩] scope pos) (tE X.K Ga none Wd (eLcR (own.map (·.2)) mi gs ta m)) :=
  PE.imp (pe_lc hc hN hi ok hg ht he hs) (lcr_of hl ho hz)
theorem s_forR {is : List Nat} {mi : I2} {gs : List Mini.G} {elts : List Expr} (hp : PassesOwn (model X.prog X.w) X.A X.env X.xe) (hc : X.calm = true) (hi : PI X (.Tuple elts kk tpos) iter (tR X.K Ga pin Wd mi)) (hg : Tgs X Ga pin is elts gs) (hb : PSs X body (tS X.K Ga pin Wd sb)) (hl : gs.length = n := by rfl)
    (hn : (assignEach elts X.env).length = n := by rfl) (hst : (assignEach elts X.env).findIdx? (·.1) = none := by rfl) (hs : ∀ x, foldedSetIterable iter X.env x = pure x := by intro _; rfl) : PS X (.For (.Tuple elts kk tpos) iter body [] pos) (tS X.K Ga pin Wd (sForR mi gs sb)) := by
  obtain ⟨ts, p, z⟩ := hg.ex
  refine PS.imp (ps_for hp hc hi (pg_tup hc p hn hst) hb hs) fun D sg H ⟨ph, h, r, s, x⟩ => ⟨ph, h, r, s, ?_⟩
  refine st_of (k := fun q h1 => sRows q.1 gs sb q.2 0 r h1) (D := D) s ?_ fun q h1 ph1 H1 J g1 S rl x1 => ?_
  · unfold sForR at x
    cases e : mi r h <;> (rw [e] at x; exact x)
  · obtain ⟨src, k⟩ := q
    let Nxt : Nat → Nat → L2.St → Hp → Prop := fun i n sg H => ∃ ph h r, SR X.K Ga pin ph h r sg H ∧ RowsOf X.K Ga J src ph h.length ∧ rdS X.K Ga pin Wd ph h (sRows src gs sb n i r h) D
    refine ⟨Nxt, ⟨k, ph1, h1, r, S, rl, x1⟩, fun i n sg H ⟨ph, h, r, s, sr, x⟩ => ?_⟩
    cases n with
    | zero => exact x.elim
    | succ n =>
      unfold sRows at x
      obtain ⟨f1, f2⟩ := sr ph h H i (fun _ _ => rfl) (Nat.le_refl _) s.hr
      cases e : src i h with
      | none => rw [e] at x; exact x.elim
      | some q =>
        rw [e] at x
        cases q with
        | none => exact .inl ⟨f1 e, x ph sg H (Grow.refl _ _) s⟩
        | some ws =>
          obtain ⟨y1, y2, y3⟩ := f2 ws e
          refine .inr ⟨y1, Nxt (i + 1) n, fun sg' H' y => ⟨n, Nat.lt_succ_self n, y⟩, fun v H' y => ?_⟩
          obtain ⟨T, rfl, hT, rfl⟩ := y3 v H' y
          refine row_tg hl z (s.beside hT) y2 ?_
          simp only [] at x
          cases e2 : gAll gs ws r h with
          | exc c d h2 => rw [e2] at x; exact x.elim
          | bad => rw [e2] at x; exact x.elim
          | ok r1 h1 =>
            rw [e2] at x
            intro ph2 sg2 H2 g2 S2 _
            refine ⟨ph2, h1, r1, S2, ?_⟩
            simp only [] at x
            have x2 := rdS.base g2 x
            cases e3 : sb r1 h1 with
            | ok f r3 h3 =>
              rw [e3] at x2
              cases f with
              | nx => exact fun ph4 sg4 H4 g4 S4 => ⟨ph4, h3, r3, S4, (sr.grow g2).grow g4, rdS.base g4 x2⟩
              | ct => exact fun ph4 sg4 H4 g4 S4 => ⟨ph4, h3, r3, S4, (sr.grow g2).grow g4, rdS.base g4 x2⟩
              | bk => exact x2
              | rt u => exact x2
            | exc c d r3 h3 => rw [e3] at x2; exact x2
            | bad => rw [e3] at x2; exact x2
end
end Br
set_option Elab.async false
set_option autoImplicit false
set_option linter.all false
set_option maxRecDepth 100000
set_option maxHeartbeats 1100000
namespace Br
open PySem PySem.Spec PyProof.Rows L2 Mini
/-! ### short words for gen2.py: calls with positions and keywords, own methods, keyword-only defaults -/
/-- a method with keyword-only defaults -/
structure MethD_ (K : PySem.W.Frag) (C : Addr) (nm qual : Str) (st : Stmt) (dfs : List (Str × V)) : Prop where
  ex : ∃ (f : Addr) (fd : FuncData), PySem.W.findIn K (.ref C) nm = some (some (.ref f)) ∧ PySem.W.isFn K (.ref f) = true ∧ FunD K nm qual (defArgs st) (defBody st) (defScope st) [] dfs f fd
structure DefMD (P : Program) (w : World) (K : PySem.W.Frag) (mg : Str → Option Value) (base : Heap) (Ga : Nat → Addr) (k : Nat) (C : Addr) (nm qual : Str) (st : Stmt) (dfs : List (Str × V)) (ps : List Str) (m : Mini.F) : Prop where
  ex : ∃ (f : Addr) (fd : FuncData), PySem.W.findIn K (.ref C) nm = some (some (.ref f)) ∧ PySem.W.isFn K (.ref f) = true ∧ FunD K nm qual (defArgs st) (defBody st) (defScope st) [] dfs f fd ∧ FnM P w K mg base Ga k f fd ps m
theorem defmd_of {P : Program} {w : World} {K : PySem.W.Frag} {mg : Str → Option Value} {base : Heap} {Ga : Nat → Addr} {k : Nat} {C : Addr} {x q : Str} {st : Stmt} {dfs : List (Str × V)} {N ps : List Str} {sb : Mini.S} (Y : MethD_ K C x q st dfs) (S : FnScope N ps (defScope st))
    (hbody : ∀ (f : Addr) (cdv : Value) (A : Around) (outer : List PySem.Env) (s : Shared) (H : Hp) (E : XK), RoomG k (A.deeper (envOfC q (defScope st) s.heap.objs.size f cdv)) →
      PSs (cxOf (L2.CX P w) P w K mg base N q (defScope st) f cdv A outer s H E) (defBody st) (tS K Ga none (fun c d _ H => E c d H) sb)) :
    DefMD P w K mg base Ga (k + 1) C x q st dfs ps (fnOf N.length ps.length sb) := by
  obtain ⟨f, fd, h1, h0, F⟩ := Y.ex
  have F' := F
  obtain ⟨oc, od, dV, kV, doc, pm, an, cdv, ct, sl, rfl, lk, hcd, _, _⟩ := F'.ex
  exact ⟨f, _, h1, h0, F, fnm_of lk hcd S fun A outer s H E hr => hbody f cdv A outer s H E hr⟩
theorem funD_mk {K : PySem.W.Frag} {x qual : Str} {st : Stmt} {dfs : List (Str × V)} {f D : Addr} {oc : Value} {od : Option Addr} {doc pm cdv ct : Value} {an : Option Addr} {osl : Array (Option Value)} (lk : K.lookup f = some ⟨oc, od, .func (PySem.W.fnOf x qual (defArgs st) (defBody st) (defScope st) .none (.ref D) doc pm an cdv ct), osl⟩)
    (hcd : PySem.W.codeIn K cdv qual = true) (kp : PySem.W.keepIn K (.ref f) = true) (hq : ∀ q ∈ dfs, ∃ u, PySem.W.nsIn K D q.1 = some (some u) ∧ RelV q.2 u) : FunD K x qual (defArgs st) (defBody st) (defScope st) [] dfs f (PySem.W.fnOf x qual (defArgs st) (defBody st) (defScope st) .none (.ref D) doc pm an cdv ct) :=
  ⟨⟨oc, od, .none, .ref D, doc, pm, an, cdv, ct, osl, rfl, lk, hcd, .inl ⟨rfl, rfl⟩, .inr ⟨D, rfl, hq⟩⟩, kp⟩
section
variable {X : Cx} {Ga : Nat → Addr} {pin : Pin} {Wd : WX} {o : Expr} {es : List Expr} {kws : List Keyword} {mo : Mini.E} {ms mk : Mini.A} {pos apos p : Pos} {k j ci n m : Nat} {is : List Nat} {x nm q : Str} {st : Stmt} {ps ks : List Str} {mf : Mini.F} {dfs : List (Str × V)}
/-- the positions, told by their first -/
def Ess (X : Cx) (es : List Expr) (ms : Mini.A) : Prop := (es = [] ∧ ms = aNil) ∨ ∃ e rest, es = e :: rest ∧ starEach (e :: rest) X.env = (false, eval e X.env) :: starEach rest X.env
theorem ess0 : Ess X [] aNil := .inl ⟨rfl, rfl⟩
theorem ess1 {e : Expr} (h : starEach (e :: es) X.env = (false, eval e X.env) :: starEach es X.env := by rfl) : Ess X (e :: es) ms := .inr ⟨_, _, rfl, h⟩
theorem cn_ (D : Def X.prog X.w X.K X.mg X.base Ga k x st ps mf) (hr : RoomG j X.A) (tk : Takes X Wd)
    (hb : ∀ (kV doc pm : Value) (an : Option Addr) (cdv ct : Value) (pre us ws : List Value), pre.length = 0 → us.length = n → ws.length = ks.length → bindArgs (PySem.W.fnOf x x (defArgs st) (defBody st) (defScope st) .none kV doc pm an cdv ct) ⟨pre ++ us, ks.zip ws⟩ = pure (ps.zip (pre ++ pick is (us ++ ws ++ []))))
    (hes : Ess X es ms) (ha : PA X es (tA X.K Ga pin Wd ms)) (hkw : PK X kws (tA X.K Ga pin Wd mk)) (hn : ks.length = m := by rfl) (hk : k ≤ j := by decide) (hg : Gl X x := by rfl)
    (hdb : (x == ("__debug__" : Str)) = false := by decide) (hall : (backToKw pos (keywordEach kws X.env)).all (·.1.isSome) = true := by rfl) (hks : (backToKw pos (keywordEach kws X.env)).filterMap (·.1) = ks := by rfl)
    (hpl : ((backTo pos (starEach es X.env)).any (·.1) || (backToKw pos (keywordEach kws X.env)).any (·.1.isNone)) = false := by rfl) : PE X (.Call (.Name x p) es kws pos) (tE X.K Ga pin Wd (eCallN mf is [] n m ms mk)) := by
  obtain ⟨f, fd, h1, F, h2, M⟩ := D.ex
  exact e_callN M (hr.mono hk) hg h1 F.kp (kbf_of F hb) cnst_nil tk ha hkw hes hn hall hks hdb hpl
theorem mth_ (D : DefM X.prog X.w X.K X.mg X.base Ga k (Ga ci) nm q st ps mf) (hr : RoomG j X.A) (tk : Takes X Wd)
    (hb : ∀ (kV doc pm : Value) (an : Option Addr) (cdv ct : Value) (pre us ws : List Value), pre.length = 1 → us.length = n → ws.length = ks.length → bindArgs (PySem.W.fnOf nm q (defArgs st) (defBody st) (defScope st) .none kV doc pm an cdv ct) ⟨pre ++ us, ks.zip ws⟩ = pure (ps.zip (pre ++ pick is (us ++ ws ++ []))))
    (ho : PE X o (tE X.K Ga pin Wd mo)) (hes : Ess X es ms) (ha : PA X es (tA X.K Ga pin Wd ms)) (hkw : PK X kws (tA X.K Ga pin Wd mk)) {pl : Sem Bool} (hn : ks.length = m := by rfl) (hk : k ≤ j := by decide)
    (hall : (backToKw pos (keywordEach kws X.env)).all (·.1.isSome) = true := by rfl) (hks : (backToKw pos (keywordEach kws X.env)).filterMap (·.1) = ks := by rfl)
    (hpl : ((backTo pos (starEach es X.env)).any (·.1) || (backToKw pos (keywordEach kws X.env)).any (·.1.isNone)) = false := by rfl)
    (ht : eval (.Call (.Attribute o nm apos) es kws pos) X.env = (do
      let ov ← eval o X.env
      standAt apos.atName
      let (f, first) ← holding [ov] (getMethod ov nm pl)
      callWith pos f first (backTo pos (starEach es X.env)) (backToKw pos (keywordEach kws X.env))) := by rfl) :
    PE X (.Call (.Attribute o nm apos) es kws pos) (tE X.K Ga pin Wd (eMethN ci nm mf is [] n m mo ms mk)) := by
  obtain ⟨f, fd, h1, h0, F, h2, M⟩ := D.ex
  exact e_methN ⟨h1, h0, F.kp⟩ M (hr.mono hk) (kbf_of F hb) cnst_nil tk ho ha hkw hes hn hall hks hpl ht
theorem mkn_ (D : DefM X.prog X.w X.K X.mg X.base Ga k (Ga ci) "__init__" q st ps mf) (C : OwnC X.K X.mg Ga ci x) (hr : RoomG j X.A) (tk : Takes X Wd)
    (hb : ∀ (kV doc pm : Value) (an : Option Addr) (cdv ct : Value) (pre us ws : List Value), pre.length = 1 → us.length = n → ws.length = ks.length → bindArgs (PySem.W.fnOf "__init__" q (defArgs st) (defBody st) (defScope st) .none kV doc pm an cdv ct) ⟨pre ++ us, ks.zip ws⟩ = pure (ps.zip (pre ++ pick is (us ++ ws ++ []))))
    (hes : Ess X es ms) (ha : PA X es (tA X.K Ga pin Wd ms)) (hkw : PK X kws (tA X.K Ga pin Wd mk)) (hn : ks.length = m := by rfl) (hk : k + 1 ≤ j := by decide) (hg : Gl X x := by rfl)
    (hdb : (x == ("__debug__" : Str)) = false := by decide) (hall : (backToKw pos (keywordEach kws X.env)).all (·.1.isSome) = true := by rfl) (hks : (backToKw pos (keywordEach kws X.env)).filterMap (·.1) = ks := by rfl)
    (hpl : ((backTo pos (starEach es X.env)).any (·.1) || (backToKw pos (keywordEach kws X.env)).any (·.1.isNone)) = false := by rfl) : PE X (.Call (.Name x p) es kws pos) (tE X.K Ga pin Wd (eMakeN ci mf is [] n m ms mk)) := by
  obtain ⟨f, fd, h1, h0, F, h2, M⟩ := D.ex
  exact e_makeN ⟨C.made, h1, h0, C.kp⟩ C.cx M (hr.mono hk) hg C.g (kbf_of F hb) cnst_nil tk ha hkw hes hn hall hks hdb hpl
/-- a making; lack: the keyword-only parameters that are not told, dws their defaults -/
theorem mkd_ {dws : List Mini.W} (lack : List (Str × V)) (D : DefMD X.prog X.w X.K X.mg X.base Ga k (Ga ci) "__init__" q st dfs ps mf) (C : OwnC X.K X.mg Ga ci x) (hr : RoomG j X.A) (tk : Takes X Wd)
    (hb : ∀ (D : Addr) (doc pm : Value) (an : Option Addr) (cdv ct : Value) (pre us ws mv : List Value), pre.length = 1 → us.length = n → ws.length = ks.length → mv.length = lack.length →
      KwChain D ((lack.map (·.1)).zip mv) (bindArgs (PySem.W.fnOf "__init__" q (defArgs st) (defBody st) (defScope st) .none (.ref D) doc pm an cdv ct) ⟨pre ++ us, ks.zip ws⟩) (ps.zip (pre ++ pick is (us ++ ws ++ mv))))
    (hes : Ess X es ms) (ha : PA X es (tA X.K Ga pin Wd ms)) (hkw : PK X kws (tA X.K Ga pin Wd mk)) (hd0 : dfs ≠ [] := by exact List.cons_ne_nil _ _) (hlk : ∀ q ∈ lack, q ∈ dfs := by simp) (hdw : ∀ ph, dws.map (vW ph) = lack.map (·.2) := by intro _; rfl) (hdf : ∀ w ∈ dws, ∀ n, wf n w := by simp [wf]) (hn : ks.length = m := by rfl) (hk : k + 1 ≤ j := by decide) (hg : Gl X x := by rfl)
    (hdb : (x == ("__debug__" : Str)) = false := by decide) (hall : (backToKw pos (keywordEach kws X.env)).all (·.1.isSome) = true := by rfl) (hks : (backToKw pos (keywordEach kws X.env)).filterMap (·.1) = ks := by rfl)
    (hpl : ((backTo pos (starEach es X.env)).any (·.1) || (backToKw pos (keywordEach kws X.env)).any (·.1.isNone)) = false := by rfl) : PE X (.Call (.Name x p) es kws pos) (tE X.K Ga pin Wd (eMakeN ci mf is dws n m ms mk)) := by
  obtain ⟨f, fd, h1, h0, F, M⟩ := D.ex
  obtain ⟨mv, rv, kb⟩ := kbf_ofD lack F hd0 hlk hb
  exact e_makeN ⟨C.made, h1, h0, C.kp⟩ C.cx M (hr.mono hk) hg C.g kb ⟨fun ph => by rw [hdw ph]; exact rv, hdf⟩ tk ha hkw hes hn hall hks hdb hpl
end
end Br
set_option Elab.async false
set_option autoImplicit false
set_option linter.all false
set_option maxRecDepth 100000
/-! Rules for Mini's runs: what holds behind a run. Plain Lean. -/
namespace Mini
open PySem (Str PyData)
section
variable {α β : Type}
abbrev XQ := Nat → Option Nat → MH → Prop
abbrev XS := Nat → Option Nat → Env → MH → Prop
def R.wq (r : R α) (Q : α → MH → Prop) (X : XQ) : Prop := match r with
  | .ok a h => Q a h
  | .exc c d h => X c d h
  | .bad => False
def RS.wq (r : RS) (Q : Fl → Env → MH → Prop) (X : XS) : Prop := match r with
  | .ok f r h => Q f r h
  | .exc c d r h => X c d r h
  | .bad => False
/-- the same, closed: no unfolding passes it -/
structure R.wp (r : R α) (Q : α → MH → Prop) (X : XQ) : Prop where
  run : r.wq Q X
structure RS.wp (r : RS) (Q : Fl → Env → MH → Prop) (X : XS) : Prop where
  run : r.wq Q X
theorem R.wp_eq (r : R α) (Q : α → MH → Prop) (X : XQ) : r.wp Q X = r.wq Q X := propext ⟨fun x => x.run, fun x => ⟨x⟩⟩
theorem RS.wp_eq (r : RS) (Q : Fl → Env → MH → Prop) (X : XS) : r.wp Q X = r.wq Q X := propext ⟨fun x => x.run, fun x => ⟨x⟩⟩
variable {Q : α → MH → Prop} {X : XQ} {QS : Fl → Env → MH → Prop} {XX : XS} {r : Env} {h : MH}
@[simp] theorem wp_ok (a : α) : (R.ok a h).wp Q X = Q a h := by simp only [R.wp_eq, RS.wp_eq]; rfl
@[simp] theorem wp_exc (c : Nat) (d : Option Nat) : (R.exc c d h : R α).wp Q X = X c d h := by simp only [R.wp_eq, RS.wp_eq]; rfl
@[simp] theorem wp_bad : (R.bad : R α).wp Q X = False := by simp only [R.wp_eq, RS.wp_eq]; rfl
@[simp] theorem wp_bind {Q : β → MH → Prop} (x : R α) (f : α → MH → R β) : (x.bind f).wp Q X = x.wp (fun a h => (f a h).wp Q X) X := by simp only [R.wp_eq, RS.wp_eq]; cases x <;> rfl
theorem R.wp.imp {x : R α} {Q' : α → MH → Prop} {X' : XQ} (q : x.wp Q X) (hq : ∀ a h, Q a h → Q' a h) (hx : ∀ c d h, X c d h → X' c d h) : x.wp Q' X' := by
  rw [R.wp_eq] at *
  cases x with
  | ok a h => exact hq a h q
  | exc c d h => exact hx c d h q
  | bad => exact q
theorem RS.wp.imp {x : RS} {Q' : Fl → Env → MH → Prop} {X' : XS} (q : x.wp QS XX) (hq : ∀ f r h, QS f r h → Q' f r h) (hx : ∀ c d r h, XX c d r h → X' c d r h) : x.wp Q' X' := by
  rw [RS.wp_eq] at *
  cases x with
  | ok a r h => exact hq a r h q
  | exc c d r h => exact hx c d r h q
  | bad => exact q
theorem R.wp.toOk {x : R α} (q : x.wp Q (fun _ _ _ => False)) : ∃ a h, x = .ok a h ∧ Q a h := by
  rw [R.wp_eq] at q
  cases x with
  | ok a h => exact ⟨a, h, rfl, q⟩
  | exc c d h => exact q.elim
  | bad => exact q.elim
theorem wp_of_eq {x : R α} {a : α} (e : x = .ok a h) (q : Q a h) : x.wp Q X := by simp only [R.wp_eq, RS.wp_eq]; rw [e]; exact q
@[simp] theorem wp_ite {c : Prop} [Decidable c] {x y : R α} : (if c then x else y).wp Q X = if c then x.wp Q X else y.wp Q X := by simp only [R.wp_eq, RS.wp_eq]; split <;> rfl
/-! statements -/
@[simp] theorem ws_ok (f : Fl) : (RS.ok f r h).wp QS XX = QS f r h := by simp only [R.wp_eq, RS.wp_eq]; rfl
@[simp] theorem ws_exc (c : Nat) (d : Option Nat) : (RS.exc c d r h).wp QS XX = XX c d r h := by simp only [R.wp_eq, RS.wp_eq]; rfl
@[simp] theorem ws_bad : (RS.bad).wp QS XX = False := by simp only [R.wp_eq, RS.wp_eq]; rfl
@[simp] theorem ws_nx : (sNx r h).wp QS XX = QS .nx r h := by simp only [R.wp_eq, RS.wp_eq]; rfl
@[simp] theorem ws_brk : (sBrk r h).wp QS XX = QS .bk r h := by simp only [R.wp_eq, RS.wp_eq]; rfl
@[simp] theorem ws_cnt : (sCnt r h).wp QS XX = QS .ct r h := by simp only [R.wp_eq, RS.wp_eq]; rfl
/-- on behind a statement -/
def thenS (k : Env → MH → Prop) (Q : Fl → Env → MH → Prop) : Fl → Env → MH → Prop
  | .nx, r, h => k r h
  | f, r, h => Q f r h
@[simp] theorem thenS_nx (k : Env → MH → Prop) : thenS k QS .nx r h = k r h := (rfl)
@[simp] theorem thenS_rt (k : Env → MH → Prop) (w : W) : thenS k QS (.rt w) r h = QS (.rt w) r h := (rfl)
@[simp] theorem thenS_bk (k : Env → MH → Prop) : thenS k QS .bk r h = QS .bk r h := (rfl)
@[simp] theorem thenS_ct (k : Env → MH → Prop) : thenS k QS .ct r h = QS .ct r h := (rfl)
@[simp] theorem ws_seq (a b : S) : (sSeq a b r h).wp QS XX = (a r h).wp (thenS (fun r1 h1 => (b r1 h1).wp QS XX) QS) XX := by
  simp only [R.wp_eq, RS.wp_eq]
  unfold sSeq
  cases a r h with
  | ok f r h => cases f <;> rfl
  | exc c d r h => rfl
  | bad => rfl
@[simp] theorem ws_expr (e : E) : (sExpr e r h).wp QS XX = (e r h).wp (fun _ h1 => QS .nx r h1) (fun c d h1 => XX c d r h1) := by simp only [R.wp_eq, RS.wp_eq]; unfold sExpr; cases e r h <;> rfl
@[simp] theorem ws_ret (e : E) : (sRet e r h).wp QS XX = (e r h).wp (fun w h1 => QS (.rt w) r h1) (fun c d h1 => XX c d r h1) := by simp only [R.wp_eq, RS.wp_eq]; unfold sRet; cases e r h <;> rfl
@[simp] theorem ws_if (t : T) (a b : S) : (sIf t a b r h).wp QS XX = (t r h).wp (fun c h1 => if c = true then (a r h1).wp QS XX else (b r h1).wp QS XX) (fun c d h1 => XX c d r h1) := by
  simp only [R.wp_eq, RS.wp_eq]
  unfold sIf
  cases t r h with
  | ok c h1 => cases c <;> rfl
  | exc c d h => rfl
  | bad => rfl
@[simp] theorem ws_asg (e : E) (g : G) : (sAsg e g r h).wp QS XX = (e r h).wp (fun w h1 => (g w r h1).wp (fun r1 h2 => QS .nx r1 h2) (fun _ _ _ => False)) (fun c d h1 => XX c d r h1) := by
  simp only [R.wp_eq, RS.wp_eq]
  unfold sAsg
  cases e r h with
  | ok w h1 => show RS.wq (match g w r h1 with | .ok r1 h2 => RS.ok .nx r1 h2 | _ => .bad) _ _ = (g w r h1).wq _ _; cases g w r h1 <;> rfl
  | exc c d h => rfl
  | bad => rfl
@[simp] theorem ws_set (i : Nat) (e : E) : (sSet i e r h).wp QS XX = (e r h).wp (fun w h1 => QS .nx (r.set i (some w)) h1) (fun c d h1 => XX c d r h1) := by
  unfold sSet
  rw [ws_asg]
  simp only [R.wp_eq]
  rfl
@[simp] theorem ws_par (is : List Nat) (a : A) : (sPar is a r h).wp QS XX = (a r h).wp (fun ws h1 => match setAll is ws r with | some r1 => QS .nx r1 h1 | none => False) (fun c d h1 => XX c d r h1) := by
  simp only [R.wp_eq, RS.wp_eq]
  unfold sPar
  cases a r h with
  | ok ws h1 => simp only [R.wq]; cases setAll is ws r <;> rfl
  | exc c d h => rfl
  | bad => rfl
@[simp] theorem ws_asg2 (e : E) (i j : Nat) : (sAsg2 e i j r h).wp QS XX = (e r h).wp (fun w h1 => QS .nx ((r.set i (some w)).set j (some w)) h1) (fun c d h1 => XX c d r h1) := by simp only [R.wp_eq, RS.wp_eq]; unfold sAsg2; cases e r h <;> rfl
@[simp] theorem ws_aug {i : Nat} {g : W → W → MH → R W} {e : E} : (sAug i g e r h).wp QS XX = match r[i]? with | some (some x) => (e r h).wp (fun y h1 => (g x y h1).wp (fun z h2 => QS .nx (r.set i (some z)) h2) (fun _ _ _ => False)) (fun c d h1 => XX c d r h1) | _ => False := by
  simp only [R.wp_eq, RS.wp_eq]
  unfold sAug
  cases r[i]? with
  | none => rfl
  | some o => cases o with
    | none => rfl
    | some x =>
      simp only []
      cases e r h with
      | ok y h1 => simp only [R.wq]; cases g x y h1 <;> rfl
      | exc c d h => rfl
      | bad => rfl
@[simp] theorem ws_dput (d k e : E) : (sDput d k e r h).wp QS XX = (e r h).wp (fun w h1 => (d r h1).wp (fun x h2 => (k r h2).wp (fun y h3 => (dput w x y h3).wp (fun _ h4 => QS .nx r h4) (fun c d h1 => XX c d r h1)) (fun c d h1 => XX c d r h1)) (fun c d h1 => XX c d r h1)) (fun c d h1 => XX c d r h1) := by
  have key : ∀ x : R Unit, (match x with | .ok _ h1 => RS.ok .nx r h1 | .exc c d h1 => RS.exc c d r h1 | .bad => RS.bad).wp QS XX = x.wp (fun _ h4 => QS .nx r h4) (fun c d h1 => XX c d r h1) := fun x => by rw [RS.wp_eq, R.wp_eq]; cases x <;> rfl
  unfold sDput
  refine (key _).trans ?_
  simp only [wp_bind]
@[simp] theorem ws_raise (c : Nat) (f : Str) (e : E) : (sRaise c f e r h).wp QS XX = (e r h).wp (fun w h1 => XX c (some h1.length) r (h1 ++ [.xd [(f, w)]])) (fun c d h1 => XX c d r h1) := by simp only [R.wp_eq, RS.wp_eq]; unfold sRaise; cases e r h <;> rfl
@[simp] theorem ws_try (n len : Nat) (b : S) (hs : List Hd) : (sTry n len b hs r h).wp QS XX = (b r h).wp QS (fun c d r1 h1 => r1.length = len ∧ (hRun n c d hs r1 h1).wp QS XX) := by
  simp only [R.wp_eq, RS.wp_eq]
  unfold sTry
  cases b r h with
  | ok f r h => rfl
  | exc c d r1 h1 =>
    show RS.wq (if r1.length = len then _ else _) _ _ = (r1.length = len ∧ _)
    by_cases e : r1.length = len
    · rw [if_pos e]; simp [e, RS.wq]
    · rw [if_neg e]; simp [e, RS.wq]
  | bad => rfl
@[simp] theorem ws_hEnd (i : Option Nat) (x : RS) : (hEnd i x).wp QS XX = x.wp (fun f r h => QS f (noSlot i r) h) (fun _ _ _ _ => False) := by simp only [R.wp_eq, RS.wp_eq]; cases x <;> rfl
/-- a def's end -/
def retS (Q : W → MH → Prop) : Fl → Env → MH → Prop
  | .rt w, _, h => Q w h
  | .nx, _, h => Q .non h
  | _, _, _ => False
@[simp] theorem retS_rt {Q : W → MH → Prop} (w : W) : retS Q (.rt w) r h = Q w h := (rfl)
@[simp] theorem retS_nx {Q : W → MH → Prop} : retS Q .nx r h = Q .non h := (rfl)
theorem wp_fn {Q : W → MH → Prop} {n p : Nat} {b : S} {ws : List W} (hp : ws.length = p := by rfl) : (fnOf n p b ws h).wp Q X = (b (begin_ n ws) h).wp (retS Q) (fun c d _ h1 => X c d h1) := by
  simp only [R.wp_eq, RS.wp_eq]
  unfold fnOf
  rw [if_pos hp]
  cases b (begin_ n ws) h with
  | ok f r h => cases f <;> rfl
  | exc c d r h => rfl
  | bad => rfl
/-! ### loops -/
/-- the end of one turn: on, or out -/
def turnS (k : Env → MH → Prop) (Q : Fl → Env → MH → Prop) : Fl → Env → MH → Prop
  | .nx, r, h => k r h
  | .ct, r, h => k r h
  | .bk, r, h => Q .nx r h
  | .rt w, r, h => Q (.rt w) r h
@[simp] theorem turnS_nx (k : Env → MH → Prop) : turnS k QS .nx r h = k r h := (rfl)
@[simp] theorem turnS_ct (k : Env → MH → Prop) : turnS k QS .ct r h = k r h := (rfl)
@[simp] theorem turnS_bk (k : Env → MH → Prop) : turnS k QS .bk r h = QS .nx r h := (rfl)
@[simp] theorem turnS_rt (k : Env → MH → Prop) (w : W) : turnS k QS (.rt w) r h = QS (.rt w) r h := (rfl)
theorem wqs_while {t : T} {b : S} (I : Nat → Env → MH → Prop) (hI : ∀ v r h, I v r h → (t r h).wq (fun c h1 => if c = true then (b r h1).wq (turnS (fun r2 h2 => ∃ v', v' < v ∧ I v' r2 h2) QS) XX else QS .nx r h1) (fun c d h1 => XX c d r h1)) :
    ∀ n v r h, I v r h → v < n → (sWhile t b n r h).wq QS XX := by
  intro n
  induction n with
  | zero => intro v r h _ hv; exact absurd hv (Nat.not_lt_zero _)
  | succ n ih =>
    intro v r h i hv
    have q := hI v r h i
    unfold sWhile
    cases e : t r h with
    | ok c h1 =>
      rw [e] at q
      cases c with
      | false => exact q
      | true =>
        have q2 : (b r h1).wq (turnS (fun r2 h2 => ∃ v', v' < v ∧ I v' r2 h2) QS) XX := q
        show RS.wq (match b r h1 with | .ok .nx r2 h2 => sWhile t b n r2 h2 | .ok .ct r2 h2 => sWhile t b n r2 h2 | .ok .bk r2 h2 => .ok .nx r2 h2 | x => x) _ _
        cases e2 : b r h1 with
        | ok f r2 h2 =>
          rw [e2] at q2
          cases f with
          | nx => obtain ⟨v', l, i'⟩ := q2; exact ih v' r2 h2 i' (by omega)
          | ct => obtain ⟨v', l, i'⟩ := q2; exact ih v' r2 h2 i' (by omega)
          | bk => exact q2
          | rt w => exact q2
        | exc c d r2 h2 => rw [e2] at q2; exact q2
        | bad => rw [e2] at q2; exact q2
    | exc c d h1 => rw [e] at q; exact q
    | bad => rw [e] at q; exact q
/-- turns over known items -/
theorem wqs_turns {src : Src} {g : G} {b : S} (xs : List W) (I : Nat → Env → MH → Prop) (hat : ∀ i r h, I i r h → src.at i h = some xs[i]?)
    (hb : ∀ i x r h, xs[i]? = some x → I i r h → (g x r h).wq (fun r1 h1 => (b r1 h1).wq (turnS (fun r2 h2 => I (i + 1) r2 h2) QS) XX) (fun _ _ _ => False)) (hend : ∀ r h, I xs.length r h → QS .nx r h) :
    ∀ k i r h, I i r h → i ≤ xs.length → xs.length < k + i → (sTurns src g b k i r h).wq QS XX := by
  intro k
  induction k with
  | zero => intro i r h _ h1 h2; omega
  | succ k ih =>
    intro i r h hi hl hk
    unfold sTurns
    rw [hat i r h hi]
    cases e : xs[i]? with
    | none =>
      have : i = xs.length := by
        have := List.getElem?_eq_none_iff.mp e
        omega
      subst this
      exact hend r h hi
    | some x =>
      have q := hb i x r h e hi
      have hlt : i < xs.length := (List.getElem?_eq_some_iff.mp e).1
      show RS.wq (match g x r h with | .ok r1 h1 => _ | _ => _) _ _
      cases e1 : g x r h with
      | ok r1 h1 =>
        rw [e1] at q
        have q2 : (b r1 h1).wq _ _ := q
        show RS.wq (match b r1 h1 with | .ok .nx r2 h2 => sTurns src g b k (i + 1) r2 h2 | .ok .ct r2 h2 => sTurns src g b k (i + 1) r2 h2 | .ok .bk r2 h2 => .ok .nx r2 h2 | x => x) _ _
        cases e2 : b r1 h1 with
        | ok f r2 h2 =>
          rw [e2] at q2
          cases f with
          | nx => exact ih (i + 1) r2 h2 q2 hlt (by omega)
          | ct => exact ih (i + 1) r2 h2 q2 hlt (by omega)
          | bk => exact q2
          | rt w => exact q2
        | exc c d r2 h2 => rw [e2] at q2; exact q2
        | bad => rw [e2] at q2; exact q2
      | exc c d h1 => rw [e1] at q; exact q
      | bad => rw [e1] at q; exact q
theorem ws_while {t : T} {b : S} (I : Nat → Env → MH → Prop) (hI : ∀ v r h, I v r h → (t r h).wp (fun c h1 => if c = true then (b r h1).wp (turnS (fun r2 h2 => ∃ v', v' < v ∧ I v' r2 h2) QS) XX else QS .nx r h1) (fun c d h1 => XX c d r h1))
    (n v : Nat) (r : Env) (h : MH) (i : I v r h) (hv : v < n) : (sWhile t b n r h).wp QS XX := by
  rw [RS.wp_eq]
  refine wqs_while I (fun v r h i => ?_) n v r h i hv
  have q := hI v r h i
  simp only [R.wp_eq, RS.wp_eq] at q
  exact q
theorem ws_turns {src : Src} {g : G} {b : S} (xs : List W) (I : Nat → Env → MH → Prop) (hat : ∀ i r h, I i r h → src.at i h = some xs[i]?)
    (hb : ∀ i x r h, xs[i]? = some x → I i r h → (g x r h).wp (fun r1 h1 => (b r1 h1).wp (turnS (fun r2 h2 => I (i + 1) r2 h2) QS) XX) (fun _ _ _ => False)) (hend : ∀ r h, I xs.length r h → QS .nx r h)
    (k i : Nat) (r : Env) (h : MH) (hi : I i r h) (hl : i ≤ xs.length) (hk : xs.length < k + i) : (sTurns src g b k i r h).wp QS XX := by
  rw [RS.wp_eq]
  refine wqs_turns xs I hat (fun i x r h e q => ?_) hend k i r h hi hl hk
  have q := hb i x r h e q
  simp only [R.wp_eq, RS.wp_eq] at q
  exact q
theorem ws_for {it : I} {g : G} {b : S} : (sFor it g b r h).wp QS XX = (it r h).wp (fun q h1 => (sTurns q.1 g b q.2 0 r h1).wp QS XX) (fun c d h1 => XX c d r h1) := by
  simp only [R.wp_eq, RS.wp_eq]
  unfold sFor
  cases it r h with
  | ok q h1 => rfl
  | exc c d h => rfl
  | bad => rfl
/-- the turns of a range -/
theorem ws_rng {g : G} {b : S} {lo : Int} {n : Nat} (I : Nat → Env → MH → Prop) (h0 : I 0 r h)
    (hb : ∀ i r h, i < n → I i r h → (g (.int (lo + i)) r h).wp (fun r1 h1 => (b r1 h1).wp (turnS (fun r2 h2 => I (i + 1) r2 h2) QS) XX) (fun _ _ _ => False)) (hend : ∀ r h, I n r h → QS .nx r h) :
    (sTurns (.rng lo n) g b (n + 1) 0 r h).wp QS XX := by
  have hl : ((List.range n).map fun (i : Nat) => W.int (lo + i)).length = n := by simp
  refine ws_turns ((List.range n).map fun (i : Nat) => W.int (lo + i)) I (fun i r h _ => ?_) (fun i x r h e q => ?_) (fun r h q => hend r h (by rw [hl] at q; exact q)) _ _ _ _ h0 (Nat.zero_le _) (by rw [hl]; omega)
  · show some (if i < n then _ else _) = _
    by_cases c : i < n
    · simp [c]
    · simp [c]
  · simp only [List.getElem?_map, List.getElem?_range] at e
    by_cases c : i < n
    · simp [List.getElem?_range, c] at e
      rw [← e]
      exact hb i r h c q
    · simp [List.getElem?_range, c] at e
end
end Mini
/-! ### for simp -/
namespace Mini
open PySem (Str PyData)
section
variable {h : MH} {i j : Int} {x y : W} {Q : W → MH → Prop} {X : XQ} {r : Env} {n m : Nat} {xs : List W} {s t : Str} {b c : Bool}
@[simp] theorem o_add : gAdd (.int i) (.int j) h = .ok (.int (i + j)) h := (rfl)
@[simp] theorem o_sub : gSub (.int i) (.int j) h = .ok (.int (i - j)) h := (rfl)
@[simp] theorem o_mul : (gMul (.int i) (.int j) h).wp Q X = (mulOk i j = true ∧ Q (.int (i * j)) h) := by
  simp only [R.wp_eq]
  show R.wq (if mulOk i j = true then _ else _) _ _ = _
  by_cases c : mulOk i j = true <;> simp [c, R.wq]
@[simp] theorem o_div : (gDiv (.int i) (.int j) h).wp Q X = (divOk i j = true ∧ Q (.int (i / j)) h) := by
  simp only [R.wp_eq]
  show R.wq (if divOk i j = true then _ else _) _ _ = _
  by_cases c : divOk i j = true <;> simp [c, R.wq]
@[simp] theorem o_mod : (gMod (.int i) (.int j) h).wp Q X = (0 < j ∧ Q (.int (i % j)) h) := by
  simp only [R.wp_eq]
  show R.wq (if modOk i j = true then _ else _) _ _ = _
  by_cases c : modOk i j = true
  · have c' : 0 < j := of_decide_eq_true c
    simp [c, c', R.wq]
  · have c' : ¬ 0 < j := fun z => c (decide_eq_true z)
    simp [c, c', R.wq]
@[simp] theorem o_pow : (gPow (.int i) (.int j) h).wp Q X = (powOk i j = true ∧ Q (.int (i ^ j.toNat)) h) := by
  simp only [R.wp_eq]
  show R.wq (if powOk i j = true then _ else _) _ _ = _
  by_cases c : powOk i j = true <;> simp [c, R.wq]
@[simp] theorem o_lt : gLt (.int i) (.int j) h = .ok (.bl (decide (i < j))) h := (rfl)
@[simp] theorem o_le : gLe (.int i) (.int j) h = .ok (.bl (decide (i ≤ j))) h := (rfl)
@[simp] theorem o_gt : gGt (.int i) (.int j) h = .ok (.bl (decide (j < i))) h := (rfl)
@[simp] theorem o_ge : gGe (.int i) (.int j) h = .ok (.bl (decide (j ≤ i))) h := (rfl)
@[simp] theorem o_neg : gNeg (.int i) h = .ok (.int (-i)) h := (rfl)
@[simp] theorem o_intOp (f : Int → Int → Int) : intOp f (.int i) (.int j) h = .ok (.int (f i j)) h := (rfl)
@[simp] theorem o_abs : fAbs [.int i] h = .ok (.int (if i < 0 then -i else i)) h := (rfl)
@[simp] theorem o_int : fInt [.int i] h = .ok (.int i) h := (rfl)
@[simp] theorem o_max : fMax2 [.int i, .int j] h = .ok (.int (if j > i then j else i)) h := (rfl)
@[simp] theorem o_min : fMin2 [.int i, .int j] h = .ok (.int (if j < i then j else i)) h := (rfl)
@[simp] theorem o_eqI : gEq (.int i) (.int j) h = .ok (.bl (decide (i = j))) h := by unfold gEq eqB; simp [scl]
@[simp] theorem o_neI : gNe (.int i) (.int j) h = .ok (.bl (!decide (i = j))) h := by unfold gNe eqB; simp [scl]
@[simp] theorem o_eqB : gEq (.bl b) (.bl c) h = .ok (.bl (decide (b = c))) h := by unfold gEq eqB; simp [scl]
@[simp] theorem o_neB : gNe (.bl b) (.bl c) h = .ok (.bl (!decide (b = c))) h := by unfold gNe eqB; simp [scl]
@[simp] theorem o_eqS : gEq (.str s) (.str t) h = .ok (.bl (decide (s = t))) h := by unfold gEq eqB; simp [scl]
@[simp] theorem o_neS : gNe (.str s) (.str t) h = .ok (.bl (!decide (s = t))) h := by unfold gNe eqB; simp [scl]
@[simp] theorem o_isN : gIsN x .non h = .ok (.bl (decide (x = .non))) h := (rfl)
@[simp] theorem o_notN : gNotN x .non h = .ok (.bl (!decide (x = .non))) h := (rfl)
@[simp] theorem tru_bl : tru (.bl b) h = some b := (rfl)
@[simp] theorem tru_int : tru (.int i) h = some (i != 0) := (rfl)
@[simp] theorem tru_non : tru .non h = some false := (rfl)
theorem seq_lst (e : h[n]? = some (.lst xs)) : seqAt h n = some xs := by unfold seqAt; rw [e]
theorem seq_tup (e : h[n]? = some (.tup xs)) : seqAt h n = some xs := by unfold seqAt; rw [e]
theorem seq_fz (e : h[n]? = some (.fz xs)) : seqAt h n = some xs := by unfold seqAt; rw [e]
theorem seq_cl (e : h[n]? = some (.cl xs)) : seqAt h n = some xs := by unfold seqAt; rw [e]
theorem seq_ct (e : h[n]? = some (.ct xs)) : seqAt h n = some xs := by unfold seqAt; rw [e]
/-- an item -/
def itemAt (xs : List W) (i : Int) (P : W → Prop) : Prop := match (ixOf xs.length i).bind fun j => xs[j]? with
  | some w => P w
  | none => False
theorem o_ix (e : seqAt h n = some xs) : (gIx (.ref n) (.int i) h).wp Q X = itemAt xs i (fun w => Q w h) := by
  simp only [R.wp_eq]
  show R.wq (match seqAt h n with | some xs => _ | none => _) _ _ = _
  rw [e]
  unfold itemAt
  simp only [R.wp_eq]
  show R.wq (match (ixOf xs.length i).bind fun j => xs[j]? with | some w => R.ok w h | none => .bad) _ _ = _
  cases (ixOf xs.length i).bind fun j => xs[j]? <;> rfl
theorem item_nn {P : W → Prop} (k : Nat) {w : W} (e : xs[k]? = some w) : itemAt xs (k : Int) P = P w := by
  have hk : k < xs.length := (List.getElem?_eq_some_iff.mp e).1
  unfold itemAt ixOf
  rw [if_pos (by omega)]
  rw [if_pos (by omega)]
  show (match xs[((k : Int)).toNat]? with | some w => P w | none => False) = _
  rw [Int.toNat_natCast, e]
@[simp] theorem item0 {P : W → Prop} : itemAt (x :: xs) 0 P = P x := item_nn 0 rfl
@[simp] theorem item1 {a0 : W} {P : W → Prop} : itemAt (a0 :: x :: xs) 1 P = P x := item_nn 1 rfl
@[simp] theorem item2 {a0 a1 : W} {P : W → Prop} : itemAt (a0 :: a1 :: x :: xs) 2 P = P x := item_nn 2 rfl
@[simp] theorem item3 {a0 a1 a2 : W} {P : W → Prop} : itemAt (a0 :: a1 :: a2 :: x :: xs) 3 P = P x := item_nn 3 rfl
@[simp] theorem item4 {a0 a1 a2 a3 : W} {P : W → Prop} : itemAt (a0 :: a1 :: a2 :: a3 :: x :: xs) 4 P = P x := item_nn 4 rfl
@[simp] theorem item5 {a0 a1 a2 a3 a4 : W} {P : W → Prop} : itemAt (a0 :: a1 :: a2 :: a3 :: a4 :: x :: xs) 5 P = P x := item_nn 5 rfl
/-- any item: each holds -/
theorem item_all {P : W → Prop} {i : Int} (h0 : 0 ≤ i) (h1 : i < xs.length) (hp : ∀ (k : Nat) (w : W), xs[k]? = some w → (k : Int) = i → P w) : itemAt xs i P := by
  have hk : i.toNat < xs.length := by omega
  have e : xs[i.toNat]? = some xs[i.toNat] := by simp [hk]
  have z := item_nn (P := P) i.toNat e
  rw [Int.toNat_of_nonneg h0] at z
  rw [z]
  exact hp _ _ e (Int.toNat_of_nonneg h0)
@[simp] theorem o_tup {a : A} : (eTup a r h).wp Q X = (a r h).wp (fun xs h1 => xs.length ≤ 1000 ∧ Q (.ref h1.length) (h1 ++ [.tup xs])) X := by
  unfold eTup
  rw [wp_bind]
  congr; funext xs h1
  by_cases c : xs.length ≤ 1000 <;> simp [c]
@[simp] theorem o_lst {a : A} : (eLst a r h).wp Q X = (a r h).wp (fun xs h1 => xs.length ≤ 1000 ∧ Q (.ref h1.length) (h1 ++ [.lst xs])) X := by
  unfold eLst
  rw [wp_bind]
  congr; funext xs h1
  by_cases c : xs.length ≤ 1000 <;> simp [c]
@[simp] theorem o_dic0 : (eDic0 r h).wp Q X = Q (.ref h.length) (h ++ [.dic []]) := by rw [R.wp_eq]; rfl
theorem o_put {w : W} {R' : Env → MH → Prop} (e : h[n]? = some (.lst xs)) (h0 : 0 ≤ i) (hk : i < xs.length) : (putL w r (.ref n) (.int i) h).wp R' X = R' r (h.set n (.lst (xs.set i.toNat w))) := by
  simp only [R.wp_eq]
  show R.wq (match h[n]? with | some (.lst xs) => _ | _ => _) _ _ = _
  rw [e]
  simp only [R.wp_eq]
  show R.wq (match ixOf xs.length i with | some j => R.ok r (h.set n (.lst (xs.set j w))) | none => .bad) _ _ = _
  unfold ixOf
  rw [if_pos h0, if_pos hk]
  rfl
@[simp] theorem o_subL {w : W} {o i : E} {R' : Env → MH → Prop} : (gSubL o i w r h).wp R' X = (o r h).wp (fun x h1 => (i r h1).wp (fun y h2 => (putL w r x y h2).wp R' X) X) X := by
  unfold gSubL
  rw [wp_bind]
  congr; funext x h1
  rw [wp_bind]
theorem o_untup {gs : List G} {R' : Env → MH → Prop} (e : h[n]? = some (.tup xs)) : (gTupT gs (.ref n) r h).wp R' X = (gAll gs xs r h).wp R' X := by unfold gTupT; simp only [e]
theorem o_untupC {gs : List G} {R' : Env → MH → Prop} (e : h[n]? = some (.ct xs)) : (gTupT gs (.ref n) r h).wp R' X = (gAll gs xs r h).wp R' X := by unfold gTupT; simp only [e]
@[simp] theorem o_untupN {gs : List G} {R' : Env → MH → Prop} : (gTupT gs (.ref h.length) r (h ++ [.tup xs])).wp R' X = (gAll gs xs r (h ++ [.tup xs])).wp R' X := o_untup (by simp)
@[simp] theorem o_ixN : (gIx (.ref h.length) (.int i) (h ++ [.lst xs])).wp Q X = itemAt xs i (fun w => Q w (h ++ [.lst xs])) := o_ix (seq_lst (by simp))
theorem ite_and {a b P R : Prop} [Decidable a] [Decidable b] (h : ¬(a ∧ b)) : (if a then (if b then P else R) else R) = R := by
  by_cases ha : a
  · rw [if_pos ha, if_neg (fun z => h ⟨ha, z⟩)]
  · rw [if_neg ha]
theorem o_len (e : seqAt h n = some xs) : fLen [.ref n] h = .ok (.int xs.length) h := by unfold fLen; simp only [e]
theorem o_list (e : seqAt h n = some xs) : fList [.ref n] h = .ok (.ref h.length) (h ++ [.lst xs]) := by unfold fList; simp only [e]
theorem o_rng1 {e : E} {R' : Src × Nat → MH → Prop} : (iRng1 e r h).wp R' X = (e r h).wp (fun w h1 => match w with | .int n => rOk n = true ∧ R' (.rng 0 n.toNat, n.toNat + 1) h1 | _ => False) X := by
  unfold iRng1
  rw [wp_bind]
  congr; funext w h1
  cases w with
  | int n => by_cases c : rOk n = true <;> simp [c]
  | _ => simp
theorem o_rng2 {e f : E} {R' : Src × Nat → MH → Prop} : (iRng2 e f r h).wp R' X = (e r h).wp (fun x h1 => (f r h1).wp (fun y h2 => match x, y with | .int i, .int j => (rOk i = true ∧ rOk j = true) ∧ R' (.rng i (j - i).toNat, (j - i).toNat + 1) h2 | _, _ => False) X) X := by
  unfold iRng2
  rw [wp_bind]
  congr; funext w h1
  rw [wp_bind]
  congr; funext y h2
  cases w <;> cases y <;> first | (rename_i i j; by_cases c : rOk i = true ∧ rOk j = true <;> simp [c]; done) | simp
/-- kinds -/
@[simp] theorem k_non (t : Ty) : gIsi t .non h = .ok (.bl false) h := by cases t <;> rfl
@[simp] theorem k_int (t : Ty) : gIsi t (.int i) h = .ok (.bl (decide (t = .tInt))) h := by cases t <;> rfl
@[simp] theorem k_bl (t : Ty) : gIsi t (.bl b) h = .ok (.bl (decide (t = .tBool) || decide (t = .tInt))) h := by cases t <;> rfl
@[simp] theorem k_str (t : Ty) : gIsi t (.str s) h = .ok (.bl (decide (t = .tStr))) h := by cases t <;> rfl
theorem k_lst (t : Ty) (e : h[n]? = some (.lst xs)) : gIsi t (.ref n) h = .ok (.bl (decide (t = .tList))) h := by unfold gIsi known kindOf isTy; simp only [e]; cases t <;> rfl
theorem k_tup (t : Ty) (e : h[n]? = some (.tup xs)) : gIsi t (.ref n) h = .ok (.bl (decide (t = .tTuple))) h := by unfold gIsi known kindOf isTy; simp only [e]; cases t <;> rfl
theorem k_dic (t : Ty) {kvs : List (Sum Int Str × W)} (e : h[n]? = some (.dic kvs)) : gIsi t (.ref n) h = .ok (.bl (decide (t = .tDict))) h := by unfold gIsi known kindOf isTy; simp only [e]; cases t <;> rfl
theorem mul_ok (hi : i.natAbs < two64) : mulOk i j = true := by simp [mulOk, hi]
theorem mul_ok2 (hj : j.natAbs < two64) : mulOk i j = true := by simp [mulOk, hj]
theorem div_ok (h0 : 0 < j) (h1 : j.natAbs < 2 ^ 9000) : divOk i j = true := by
  unfold divOk
  have : j.natAbs.log2 < 9000 := by
    rw [Nat.log2_lt (by omega)]
    exact h1
  simp [h0, this]
theorem pow_ok (h0 : 0 ≤ j) (h1 : j ≤ 1000000) (h2 : i.natAbs < two64) : powOk i j = true := by simp [powOk, h0, h1, h2]
theorem set_at' {h : MH} {b : Nat} {c : Cell} (e : b < h.length) : (h.set b c)[b]? = some c := by rw [List.getElem?_set_self e]
end
/-- what stands in a cell stays: all but b -/
def Ch (b : Nat) (h h' : MH) : Prop := h.length ≤ h'.length ∧ ∀ i, i < h.length → i ≠ b → h'[i]? = h[i]?
/-- all stays -/
def Old (h h' : MH) : Prop := h.length ≤ h'.length ∧ ∀ i, i < h.length → h'[i]? = h[i]?
theorem Old.refl (h : MH) : Old h h := ⟨Nat.le_refl _, fun _ _ => rfl⟩
theorem Ch.refl (b : Nat) (h : MH) : Ch b h h := ⟨Nat.le_refl _, fun _ _ _ => rfl⟩
theorem Old.trans {a b c : MH} (x : Old a b) (y : Old b c) : Old a c := ⟨Nat.le_trans x.1 y.1, fun i hi => (y.2 i (Nat.lt_of_lt_of_le hi x.1)).trans (x.2 i hi)⟩
theorem Ch.trans {n : Nat} {a b c : MH} (x : Ch n a b) (y : Ch n b c) : Ch n a c := ⟨Nat.le_trans x.1 y.1, fun i hi hn => (y.2 i (Nat.lt_of_lt_of_le hi x.1) hn).trans (x.2 i hi hn)⟩
theorem Old.ch {a b : MH} (x : Old a b) (n : Nat) : Ch n a b := ⟨x.1, fun i hi _ => x.2 i hi⟩
theorem Old.app (h : MH) (t : List Cell) : Old h (h ++ t) := ⟨by simp, fun i hi => List.getElem?_append_left hi⟩
theorem Ch.app {b : Nat} {h h' : MH} (c : Ch b h h') (t : List Cell) : Ch b h (h' ++ t) := c.trans ((Old.app _ _).ch b)
theorem lt_of_at {h : MH} {i : Nat} {c : Cell} (e : h[i]? = some c) : i < h.length := (List.getElem?_eq_some_iff.mp e).1
theorem Old.at {a b : MH} (x : Old a b) {i : Nat} {c : Cell} (e : a[i]? = some c) : b[i]? = some c := (x.2 i (lt_of_at e)).trans e
theorem Ch.at {n : Nat} {a b : MH} (x : Ch n a b) {i : Nat} {c : Cell} (e : a[i]? = some c) (hn : i ≠ n) : b[i]? = some c := (x.2 i (lt_of_at e) hn).trans e
theorem Ch.set (h : MH) (b : Nat) (c : Cell) : Ch b h (h.set b c) := ⟨by simp, fun i _ hn => List.getElem?_set_ne (Ne.symm hn)⟩
theorem set_at {h : MH} {b : Nat} {c c' : Cell} (e : h[b]? = some c) : (h.set b c')[b]? = some c' := by rw [List.getElem?_set_self (lt_of_at e)]
theorem app_at {h : MH} {i : Nat} {c : Cell} (e : h[i]? = some c) (t : List Cell) : (h ++ t)[i]? = some c := (Old.app h t).at e
@[simp] theorem new_at (h : MH) (c : Cell) : (h ++ [c])[h.length]? = some c := by simp
theorem rOk_iff (i : Int) : (rOk i = true) = (-4611686018427387904 ≤ i ∧ i < 4611686018427387904) := by simp [rOk]
/-- what holds between two statements -/
theorem ws_cut {QS : Fl → Env → MH → Prop} {XX : XS} {r : Env} {h : MH} {a b : S} (P : Env → MH → Prop) (q1 : (a r h).wp (fun f r1 h1 => f = .nx ∧ P r1 h1) XX) (q2 : ∀ r1 h1, P r1 h1 → (b r1 h1).wp QS XX) : (sSeq a b r h).wp QS XX := by
  rw [ws_seq]
  refine q1.imp (fun f r1 h1 ⟨e, p⟩ => ?_) (fun _ _ _ _ x => x)
  subst e
  exact q2 r1 h1 p
theorem sSeq_assoc (a b c : S) : sSeq a (sSeq b c) = sSeq (sSeq a b) c := by
  funext r h
  unfold sSeq
  cases a r h with
  | ok f r h => cases f <;> rfl
  | exc c d r h => rfl
  | bad => rfl
theorem item_mem {xs : List W} {i : Int} {P : W → Prop} (h0 : 0 ≤ i) (h1 : i < xs.length) (hp : ∀ w, w ∈ xs → P w) : itemAt xs i P :=
  item_all h0 h1 fun k w e _ => hp w (List.mem_of_getElem? e)
/-- a for over what stands in a value -/
def forIn_ (w : W) (g : G) (b : S) : S := sFor (iSeq (eC w)) g b
section
variable {QS : Fl → Env → MH → Prop} {XX : XS} {r : Env} {h : MH} {g : G} {b : S} {α : Type}
@[simp] theorem ws_forL {e : E} : (sFor (iSeq e) g b r h).wp QS XX = (e r h).wp (fun w h1 => (forIn_ w g b r h1).wp QS XX) (fun c d h1 => XX c d r h1) := by
  unfold forIn_
  simp only [ws_for, iSeq, wp_bind, eC, wp_ok]
theorem ws_lst {a : Nat} {xs : List W} (e : h[a]? = some (.lst xs)) (I : Nat → Env → MH → Prop) (h0 : I 0 r h) (hat : ∀ i r h, I i r h → h[a]? = some (.lst xs))
    (hb : ∀ i x r h, xs[i]? = some x → I i r h → (g x r h).wp (fun r1 h1 => (b r1 h1).wp (turnS (fun r2 h2 => I (i + 1) r2 h2) QS) XX) (fun _ _ _ => False)) (hend : ∀ r h, I xs.length r h → QS .nx r h) : (forIn_ (.ref a) g b r h).wp QS XX := by
  unfold forIn_
  have l : lstAt h a = some xs := by unfold lstAt; rw [e]
  simp only [ws_for, iSeq, wp_bind, eC, wp_ok, l]
  exact ws_turns xs I (fun i r h q => by show (lstAt h a).map _ = _; unfold lstAt; rw [hat i r h q]; rfl) hb hend _ 0 r h h0 (Nat.zero_le _) (by omega)
/-- list comprehension -/
theorem wp_lcTurns {src : Src} {g : G} {t : T} {e : E} {D : Nat} {Q : W → MH → Prop} (xs : List W) (I : Nat → List W → MH → Prop) (hat : ∀ i acc h, I i acc h → src.at i h = some xs[i]?)
    (hb : ∀ i x acc h, xs[i]? = some x → h[D]? = some (.lst acc) → I i acc h → (g x r h).wp (fun r1 h1 => (t r1 h1).wp (fun c h2 => if c = true then (e r1 h2).wp (fun y h3 => h3[D]? = some (.lst acc) ∧ I (i + 1) (acc ++ [y]) (h3.set D (.lst (acc ++ [y])))) (fun _ _ _ => False)
      else h2[D]? = some (.lst acc) ∧ I (i + 1) acc h2) (fun _ _ _ => False)) (fun _ _ _ => False)) (hend : ∀ acc h, h[D]? = some (.lst acc) → I xs.length acc h → Q (.ref D) h) (hx : xs.length < 9999999) :
    ∀ k i acc h, acc.length ≤ i → h[D]? = some (.lst acc) → I i acc h → i ≤ xs.length → xs.length < k + i → (lcTurns src g t e r D k i h).wq Q (fun _ _ _ => False) := by
  intro k
  induction k with
  | zero => intro i acc h _ _ _ h1 h2; omega
  | succ k ih =>
    intro i acc h la hD hi hl hk
    unfold lcTurns
    rw [hat i acc h hi]
    cases ex : xs[i]? with
    | none =>
      have : i = xs.length := by
        have := List.getElem?_eq_none_iff.mp ex
        omega
      subst this
      exact hend acc h hD hi
    | some x =>
      have q := hb i x acc h ex hD hi
      have hlt : i < xs.length := (List.getElem?_eq_some_iff.mp ex).1
      simp only [R.wp_eq] at q
      show R.wq (match g x r h with | .ok r1 h1 => _ | _ => _) _ _
      cases e1 : g x r h with
      | ok r1 h1 =>
        rw [e1] at q
        have q2 : (t r1 h1).wq _ _ := q
        show R.wq ((t r1 h1).bind _) _ _
        cases e2 : t r1 h1 with
        | ok c h2 =>
          rw [e2] at q2
          cases c with
          | true =>
            have q3 : (e r1 h2).wq _ _ := q2
            show R.wq ((e r1 h2).bind _) _ _
            cases e3 : e r1 h2 with
            | ok y h3 =>
              rw [e3] at q3
              obtain ⟨z1, z2⟩ := q3
              show R.wq (lcAdd D y _ h3) _ _
              unfold lcAdd
              rw [z1]
              show R.wq (if acc.length < 10000000 then _ else _) _ _
              rw [if_pos (by omega)]
              exact ih (i + 1) (acc ++ [y]) _ (by simp; omega) (set_at z1) z2 hlt (by omega)
            | exc c d h => rw [e3] at q3; exact q3.elim
            | bad => rw [e3] at q3; exact q3.elim
          | false =>
            obtain ⟨z1, z2⟩ := (show h2[D]? = some (.lst acc) ∧ I (i + 1) acc h2 from q2)
            exact ih (i + 1) acc h2 (by omega) z1 z2 hlt (by omega)
        | exc c d h => rw [e2] at q2; exact q2.elim
        | bad => rw [e2] at q2; exact q2.elim
      | exc c d h1 => rw [e1] at q; exact q.elim
      | bad => rw [e1] at q; exact q.elim
theorem quiet_wq {x : R α} {Q : α → MH → Prop} {X : XQ} (q : x.wq Q (fun _ _ _ => False)) : x.quiet.wp Q X := by
  rw [R.wp_eq]
  cases x with
  | ok a h => exact q
  | exc c d h => exact q.elim
  | bad => exact q.elim
/-- over range(n), n a number -/
theorem wp_lc_rng {g : G} {t : T} {e : E} {Q : W → MH → Prop} {X : XQ} {vs : List Nat} {n : Nat} (hn : n < 9999999) (I : Nat → List W → MH → Prop) (h0 : I 0 [] (h ++ [.lst []]))
    (hb : ∀ i acc h1, i < n → h1[h.length]? = some (.lst acc) → I i acc h1 → (g (.int i) (wipe r vs) h1).wp (fun r1 h1 => (t r1 h1).wp (fun c h2 => if c = true then (e r1 h2).wp (fun y h3 => h3[h.length]? = some (.lst acc) ∧ I (i + 1) (acc ++ [y]) (h3.set h.length (.lst (acc ++ [y])))) (fun _ _ _ => False)
      else h2[h.length]? = some (.lst acc) ∧ I (i + 1) acc h2) (fun _ _ _ => False)) (fun _ _ _ => False)) (hend : ∀ acc h1, h1[h.length]? = some (.lst acc) → I n acc h1 → Q (.ref h.length) h1) :
    (eLc vs (iRng1 (eC (.int n))) g t e r h).wp Q X := by
  unfold eLc
  have ro : rOk (n : Int) = true := by simp [rOk]; omega
  simp only [wp_bind, o_rng1, eC, wp_ok, ro, true_and]
  have hl : ((List.range n).map fun (i : Nat) => W.int i).length = n := by simp
  refine quiet_wq (wp_lcTurns ((List.range n).map fun (i : Nat) => W.int i) I (fun i acc h1 _ => ?_) (fun i x acc h1 e hD q => ?_) (fun acc h1 hD q => hend acc h1 hD (by rw [hl] at q; exact q)) (by rw [hl]; exact hn) _ 0 [] _ (Nat.le_refl _) (by simp) h0 (Nat.zero_le _) (by rw [hl]; simp))
  · show some (if i < ((n : Int)).toNat then _ else _) = _
    by_cases c : i < n
    · simp [c]
    · simp [c]
  · simp only [List.getElem?_map] at e
    by_cases c : i < n
    · simp [List.getElem?_range, c] at e
      rw [← e]
      exact hb i acc h1 c hD q
    · simp [List.getElem?_range, c] at e
end
end Mini
set_option Elab.async false
set_option autoImplicit false
set_option linter.all false
set_option maxRecDepth 100000
/-! Rules for the runs of Mini2's combinators. -/
namespace Mini
open PySem (Str PyData)
section
variable {h : MH} {i j k : Int} {x y : W} {Q : W → MH → Prop} {X : XQ} {r : Env} {n m c : Nat} {xs ys : List W} {s t : Str} {a b : Bool} {ok : Nat → Bool} {f : Str} {fs : List (Str × W)} {QS : Fl → Env → MH → Prop} {XX : XS}
@[simp] theorem o_addX : gAddX (.int i) (.int j) h = .ok (.int (i + j)) h := (rfl)
@[simp] theorem o_ltX : gLtX (.int i) (.int j) h = .ok (.bl (decide (i < j))) h := (rfl)
theorem o_catX (e1 : tupAt h n = some xs) (e2 : tupAt h m = some ys) (hl : xs.length + ys.length ≤ 10000000) (h1 : xs ≠ []) (h2 : ys ≠ []) : gAddX (.ref n) (.ref m) h = .ok (.ref h.length) (h ++ [.tup (xs ++ ys)]) := by
  unfold gAddX tupOf
  simp only [e1, e2]
  rw [if_pos hl, if_neg h1, if_neg h2]
theorem o_catX1 (e1 : tupAt h n = some []) (e2 : tupAt h m = some ys) (hl : ys.length ≤ 10000000) : gAddX (.ref n) (.ref m) h = .ok (.ref m) h := by
  unfold gAddX tupOf
  simp only [e1, e2]
  rw [if_pos (by simpa using hl), if_pos trivial]
theorem o_catX2 (e1 : tupAt h n = some xs) (e2 : tupAt h m = some []) (hl : xs.length ≤ 10000000) (h1 : xs ≠ []) : gAddX (.ref n) (.ref m) h = .ok (.ref n) h := by
  unfold gAddX tupOf
  simp only [e1, e2]
  rw [if_pos (by simpa using hl), if_neg h1, if_pos trivial]
@[simp] theorem o_mulX : (gMulX (.int i) (.int j) h).wp Q X = (mulOk i j = true ∧ Q (.int (i * j)) h) := o_mul
theorem o_repX (e : tupAt h n = some xs) (hx : xs ≠ []) (h2 : 2 ≤ k) (h3 : k ≤ 1000) (h4 : xs.length ≤ 1000) : gMulX (.ref n) (.int k) h = .ok (.ref h.length) (h ++ [.tup (List.replicate k.toNat xs).flatten]) := by
  unfold gMulX tupOf
  simp only [e]
  rw [if_neg hx, if_neg (by omega), if_neg (by omega), if_pos ⟨h2, h3, h4⟩]
theorem o_repX1 (e : tupAt h n = some xs) (hx : xs ≠ []) : gMulX (.ref n) (.int 1) h = .ok (.ref n) h := by
  unfold gMulX tupOf
  simp only [e]
  rw [if_neg hx, if_pos trivial]
theorem o_repX0 (e : tupAt h n = some xs) (hx : xs ≠ []) : gMulX (.ref n) (.int 0) h = .ok (.ref h.length) (h ++ [.tup []]) := by
  unfold gMulX tupOf
  simp only [e]
  rw [if_neg hx, if_neg (by decide), if_pos trivial]
@[simp] theorem o_isB : gIs (.bl a) (.bl b) h = .ok (.bl (decide (a = b))) h := (rfl)
@[simp] theorem o_isnotB : gIsNot (.bl a) (.bl b) h = .ok (.bl (!decide (a = b))) h := (rfl)
@[simp] theorem o_isNX : gIs x .non h = .ok (.bl (decide (x = .non))) h := by cases x <;> rfl
@[simp] theorem o_isnotNX : gIsNot x .non h = .ok (.bl (!decide (x = .non))) h := by cases x <;> rfl
theorem tup_at (e : h[n]? = some (.tup xs)) : tupAt h n = some xs := by unfold tupAt; rw [e]
theorem lst_at (e : h[n]? = some (.lst xs)) : lstAt h n = some xs := by unfold lstAt; rw [e]
theorem o_tuple (e : lstAt h n = some xs) : fTuple [.ref n] h = .ok (.ref h.length) (h ++ [.tup xs]) := by unfold fTuple; simp only [e]
theorem o_all {bs : List Bool} (e : lstAt h n = some (bs.map .bl)) : fAll [.ref n] h = .ok (.bl (bs.all id)) h := by
  have q : ∀ bs : List Bool, boolsOf (bs.map .bl) = some bs := fun bs => by
    induction bs with
    | nil => rfl
    | cons b bs ih => show (boolsOf (bs.map .bl)).map (b :: ·) = _; rw [ih]; rfl
  unfold fAll
  simp only [e, Option.bind, q]
@[simp] theorem o_eRev {e : E} : (eRev e r h).wp Q X = (e r h).wp (fun w h1 => (revL w h1).wp Q X) X := by unfold eRev; rw [wp_bind]
theorem o_rev (e : lstAt h n = some xs) : revL (.ref n) h = .ok (.ref h.length) (h ++ [.lst xs.reverse]) := by unfold revL; simp only [e]
@[simp] theorem o_eFld {o : E} : (eFld ok f o r h).wp Q X = (o r h).wp (fun w h1 => (fldOf ok f w h1).wp Q X) X := by unfold eFld; rw [wp_bind]
theorem o_fld {w : W} (e : h[n]? = some (.ins c fs)) (hk : ok c = true) (hf : fs.lookup f = some w) : fldOf ok f (.ref n) h = .ok w h := by
  unfold fldOf
  simp only [e, hf]
  rw [if_pos hk]
@[simp] theorem o_eMake {F' : F} {as : A} : (eMake c F' as r h).wp Q X = (as r h).wp (fun ws h1 => (newIns c F' ws h1).wp Q X) X := by unfold eMake; rw [wp_bind]
@[simp] theorem o_eMakeK {F' : F} {is : List Nat} {as : A} : (eMakeK c F' is as r h).wp Q X = (as r h).wp (fun ws h1 => (newIns c F' (pick is ws) h1).wp Q X) X := by unfold eMakeK; rw [wp_bind]
theorem o_new {F' : F} {ws : List W} (q : (F' (.ref h.length :: ws) (h ++ [.ins c []])).wp (fun w h1 => w = .non ∧ Q (.ref h.length) h1) X) : (newIns c F' ws h).wp Q X := by
  unfold newIns
  rw [wp_bind]
  refine q.imp (fun w h1 z => ?_) (fun _ _ _ x => x)
  obtain ⟨rfl, z⟩ := z
  rw [wp_ok]
  exact z
@[simp] theorem ws_fld {o e : E} : (sFldSet ok f o e r h).wp QS XX = (e r h).wp (fun w h1 => (o r h1).wp (fun x h2 => (fldPut ok f w x h2).wp (fun _ h3 => QS .nx r h3) (fun c d h1 => XX c d r h1)) (fun c d h1 => XX c d r h1)) (fun c d h1 => XX c d r h1) := by
  have key : ∀ x : R Unit, (match x with | .ok _ h1 => RS.ok .nx r h1 | .exc c d h1 => RS.exc c d r h1 | .bad => RS.bad).wp QS XX = x.wp (fun _ h4 => QS .nx r h4) (fun c d h1 => XX c d r h1) := fun x => by rw [RS.wp_eq, R.wp_eq]; cases x <;> rfl
  unfold sFldSet
  refine (key _).trans ?_
  simp only [wp_bind]
theorem o_fldPut {w : W} (e : h[n]? = some (.ins c fs)) (hk : ok c = true) (hl : fs.length < 1000) : fldPut ok f w (.ref n) h = .ok () (h.set n (.ins c (putFs f w fs))) := by
  unfold fldPut
  simp only [e]
  rw [if_pos ⟨hk, hl⟩]
@[simp] theorem o_met1 {g : W → W → MH → R W} {o e : E} : (eMet1 g o e r h).wp Q X = (o r h).wp (fun x h1 => isLst x h1 = true ∧ (e r h1).wp (fun y h2 => (g x y h2).wp Q X) X) X := by
  unfold eMet1
  rw [wp_bind]
  congr; funext x h1
  by_cases c : isLst x h1 = true <;> simp [c]
@[simp] theorem o_met0 {g : W → MH → R W} {o : E} : (eMet0 g o r h).wp Q X = (o r h).wp (fun x h1 => isLst x h1 = true ∧ (g x h1).wp Q X) X := by
  unfold eMet0
  rw [wp_bind]
  congr; funext x h1
  by_cases c : isLst x h1 = true <;> simp [c]
theorem isLst_at (e : h[n]? = some (.lst xs)) : isLst (.ref n) h = true := by unfold isLst; simp only [e]
theorem lstM_at (e : h[n]? = some (.lst xs)) : lstM h (.ref n) = some (n, xs) := by unfold lstM; simp only [e]
theorem o_ext (e1 : h[n]? = some (.lst xs)) (e2 : h[m]? = some (.lst ys)) (hl : xs.length + ys.length ≤ 10000000) : gExt (.ref n) (.ref m) h = .ok .non (h.set n (.lst (xs ++ ys))) := by
  unfold gExt
  simp only [lstM_at e1, lstM_at e2]
  rw [if_pos hl]
theorem isiC_ins (e : h[n]? = some (.ins m fs)) : gIsiC c (.ref n) h = .ok (.bl (decide (m = c))) h := by
  unfold gIsiC known clsOf
  simp only [e]
  by_cases z : m = c <;> simp [z]
end
end Mini
set_option Elab.async false
set_option autoImplicit false
set_option linter.all false
set_option maxRecDepth 100000
/-! Data told by values, and what keeps it. Plain Lean. -/
namespace Mini
open PySem (Str PyData)
/-! ### frames -/
/-- all cells below n stay, but b -/
structure Kp (n b : Nat) (h h' : MH) : Prop where
  le : h.length ≤ h'.length
  eq : ∀ i, i < n → i ≠ b → h'[i]? = h[i]?
theorem Kp.refl (n b : Nat) (h : MH) : Kp n b h h := ⟨Nat.le_refl _, fun _ _ _ => rfl⟩
theorem Kp.trans {n m b : Nat} {x y z : MH} (p : Kp n b x y) (q : Kp m b y z) (hm : n ≤ m := by omega) : Kp n b x z := ⟨Nat.le_trans p.le q.le, fun i h1 h2 => (q.eq i (by omega) h2).trans (p.eq i h1 h2)⟩
theorem Kp.low {n m b : Nat} {x y : MH} (p : Kp n b x y) (hm : m ≤ n := by omega) : Kp m b x y := ⟨p.le, fun i h1 h2 => p.eq i (by omega) h2⟩
theorem Ch.kp {b : Nat} {h h' : MH} (c : Ch b h h') : Kp h.length b h h' := ⟨c.1, c.2⟩
theorem Kp.ch {b : Nat} {h h' : MH} (c : Kp h.length b h h') : Ch b h h' := ⟨c.le, c.eq⟩
theorem Old.kp {h h' : MH} (c : Old h h') (b : Nat) : Kp h.length b h h' := ⟨c.1, fun i hi _ => c.2 i hi⟩
theorem Kp.app {n b : Nat} {h h' : MH} (c : Kp n b h h') (t : List Cell) (hn : n ≤ h'.length := by omega) : Kp n b h (h' ++ t) := ⟨by rw [List.length_append]; have := c.le; omega, fun i h1 h2 => by rw [List.getElem?_append_left (by omega)]; exact c.eq i h1 h2⟩
theorem Kp.set {n b p : Nat} {h h' : MH} (c : Kp n b h h') (x : Cell) (hp : n ≤ p ∨ p = b) : Kp n b h (h'.set p x) := ⟨by rw [List.length_set]; exact c.le, fun i h1 h2 => by rw [List.getElem?_set_ne (by omega)]; exact c.eq i h1 h2⟩
theorem at_new {h t : MH} {i : Nat} {c : Cell} (e : t[i]? = some c) : (h ++ t)[h.length + i]? = some c := by rw [List.getElem?_append_right (by omega), Nat.add_sub_cancel_left]; exact e
/-! ### data -/
mutual
/-- w tells the data d; the cells are below n, and b is none of them -/
inductive Den (n b : Nat) (h : MH) : W → PyData → Prop
  | non : Den n b h .non .none
  | bl (x : Bool) : Den n b h (.bl x) (.bool x)
  | int (i : Int) : Den n b h (.int i) (.int i)
  | str (s : Str) : Den n b h (.str s) (.str s)
  | lst {p : Nat} {xs : List W} {ds : List PyData} (hp : p < n) (hb : p ≠ b) (e : lstAt h p = some xs) (q : DenA n b h xs ds) : Den n b h (.ref p) (.list ds)
  | tup {p : Nat} {xs : List W} {ds : List PyData} (hp : p < n) (hb : p ≠ b) (e : tupAt h p = some xs) (q : DenA n b h xs ds) : Den n b h (.ref p) (.tuple ds)
inductive DenA (n b : Nat) (h : MH) : List W → List PyData → Prop
  | nil : DenA n b h [] []
  | cons {x : W} {xs : List W} {d : PyData} {ds : List PyData} (q : Den n b h x d) (r : DenA n b h xs ds) : DenA n b h (x :: xs) (d :: ds)
end
section
variable {n m b : Nat} {h h' : MH} {w x y : W} {d dx dy : PyData} {xs : List W} {ds : List PyData} {p : Nat}
theorem lstAt_eq {k : MH} (e : k[p]? = h[p]?) : lstAt k p = lstAt h p := by unfold lstAt; rw [e]
theorem tupAt_eq {k : MH} (e : k[p]? = h[p]?) : tupAt k p = tupAt h p := by unfold tupAt; rw [e]
mutual
theorem Den.keep (k : Kp n b h h') (hm : n ≤ m) : ∀ {w : W} {d : PyData}, Den n b h w d → Den m b h' w d
  | _, _, .non => .non
  | _, _, .bl x => .bl x
  | _, _, .int i => .int i
  | _, _, .str s => .str s
  | _, _, .lst hp hb e q => .lst (by omega) hb ((lstAt_eq (k.eq _ hp hb)).trans e) (DenA.keep k hm q)
  | _, _, .tup hp hb e q => .tup (by omega) hb ((tupAt_eq (k.eq _ hp hb)).trans e) (DenA.keep k hm q)
theorem DenA.keep (k : Kp n b h h') (hm : n ≤ m) : ∀ {xs : List W} {ds : List PyData}, DenA n b h xs ds → DenA m b h' xs ds
  | _, _, .nil => .nil
  | _, _, .cons q r => .cons (Den.keep k hm q) (DenA.keep k hm r)
end
theorem Den.up (q : Den n b h w d) (hm : n ≤ m := by omega) : Den m b h w d := q.keep (Kp.refl n b h) hm
theorem DenA.up (q : DenA n b h xs ds) (hm : n ≤ m := by omega) : DenA m b h xs ds := q.keep (Kp.refl n b h) hm
mutual
theorem Den.data : ∀ {w : W} {d : PyData}, Den n b h w d → ∀ k, d.depth < k → dataOf h k w = some d
  | _, _, .non, k + 1, _ => rfl
  | _, _, .bl x, k + 1, _ => rfl
  | _, _, .int i, k + 1, _ => rfl
  | _, _, .str s, k + 1, _ => rfl
  | _, _, .lst (p := p) (ds := ds) hp hb e q, k + 1, hk => by
    have z := DenA.data q k (by simp only [PyData.depth] at hk; omega)
    unfold lstAt at e
    unfold dataOf
    cases e1 : h[p]? with
    | none => rw [e1] at e; cases e
    | some c => rw [e1] at e; cases c <;> first | (cases e; simp only [e1, z]; rfl) | cases e
  | _, _, .tup (p := p) (ds := ds) hp hb e q, k + 1, hk => by
    have z := DenA.data q k (by simp only [PyData.depth] at hk; omega)
    unfold tupAt at e
    unfold dataOf
    cases e1 : h[p]? with
    | none => rw [e1] at e; cases e
    | some c => rw [e1] at e; cases c <;> first | (cases e; simp only [e1, z]; rfl) | cases e
theorem DenA.data : ∀ {xs : List W} {ds : List PyData}, DenA n b h xs ds → ∀ k, PyData.depthAll ds < k → dataAll (dataOf h k) xs = some ds
  | _, _, .nil, k, _ => rfl
  | _, _, .cons q r, k, hk => by
    simp only [PyData.depthAll] at hk
    have z1 := Den.data q k (by omega)
    have z2 := DenA.data r k (by omega)
    simp only [dataAll, z1, z2]
end
theorem DenA.snoc : ∀ {xs : List W} {ds : List PyData}, DenA n b h xs ds → Den n b h x d → DenA n b h (xs ++ [x]) (ds ++ [d])
  | _, _, .nil, q => .cons q .nil
  | _, _, .cons a r, q => .cons a (DenA.snoc r q)
theorem DenA.append : ∀ {xs ys : List W} {ds es : List PyData}, DenA n b h xs ds → DenA n b h ys es → DenA n b h (xs ++ ys) (ds ++ es)
  | _, _, _, _, .nil, q => q
  | _, _, _, _, .cons a r, q => .cons a (DenA.append r q)
theorem DenA.len : ∀ {xs : List W} {ds : List PyData}, DenA n b h xs ds → xs.length = ds.length
  | _, _, .nil => rfl
  | _, _, .cons a r => congrArg (· + 1) (DenA.len r)
/-- data that == and repr take -/
structure Nic (k s : Nat) (d : PyData) : Prop where
  lay : d.canLay0 = true
  dep : d.depth ≤ k
  shw : d.showable = true
  len : d.shown.length ≤ s
theorem Nic.mono {k k' s s' : Nat} (q : Nic k s d) (hk : k ≤ k') (hs : s ≤ s') : Nic k' s' d := ⟨q.lay, Nat.le_trans q.dep hk, q.shw, Nat.le_trans q.len hs⟩
theorem nic_non : Nic 0 4 .none := ⟨rfl, by decide, rfl, by decide +kernel⟩
theorem nic_bool (x : Bool) : Nic 0 5 (.bool x) := ⟨rfl, Nat.le_refl _, rfl, by cases x <;> decide +kernel⟩
theorem nic_int {i : Int} (hi : i.natAbs < 2 ^ 1900) : Nic 0 2000 (.int i) := by
  have hl : i.natAbs.log2 < 1900 := by
    by_cases c : i.natAbs = 0
    · rw [c]; decide
    · exact (Nat.log2_lt c).mpr hi
  refine ⟨rfl, by simp [PyData.depth], by unfold PyData.showable; exact decide_eq_true (by omega), ?_⟩
  unfold PyData.shown
  have e := PySem.int_text_length_le (k := 1900) (by decide) hl
  show (Str.ofString (toString i)).length ≤ _
  rw [PySem.ofString_length]
  omega
theorem textFrom_le : ∀ (ts : List Str) (k : Nat) (acc : Str), (PySem.textFrom k acc ts).length ≤ acc.length + PySem.piled ts
  | [], k, acc => by show acc.length ≤ _; omega
  | t :: r, k, acc => by
    have ih := textFrom_le r (k + 1) (acc ++ (if k > 0 then ", " else "" : String) ++ t)
    have e : (acc ++ (if k > 0 then ", " else "" : String) ++ t).length = (acc.length + if k > 0 then 2 else 0) + t.length := by
      rw [PySem.strLen_append, PySem.strLen_append]
      split <;> rfl
    rw [e] at ih
    rw [PySem.piled_cons]
    have : (if k > 0 then 2 else 0) ≤ 2 := by split <;> omega
    show (PySem.textFrom (k + 1) _ r).length ≤ _
    omega
theorem nics {k s : Nat} : ∀ {ds : List PyData}, (∀ d ∈ ds, Nic k s d) → PyData.canLayAll0 ds = true ∧ PyData.depthAll ds ≤ k ∧ PyData.showableAll ds = true ∧ PySem.piled (PyData.shownAll ds) ≤ ds.length * (s + 2)
  | [], _ => ⟨rfl, Nat.zero_le _, rfl, by simp [PyData.shownAll, PySem.piled]⟩
  | d :: ds, q => by
    obtain ⟨h1, h2, h3, h4⟩ := q d List.mem_cons_self
    obtain ⟨z1, z2, z3, z4⟩ := nics fun x hx => q x (List.mem_cons_of_mem _ hx)
    refine ⟨by simp only [PyData.canLayAll0, h1, z1, Bool.and_self], by simp only [PyData.depthAll]; omega, by simp only [PyData.showableAll, h3, z3, Bool.and_self], ?_⟩
    simp only [PyData.shownAll, PySem.piled_cons, List.length_cons, Nat.add_mul]
    omega
theorem nic_list {k s : Nat} (q : ∀ d ∈ ds, Nic k s d) : Nic (k + 1) (ds.length * (s + 2) + 2) (.list ds) := by
  obtain ⟨z1, z2, z3, z4⟩ := nics q
  refine ⟨by simp only [PyData.canLay0, z1], by simp only [PyData.depth]; omega, by simp only [PyData.showable, z3], ?_⟩
  simp only [PyData.shown, PySem.listText, PySem.strLen_append]
  have := textFrom_le (PyData.shownAll ds) 0 "["
  have e1 : (("[" : String) : Str).length = 1 := rfl
  have e2 : (("]" : String) : Str).length = 1 := rfl
  omega
theorem nic_tuple {k s : Nat} (q : ∀ d ∈ ds, Nic k s d) : Nic (k + 1) (ds.length * (s + 2) + 3) (.tuple ds) := by
  obtain ⟨z1, z2, z3, z4⟩ := nics q
  refine ⟨by simp only [PyData.canLay0, z1], by simp only [PyData.depth]; omega, by simp only [PyData.showable, z3], ?_⟩
  simp only [PyData.shown, PySem.tupleText, PySem.strLen_append]
  have e1 : (("(" : String) : Str).length = 1 := rfl
  have e2 : (((if (PyData.shownAll ds).length == 1 then ",)" else ")" : String)) : Str).length ≤ 2 := by split <;> decide +kernel
  by_cases c : PyData.shownAll ds = []
  · rw [c]
    have e3 : (Str.join ", " []).length = 0 := rfl
    rw [c] at e2
    omega
  · have := PySem.join_length_add _ c
    omega
theorem dataR_of (q : Den n b h w d) (hk : d.depth ≤ 11) : dataR h w = some d := by
  have z := q.data dep (by unfold dep; omega)
  unfold dataR
  have : dicAt h w = none := by
    cases q with
    | @lst p xs ds hp hb e q =>
      unfold lstAt at e
      unfold dicAt
      cases e1 : h[p]? with
      | none => simp only [e1]
      | some c => rw [e1] at e; cases c <;> first | (cases e; done) | (simp only [e1]; done)
    | @tup p xs ds hp hb e q =>
      unfold tupAt at e
      unfold dicAt
      cases e1 : h[p]? with
      | none => simp only [e1]
      | some c => rw [e1] at e; cases c <;> first | (cases e; done) | (simp only [e1]; done)
    | _ => rfl
  rw [this]
  exact z
theorem repr_den {k s : Nat} (q : Den n b h w d) (N : Nic k s d) (hk : k ≤ 11) (hs : s ≤ 10000000) : fRepr [w] h = .ok (.str d.shown) h := by
  have := N.dep
  have := N.len
  unfold fRepr
  simp only [dataR_of q (by omega)]
  rw [if_pos ⟨N.shw, by omega, by omega⟩]
theorem eqB_den {b' : Nat} (qx : Den n b h x dx) (qy : Den m b' h y dy) (hx : dx.canLay0 = true) (hy : dy.canLay0 = true) (kx : dx.depth ≤ 11) (ky : dy.depth ≤ 11) : eqB x y h = some (PyData.eqv dx dy) := by
  unfold eqB
  by_cases c : scl x y = true
  · rw [if_pos c]
    congr 1
    cases qx <;> cases qy <;> first | (simp [PyData.eqv]; done) | (simp only [scl] at c; cases c) | skip
    all_goals (simp only [PyData.eqv, W.str.injEq, W.bl.injEq, W.int.injEq]; first | rfl | (rename_i u v; by_cases z : u = v <;> simp [z]))
  · rw [if_neg c]
    simp only [qx.data dep (by unfold dep; omega), qy.data dep (by unfold dep; omega)]
    rw [if_pos ⟨by simp only [PySem.SeqAt.shaped, hx, Bool.true_and]; exact decide_eq_true (by omega), by simp only [PySem.SeqAt.shaped, hy, Bool.true_and]; exact decide_eq_true (by omega)⟩]
theorem eq_den {b' : Nat} (qx : Den n b h x dx) (qy : Den m b' h y dy) (hx : dx.canLay0 = true) (hy : dy.canLay0 = true) (kx : dx.depth ≤ 11) (ky : dy.depth ≤ 11) : gEq x y h = .ok (.bl (PyData.eqv dx dy)) h := by
  unfold gEq
  rw [eqB_den qx qy hx hy kx ky]
theorem ne_den {b' : Nat} (qx : Den n b h x dx) (qy : Den m b' h y dy) (hx : dx.canLay0 = true) (hy : dy.canLay0 = true) (kx : dx.depth ≤ 11) (ky : dy.depth ≤ 11) : gNe x y h = .ok (.bl (!PyData.eqv dx dy)) h := by
  unfold gNe
  rw [eqB_den qx qy hx hy kx ky]
/-! ### rows of numbers -/
def intsD (xs : List Int) : List PyData := xs.map .int
theorem denA_ints {xs : List Int} : DenA n b h (xs.map .int) (intsD xs) := by
  induction xs with
  | nil => exact .nil
  | cons x xs ih => exact .cons (.int x) ih
theorem lay_ints {xs : List Int} : PyData.canLayAll0 (intsD xs) = true := by
  induction xs with
  | nil => rfl
  | cons x xs ih => show (PyData.canLay0 (.int x) && PyData.canLayAll0 (intsD xs)) = true; rw [ih]; rfl
theorem depth_ints {xs : List Int} : PyData.depthAll (intsD xs) = 0 := by
  induction xs with
  | nil => rfl
  | cons x xs ih => show max (PyData.depth (.int x)) (PyData.depthAll (intsD xs)) = 0; rw [ih]; rfl
theorem eqv_ints : ∀ {xs ys : List Int}, PyData.eqvAll (intsD xs) (intsD ys) = decide (xs = ys)
  | [], [] => rfl
  | [], _ :: _ => rfl
  | _ :: _, [] => rfl
  | x :: xs, y :: ys => by
    show (PyData.eqv (.int x) (.int y) && PyData.eqvAll (intsD xs) (intsD ys)) = _
    rw [eqv_ints]
    simp only [PyData.eqv]
    by_cases c : x = y <;> by_cases d : xs = ys <;> simp [c, d]
theorem eq_tups {q : Nat} {xs ys : List Int} (e1 : tupAt h p = some (xs.map .int)) (e2 : tupAt h q = some (ys.map .int)) : gEq (.ref p) (.ref q) h = .ok (.bl (decide (xs = ys))) h := by
  have d1 : Den (p + 1) (p + 1) h (.ref p) (.tuple (intsD xs)) := .tup (by omega) (by omega) e1 denA_ints
  have d2 : Den (q + 1) (q + 1) h (.ref q) (.tuple (intsD ys)) := .tup (by omega) (by omega) e2 denA_ints
  rw [eq_den d1 d2 (by simp only [PyData.canLay0, lay_ints]) (by simp only [PyData.canLay0, lay_ints]) (by simp only [PyData.depth, depth_ints]; omega) (by simp only [PyData.depth, depth_ints]; omega)]
  simp only [PyData.eqv, eqv_ints]
theorem ne_tups {q : Nat} {xs ys : List Int} (e1 : tupAt h p = some (xs.map .int)) (e2 : tupAt h q = some (ys.map .int)) : gNe (.ref p) (.ref q) h = .ok (.bl (!decide (xs = ys))) h := by
  have z := eq_tups e1 e2
  unfold gEq at z
  unfold gNe
  cases e : eqB (.ref p) (.ref q) h with
  | none => rw [e] at z; cases z
  | some v => rw [e] at z; cases z; rfl
end
end Mini
set_option Elab.async false
set_option autoImplicit false
set_option linter.all false
set_option maxRecDepth 100000
/-! Loops and comprehensions over sequences. -/
namespace Mini
open PySem (Str PyData)
@[simp] theorem wipe_nil (r : Env) : wipe r [] = r := (rfl)
@[simp] theorem wipe_cons (r : Env) (i : Nat) (is : List Nat) : wipe r (i :: is) = (wipe r is).set i none := (rfl)
/-- the items of a cell -/
def itemsOf : Cell → Option (List W)
  | .lst xs => some xs
  | .fz xs => some xs
  | .cl xs => some xs
  | .tup xs => some xs
  | .ct xs => some xs
  | _ => none
section
variable {QS : Fl → Env → MH → Prop} {XX : XS} {r : Env} {h : MH} {g : G} {b : S} {a : Nat} {c : Cell} {xs : List W}
theorem seq_of (e : h[a]? = some c) (hs : itemsOf c = some xs) : seqAt h a = some xs := by
  unfold seqAt
  rw [e]
  cases c <;> first | exact hs | (cases hs; done)
theorem seq_cell (e : seqAt h a = some xs) : ∃ c, h[a]? = some c ∧ itemsOf c = some xs := by
  unfold seqAt at e
  cases e1 : h[a]? with
  | none => rw [e1] at e; cases e
  | some c => rw [e1] at e; refine ⟨c, rfl, ?_⟩; cases c <;> first | exact e | (cases e; done)
theorem tup_seq (e : tupAt h a = some xs) : seqAt h a = some xs := by
  unfold tupAt at e
  unfold seqAt
  cases e1 : h[a]? with
  | none => rw [e1] at e; cases e
  | some c => rw [e1] at e; cases c <;> first | exact e | (cases e; done)
theorem lst_seq (e : lstAt h a = some xs) : seqAt h a = some xs := by
  unfold lstAt at e
  unfold seqAt
  cases e1 : h[a]? with
  | none => rw [e1] at e; cases e
  | some c => rw [e1] at e; cases c <;> first | exact e | (cases e; done)
/-- what a for walks -/
theorem src_seq (e : h[a]? = some c) (hs : itemsOf c = some xs) : ∃ s : Src, iSeq (eC (.ref a)) r h = .ok (s, xs.length + 1) h ∧ ∀ i h', h'[a]? = some c → s.at i h' = some xs[i]? := by
  cases c with
  | lst ys => cases hs; exact ⟨.lst a, by simp only [iSeq, eC, R.bind, lstAt, e], fun i h' e' => by show (lstAt h' a).map _ = _; simp only [lstAt, e', Option.map]⟩
  | fz ys => cases hs; exact ⟨.lst a, by simp only [iSeq, eC, R.bind, lstAt, e], fun i h' e' => by show (lstAt h' a).map _ = _; simp only [lstAt, e', Option.map]⟩
  | cl ys => cases hs; exact ⟨.lst a, by simp only [iSeq, eC, R.bind, lstAt, e], fun i h' e' => by show (lstAt h' a).map _ = _; simp only [lstAt, e', Option.map]⟩
  | tup ys => cases hs; exact ⟨.tup a, by simp only [iSeq, eC, R.bind, lstAt, tupAt, e], fun i h' e' => by show (tupAt h' a).map _ = _; simp only [tupAt, e', Option.map]⟩
  | ct ys => cases hs; exact ⟨.tup a, by simp only [iSeq, eC, R.bind, lstAt, tupAt, e], fun i h' e' => by show (tupAt h' a).map _ = _; simp only [tupAt, e', Option.map]⟩
  | _ => cases hs
theorem ws_sq (e : h[a]? = some c) (hs : itemsOf c = some xs) (I : Nat → Env → MH → Prop) (h0 : I 0 r h) (hat : ∀ i r h, I i r h → h[a]? = some c)
    (hb : ∀ i x r h, xs[i]? = some x → I i r h → (g x r h).wp (fun r1 h1 => (b r1 h1).wp (turnS (fun r2 h2 => I (i + 1) r2 h2) QS) XX) (fun _ _ _ => False)) (hend : ∀ r h, I xs.length r h → QS .nx r h) : (forIn_ (.ref a) g b r h).wp QS XX := by
  obtain ⟨s, z1, z2⟩ := src_seq (r := r) e hs
  unfold forIn_
  rw [ws_for, z1, wp_ok]
  exact ws_turns xs I (fun i r h q => z2 i h (hat i r h q)) hb hend _ 0 r h h0 (Nat.zero_le _) (by omega)
end
section
variable {r : Env} {h : MH} {g : G} {t : T} {e : E} {a b : Nat} {c : Cell} {xs : List W} {vs : List Nat} {Q : W → MH → Prop} {X : XQ} {ex : E}
/-- a comprehension over what stands in a value -/
def lcIn_ (w : W) (vs : List Nat) (g : G) (t : T) (e : E) : E := eLc vs (iSeq (eC w)) g t e
@[simp] theorem wp_lcE : (eLc vs (iSeq ex) g t e r h).wp Q X = (ex r h).wp (fun w h1 => (lcIn_ w vs g t e r h1).wp Q X) X := by
  unfold lcIn_ eLc
  simp only [wp_bind, iSeq, eC, wp_ok]
/-- over a range of numbers -/
def lcR_ (i : Int) (vs : List Nat) (g : G) (t : T) (e : E) : E := eLc vs (iRng1 (eC (.int i))) g t e
@[simp] theorem wp_lcR : (eLc vs (iRng1 ex) g t e r h).wp Q X = (ex r h).wp (fun w h1 => match w with | .int i => (lcR_ i vs g t e r h1).wp Q X | _ => False) X := by
  unfold lcR_ eLc
  simp only [wp_bind, iRng1, eC, wp_ok]
  congr; funext w h1
  cases w <;> simp
theorem wp_lc_n {n : Nat} (hn : n < 9999999) (I : Nat → List W → MH → Prop) (h0 : I 0 [] (h ++ [.lst []]))
    (hb : ∀ i acc h1, i < n → h1[h.length]? = some (.lst acc) → I i acc h1 → (g (.int i) (wipe r vs) h1).wp (fun r1 h1 => (t r1 h1).wp (fun c h2 => if c = true then (e r1 h2).wp (fun y h3 => h3[h.length]? = some (.lst acc) ∧ I (i + 1) (acc ++ [y]) (h3.set h.length (.lst (acc ++ [y])))) (fun _ _ _ => False)
      else h2[h.length]? = some (.lst acc) ∧ I (i + 1) acc h2) (fun _ _ _ => False)) (fun _ _ _ => False)) (hend : ∀ acc h1, h1[h.length]? = some (.lst acc) → I n acc h1 → Q (.ref h.length) h1) :
    (lcR_ (n : Int) vs g t e r h).wp Q X := wp_lc_rng hn I h0 hb hend
theorem wp_lc_sq (ec : h[a]? = some c) (hs : itemsOf c = some xs) (hx : xs.length < 9999999) (I : Nat → List W → MH → Prop) (hat : ∀ i acc h1, I i acc h1 → h1[a]? = some c) (h0 : I 0 [] (h ++ [.lst []]))
    (hb : ∀ i x acc h1, xs[i]? = some x → h1[h.length]? = some (.lst acc) → I i acc h1 → (g x (wipe r vs) h1).wp (fun r1 h1 => (t r1 h1).wp (fun c h2 => if c = true then (e r1 h2).wp (fun y h3 => h3[h.length]? = some (.lst acc) ∧ I (i + 1) (acc ++ [y]) (h3.set h.length (.lst (acc ++ [y])))) (fun _ _ _ => False)
      else h2[h.length]? = some (.lst acc) ∧ I (i + 1) acc h2) (fun _ _ _ => False)) (fun _ _ _ => False)) (hend : ∀ acc h1, h1[h.length]? = some (.lst acc) → I xs.length acc h1 → Q (.ref h.length) h1) :
    (lcIn_ (.ref a) vs g t e r h).wp Q X := by
  unfold lcIn_
  obtain ⟨s, z1, z2⟩ := src_seq (r := r) ec hs
  unfold eLc
  rw [z1]
  refine quiet_wq (wp_lcTurns xs I (fun i acc h1 q => z2 i h1 (hat i acc h1 q)) hb hend hx _ 0 [] _ (Nat.le_refl _) (by simp) h0 (Nat.zero_le _) ?_)
  show xs.length < xs.length + 1 + 0
  omega
/-- each item by itself: some are told anew, some are left out -/
theorem wp_lc_fm (ec : h[a]? = some c) (hs : itemsOf c = some xs) (hx : xs.length < 9999999) (f : W → Option W)
    (hf : ∀ x ∈ xs, ∀ h1, Old h h1 → (g x (wipe r vs) h1).wp (fun r1 h2 => (t r1 h2).wp (fun c h3 => if c = true then (e r1 h3).wp (fun z h4 => f x = some z ∧ Old h1 h4) (fun _ _ _ => False) else f x = none ∧ Old h1 h3) (fun _ _ _ => False)) (fun _ _ _ => False))
    (q : ∀ h', Old h h' → h'[h.length]? = some (.lst (xs.filterMap f)) → Q (.ref h.length) h') : (lcIn_ (.ref a) vs g t e r h).wp Q X := by
  have la := lt_of_at ec
  refine wp_lc_sq ec hs hx (fun i acc h1 => Old h h1 ∧ acc = (xs.take i).filterMap f) (fun i acc h1 w => w.1.at ec) ⟨Old.app _ _, rfl⟩ (fun i x acc h1 hi hD w => ?_) (fun acc h1 hD w => ?_)
  · obtain ⟨O, rfl⟩ := w
    have tk : xs.take (i + 1) = xs.take i ++ [x] := by rw [List.take_add_one, hi]; rfl
    refine (hf x (List.mem_of_getElem? hi) h1 O).imp (fun r1 h2 w2 => w2.imp (fun c h3 w3 => ?_) fun _ _ _ z => z) fun _ _ _ z => z
    by_cases cc : c = true
    · rw [if_pos cc] at w3 ⊢
      refine w3.imp (fun z h4 ⟨e1, O4⟩ => ⟨O4.at hD, ?_, ?_⟩) fun _ _ _ z => z
      · exact ⟨by rw [List.length_set]; exact (O.trans O4).1, fun j hj => by rw [List.getElem?_set_ne (by omega)]; exact (O.trans O4).2 j hj⟩
      · rw [tk, List.filterMap_append]; simp [e1]
    · rw [if_neg cc] at w3 ⊢
      exact ⟨w3.2.at hD, O.trans w3.2, by rw [tk, List.filterMap_append]; simp [w3.1]⟩
  · obtain ⟨O, rfl⟩ := w
    rw [List.take_length] at hD
    exact q h1 O hD
end
section
variable {h : MH} {n : Nat} {w : W} {ok : Nat → Bool} {f : Str} {d c : Nat} {fs : List (Str × W)} {Q : W → MH → Prop} {X : XQ} {r : Env}
@[simp] theorem o_eXfl {o : E} : (eXfl ok f o r h).wp Q X = (o r h).wp (fun w h1 => (xfOf ok f w h1).wp Q X) X := by unfold eXfl; rw [wp_bind]
theorem o_xf (e : h[n]? = some (.exo c (some d))) (e2 : h[d]? = some (.xd fs)) (hk : ok c = true) (hf : fs.lookup f = some w) : xfOf ok f (.ref n) h = .ok w h := by
  unfold xfOf
  simp only [e, e2, hf]
  rw [if_pos hk]
@[simp] theorem o_eErr {e : E} : (eErr c f e r h).wp Q X = (e r h).wp (fun w h1 => Q (.ref (h1.length + 1)) (h1 ++ [.xd [(f, w)], .exo c (some h1.length)])) X := by unfold eErr; simp only [wp_bind, wp_ok]
theorem o_unseq {gs : List G} {xs : List W} {R' : Env → MH → Prop} (e : seqAt h n = some xs) : (gSeqT gs (.ref n) r h).wp R' X = (gAll gs xs r h).wp R' X := by unfold gSeqT; simp only [e]
end
end Mini
set_option Elab.async false
set_option autoImplicit false
set_option linter.all false
set_option maxRecDepth 100000
namespace Mini
open PySem (Str PyData)
section
variable {h : MH} {r : Env} {Q : W → MH → Prop} {X : XQ} {F' : F} {is : List Nat} {dws : List W} {n m ci : Nat} {ms mk : A} {mo e ea eb : E} {nm : Str}
@[simp] theorem pick_nil {α : Type} (l : List α) : pick [] l = [] := rfl
@[simp] theorem pick_cons {α : Type} (i : Nat) (is : List Nat) (l : List α) : pick (i :: is) l = (l[i]?).toList ++ pick is l := by
  unfold pick
  rw [List.filterMap_cons]
  cases l[i]? <;> rfl
theorem o_args {g : List W → List W → MH → R W} : (eArgs n m ms mk g r h).wp Q X = (ms r h).wp (fun xs h1 => (mk r h1).wp (fun ys h2 => (xs.length = n ∧ ys.length = m) ∧ (g xs ys h2).wp Q X) X) X := by
  unfold eArgs
  simp only [wp_bind]
  congr; funext xs h1; congr; funext ys h2
  by_cases c : xs.length = n ∧ ys.length = m
  · rw [if_pos c]; simp only [c, and_self, true_and]
  · rw [if_neg c, wp_bad]; simp only [c, false_and]
@[simp] theorem o_eCallN : (eCallN F' is dws n m ms mk r h).wp Q X = (ms r h).wp (fun xs h1 => (mk r h1).wp (fun ys h2 => (xs.length = n ∧ ys.length = m) ∧ (F' (pick is (xs ++ ys ++ dws)) h2).wp Q X) X) X := o_args
@[simp] theorem o_eMakeN : (eMakeN ci F' is dws n m ms mk r h).wp Q X = (ms r h).wp (fun xs h1 => (mk r h1).wp (fun ys h2 => (xs.length = n ∧ ys.length = m) ∧ (newIns ci F' (pick is (xs ++ ys ++ dws)) h2).wp Q X) X) X := o_args
@[simp] theorem o_eMethN : (eMethN ci nm F' is dws n m mo ms mk r h).wp Q X = (mo r h).wp (fun u h0 => hasM ci nm u h0 = true ∧ (ms r h0).wp (fun xs h1 => (mk r h1).wp (fun ys h2 => (xs.length = n ∧ ys.length = m) ∧ (F' (u :: pick is (xs ++ ys ++ dws)) h2).wp Q X) X) X) X := by
  unfold eMethN
  rw [wp_bind]
  congr; funext u h0
  by_cases c : hasM ci nm u h0 = true
  · rw [if_pos c, o_args]; simp only [c, true_and]
  · rw [if_neg c, wp_bad]; simp [c]
@[simp] theorem o_eLRng : (eLRng e r h).wp Q X = (e r h).wp (fun w h1 => match w with | .int k => (0 ≤ k ∧ k ≤ 100000) ∧ Q (.ref h1.length) (h1 ++ [.lst ((List.range k.toNat).map fun i => W.int (i : Nat))]) | _ => False) X := by
  unfold eLRng
  rw [wp_bind]
  congr; funext w h1
  cases w with
  | int k =>
    simp only []
    by_cases c : 0 ≤ k ∧ k ≤ 100000
    · rw [if_pos c, wp_ok]; simp only [c, and_self, true_and]
    · rw [if_neg c, wp_bad]; simp only [c, false_and]
  | _ => exact wp_bad
theorem ints_some (ns : List Int) : intsOf (ns.map .int) = some ns := by
  induction ns with
  | nil => rfl
  | cons n ns ih => show (intsOf (ns.map .int)).map (n :: ·) = _; rw [ih]; rfl
theorem o_sortU {a : Nat} {ns : List Int} (e1 : lstAt h a = some (ns.map .int)) (hl : ns.length < 64) : fSortU [.ref a] h = .ok (.ref h.length) (h ++ [.lst ((sortU ns).map .int)]) := by
  unfold fSortU
  simp only [e1, Option.bind, ints_some]
  rw [if_pos hl]
theorem any_ints {ns : List Int} {k : Int} : ((intsD ns).any fun z => PyData.eqv z (.int k)) = decide (k ∈ ns) := by
  induction ns with
  | nil => rfl
  | cons x xs ih =>
    show (PyData.eqv (.int x) (.int k) || (intsD xs).any _) = _
    rw [ih]
    simp only [PyData.eqv, List.mem_cons]
    by_cases c : x = k
    · subst c; simp
    · have : k ≠ x := fun z => c z.symm
      simp [c, this]
theorem data_ints {a : Nat} {ns : List Int} (e1 : lstAt h a = some (ns.map .int)) : dataOf h dep (.ref a) = some (.list (intsD ns)) := by
  have d : Den (a + 1) (a + 1) h (.ref a) (.list (intsD ns)) := .lst (by omega) (by omega) e1 denA_ints
  exact d.data dep (by simp only [PyData.depth, depth_ints]; decide)
theorem shaped_ints {ns : List Int} : PySem.SeqAt.shaped (.list (intsD ns)) = true := by
  unfold PySem.SeqAt.shaped
  rw [Bool.and_eq_true]
  exact ⟨by simp only [PyData.canLay0, lay_ints], by simp only [PyData.depth, depth_ints]; decide⟩
theorem o_in {a : Nat} {ns : List Int} {k : Int} (e1 : lstAt h a = some (ns.map .int)) : gIn (.int k) (.ref a) h = .ok (.bl (decide (k ∈ ns))) h := by
  have e2 : dataOf h dep (.int k) = some (.int k) := rfl
  unfold gIn
  simp only [e2, data_ints e1]
  rw [if_pos ⟨rfl, shaped_ints⟩, any_ints]
theorem o_notin {a : Nat} {ns : List Int} {k : Int} (e1 : lstAt h a = some (ns.map .int)) : gNotIn (.int k) (.ref a) h = .ok (.bl (!decide (k ∈ ns))) h := by
  have e2 : dataOf h dep (.int k) = some (.int k) := rfl
  unfold gNotIn
  simp only [e2, data_ints e1]
  rw [if_pos ⟨rfl, shaped_ints⟩, any_ints]
theorem hasM_at {n c : Nat} {fs : List (Str × W)} (e1 : h[n]? = some (.ins c fs)) (hf : fs.lookup nm = none) : hasM c nm (.ref n) h = true := by
  unfold hasM
  simp only [e1, hf]
  simp
end
/-! ### zip in a comprehension -/
section
variable {g : G} {t : T} {e : E} {r : Env} {h : MH} {D : Nat} {Q : W → MH → Prop} {gs : List G}
theorem wp_lcRows {src : Src2} (rows : List (List W)) (I : Nat → List W → MH → Prop) (hat : ∀ i acc h, I i acc h → src i h = some rows[i]?)
    (hb : ∀ i ws acc h, rows[i]? = some ws → h[D]? = some (.lst acc) → I i acc h → (gAll gs ws r h).wp (fun r1 h1 => (t r1 h1).wp (fun c h2 => if c = true then (e r1 h2).wp (fun y h3 => h3[D]? = some (.lst acc) ∧ I (i + 1) (acc ++ [y]) (h3.set D (.lst (acc ++ [y])))) (fun _ _ _ => False)
      else h2[D]? = some (.lst acc) ∧ I (i + 1) acc h2) (fun _ _ _ => False)) (fun _ _ _ => False)) (hend : ∀ acc h, h[D]? = some (.lst acc) → I rows.length acc h → Q (.ref D) h) (hx : rows.length < 9999999) :
    ∀ k i acc h, acc.length ≤ i → h[D]? = some (.lst acc) → I i acc h → i ≤ rows.length → rows.length < k + i → (lcRows src gs t e r D k i h).wp Q (fun _ _ _ => False) := by
  intro k
  induction k with
  | zero => intro i acc h _ _ _ h1 h2; omega
  | succ k ih =>
    intro i acc h la hD hi hl hk
    unfold lcRows
    rw [hat i acc h hi]
    cases ex : rows[i]? with
    | none =>
      have : i = rows.length := by have := List.getElem?_eq_none_iff.mp ex; omega
      subst this
      simp only [wp_ok]
      exact hend acc h hD hi
    | some ws =>
      have q := hb i ws acc h ex hD hi
      have hlt : i < rows.length := (List.getElem?_eq_some_iff.mp ex).1
      simp only []
      cases e1 : gAll gs ws r h with
      | ok r1 h1 =>
        rw [e1, wp_ok] at q
        simp only [wp_bind]
        refine q.imp (fun c h2 q2 => ?_) fun _ _ _ z => z
        by_cases cc : c = true
        · rw [if_pos cc] at q2 ⊢
          rw [wp_bind]
          refine q2.imp (fun y h3 ⟨z1, z2⟩ => ?_) fun _ _ _ z => z
          unfold lcAdd
          simp only [z1]
          rw [if_pos (by omega)]
          exact ih (i + 1) (acc ++ [y]) _ (by simp; omega) (set_at z1) z2 hlt (by omega)
        · rw [if_neg cc] at q2 ⊢
          exact ih (i + 1) acc h2 (by omega) q2.1 q2.2 hlt (by omega)
      | exc c d h1 => rw [e1, wp_exc] at q; exact q.elim
      | bad => rw [e1, wp_bad] at q; exact q.elim
def zipIn (x y : W) (vs : List Nat) (gs : List G) (t : T) (e : E) : E := eLcR vs (iZip (eC x) (eC y)) gs t e
@[simp] theorem wp_lcZ {ea eb : E} {X : XQ} {vs : List Nat} : (eLcR vs (iZip ea eb) gs t e r h).wp Q X = (ea r h).wp (fun x h1 => (eb r h1).wp (fun y h2 => (zipIn x y vs gs t e r h2).wp Q X) X) X := by
  unfold zipIn eLcR iZip
  simp only [wp_bind, eC, wp_ok]
/-- over zip(a tuple, a list), of one length -/
theorem wp_zip {a b : Nat} {xs ys : List W} {X : XQ} {vs : List Nat} (ea : tupAt h a = some xs) (eb : lstAt h b = some ys) (hl : xs.length = ys.length) (hx : xs.length < 9999999) (I : Nat → List W → MH → Prop) (hat : ∀ i acc h1, I i acc h1 → tupAt h1 a = some xs ∧ lstAt h1 b = some ys) (h0 : I 0 [] (h ++ [.lst []]))
    (hb : ∀ i x y acc h1, xs[i]? = some x → ys[i]? = some y → h1[h.length]? = some (.lst acc) → I i acc h1 → (gAll gs [x, y] (wipe r vs) h1).wp (fun r1 h1 => (t r1 h1).wp (fun c h2 => if c = true then (e r1 h2).wp (fun z h3 => h3[h.length]? = some (.lst acc) ∧ I (i + 1) (acc ++ [z]) (h3.set h.length (.lst (acc ++ [z])))) (fun _ _ _ => False)
      else h2[h.length]? = some (.lst acc) ∧ I (i + 1) acc h2) (fun _ _ _ => False)) (fun _ _ _ => False)) (hend : ∀ acc h1, h1[h.length]? = some (.lst acc) → I xs.length acc h1 → Q (.ref h.length) h1) : (zipIn (.ref a) (.ref b) vs gs t e r h).wp Q X := by
  have ka : kdAt h a = false := by
    unfold kdAt lstAt
    unfold tupAt at ea
    cases e : h[a]? with
    | none => rfl
    | some c => rw [e] at ea; cases c <;> first | rfl | (cases ea; done)
  have kb : kdAt h b = true := by unfold kdAt; rw [eb]; rfl
  unfold zipIn eLcR iZip
  simp only [wp_bind, eC, wp_ok]
  unfold zipOf
  simp only [ka, kb, seqK, ea, eb, wp_ok]
  have lz : (xs.zipWith (fun x y => [x, y]) ys).length = xs.length := by rw [List.length_zipWith, hl, Nat.min_self]
  refine quiet_wq ?_
  rw [← R.wp_eq]
  refine wp_lcRows (xs.zipWith (fun x y => [x, y]) ys) I (fun i acc h1 q => ?_) (fun i ws acc h1 e hD q => ?_) (fun acc h1 hD q => hend acc h1 hD (by rw [lz] at q; exact q)) (by rw [lz]; exact hx) _ 0 [] _ (Nat.le_refl _) (by simp) h0 (Nat.zero_le _) (by rw [lz]; omega)
  · obtain ⟨q1, q2⟩ := hat i acc h1 q
    unfold zipAt
    simp only [seqK, q1, q2]
    rw [List.getElem?_zipWith]
    cases xs[i]? <;> cases ys[i]? <;> rfl
  · rw [List.getElem?_zipWith] at e
    cases e3 : xs[i]? with
    | none => rw [e3] at e; cases e
    | some x =>
      cases e4 : ys[i]? with
      | none => rw [e3, e4] at e; cases e
      | some y =>
        rw [e3, e4] at e
        cases e
        exact hb i x y acc h1 e3 e4 hD q
end
end Mini
set_option Elab.async false
set_option autoImplicit false
set_option linter.all false
set_option maxRecDepth 100000
/-! Functions that many laws share, with their classes and errors as parameters. -/
namespace Lb
open Mini
def b_is_whole  : S :=
    (sRet (eAnd (eUn (gIsi .tInt) (eVar 0)) (eNot (eUn (gIsi .tBool) (eVar 0)))))
def m_is_whole  : F := fnOf 1 1 b_is_whole
def b_is_between  : S :=
    (sRet (eAnd (Mini.eCall m_is_whole (aCons (eVar 0) aNil)) (eChain gLe gLe (eVar 1) (eVar 0) (eVar 2))))
def m_is_between  : F := fnOf 3 3 b_is_between
def b_is_tuple_of  : S :=
    (sRet (eAnd (eUn (gIsi .tTuple) (eVar 0)) (eBin gEq (eFn fLen (aCons (eVar 0) aNil)) (eVar 1))))
def m_is_tuple_of  : F := fnOf 2 2 b_is_tuple_of
def b_is_contents  : S :=
    (sRet (eAnd (Mini.eCall m_is_tuple_of (aCons (eVar 0) (aCons (eVar 1) aNil))) (eFn fAll (aCons (eLc [3] (iSeq (eVar 0)) (gSet 3) Mini.tYes (Mini.eCall m_is_between (aCons (eVar 3) (aCons (eC (.int 0)) (aCons (eBin gSub (eVar 2) (eC (.int 1))) aNil))))) aNil))))
def m_is_contents  : F := fnOf 4 3 b_is_contents
def b_Disk___init__ (okB okC : Nat → Bool) (xB xC : Nat) : S :=
    (sSeq (Mini.sIf (Mini.tNot (tTru (Mini.eCall m_is_between (aCons (eVar 1) (aCons (eC (.int 1)) (aCons (eC (.int (24))) aNil))))))
    (sRaise xB ("given" : PySem.Str) (eVar 1))
    sNx)
    (sSeq (Mini.sIf (Mini.tNot (tTru (Mini.eCall m_is_between (aCons (eVar 2) (aCons (eC (.int 2)) (aCons (eC (.int (64))) aNil))))))
    (sRaise xC ("given" : PySem.Str) (eVar 2))
    sNx)
    (sSeq (sFldSet okB "blocks" (eVar 0) (eVar 1))
    (sFldSet okC "contents" (eVar 0) (eVar 2)))))
def m_Disk___init__ (okB okC : Nat → Bool) (xB xC : Nat) : F := fnOf 3 3 (b_Disk___init__ okB okC xB xC)
def b_Disk___eq__ (okB okC : Nat → Bool) (cD : Nat) : S :=
    (sRet (eAnd (eUn (gIsiC cD) (eVar 1)) (eAnd (eBin gEq (eFld okB "blocks" (eVar 0)) (eFld okB "blocks" (eVar 1))) (eBin gEq (eFld okC "contents" (eVar 0)) (eFld okC "contents" (eVar 1))))))
def m_Disk___eq__ (okB okC : Nat → Bool) (cD : Nat) : F := fnOf 2 2 (b_Disk___eq__ okB okC cD)
def b_power  : S :=
    (sSeq (sSet 2 (eC (.int 1)))
    (sSeq (Mini.sFor (Mini.iRng1 (eVar 1)) (gSet 3)
    (sSet 2 (eBin gMulX (eVar 2) (eVar 0))))
    (sRet (eVar 2))))
def m_power  : F := fnOf 4 2 b_power
def b_number_from  : S :=
    (sSeq (sSet 2 (eC (.int 0)))
    (sSeq (Mini.sFor (iSeq (eVar 0)) (gSet 3)
    (sSet 2 (eBin gAddX (eBin gMulX (eVar 2) (eVar 1)) (eVar 3))))
    (sRet (eVar 2))))
def m_number_from  : F := fnOf 4 2 b_number_from
def b_figures  : S :=
    (sSeq (sSet 3 (eLst aNil))
    (sSeq (Mini.sFor (Mini.iRng1 (eVar 2)) (gSet 4)
    (sSeq (sExpr (eApp (eVar 3) (eBin gMod (eVar 0) (eVar 1))))
    (sSet 0 (eBin gDiv (eVar 0) (eVar 1)))))
    (sRet (eFn fTuple (aCons (eRev (eVar 3)) aNil)))))
def m_figures  : F := fnOf 5 3 b_figures
def b_count (okB okC : Nat → Bool) : S :=
    (sRet (Mini.eCall m_power (aCons (eFld okC "contents" (eVar 0)) (aCons (eFld okB "blocks" (eVar 0)) aNil))))
def m_count (okB okC : Nat → Bool) : F := fnOf 1 1 (b_count okB okC)
def b_is_filling (okB okC : Nat → Bool) : S :=
    (sRet (Mini.eCall m_is_contents (aCons (eVar 1) (aCons (eFld okB "blocks" (eVar 0)) (aCons (eFld okC "contents" (eVar 0)) aNil)))))
def m_is_filling (okB okC : Nat → Bool) : F := fnOf 2 2 (b_is_filling okB okC)
def b_check_filling (okB okC : Nat → Bool) (eF : Nat) : S :=
    (Mini.sIf (Mini.tNot (tTru (Mini.eCall (m_is_filling okB okC) (aCons (eVar 0) (aCons (eVar 1) aNil)))))
    (sRaise eF ("given" : PySem.Str) (eVar 1))
    sNx)
def m_check_filling (okB okC : Nat → Bool) (eF : Nat) : F := fnOf 2 2 (b_check_filling okB okC eF)
def b_number_of (okB okC : Nat → Bool) (eF : Nat) : S :=
    (sSeq (sExpr (Mini.eCall (m_check_filling okB okC eF) (aCons (eVar 0) (aCons (eVar 1) aNil))))
    (sRet (Mini.eCall m_number_from (aCons (eVar 1) (aCons (eFld okC "contents" (eVar 0)) aNil)))))
def m_number_of (okB okC : Nat → Bool) (eF : Nat) : F := fnOf 2 2 (b_number_of okB okC eF)
def b_filling_at (okB okC : Nat → Bool) (eN : Nat) : S :=
    (sSeq (Mini.sIf (Mini.tNot (tTru (Mini.eCall m_is_between (aCons (eVar 1) (aCons (eC (.int 0)) (aCons (eBin gSub (Mini.eCall (m_count okB okC) (aCons (eVar 0) aNil)) (eC (.int 1))) aNil))))))
    (sRaise eN ("given" : PySem.Str) (eVar 1))
    sNx)
    (sRet (Mini.eCall m_figures (aCons (eVar 1) (aCons (eFld okC "contents" (eVar 0)) (aCons (eFld okB "blocks" (eVar 0)) aNil))))))
def m_filling_at (okB okC : Nat → Bool) (eN : Nat) : F := fnOf 2 2 (b_filling_at okB okC eN)
def b__law_cell (k0 : Int) : S :=
    (sRet (eIf (tBl (eBin gLtX (eVar 1) (eFn fLen (aCons (eVar 0) aNil)))) (eBin gIx (eVar 0) (eVar 1)) (eBin gAddX (eBin gAddX (eBin gMulX (eC (.int 6007)) (eVar 1)) (eC (.int k0))) (eBin gMod (eFn fInt (aCons (eFn fSum (aCons (eSl (eVar 0) oNo (oSo (eC (.int 1)))) aNil)) aNil)) (eC (.int 1000033))))))
def m__law_cell (k0 : Int) : F := fnOf 2 2 (b__law_cell k0)
def b__law_box  : S :=
    (sRet (eLst (aCons (eFn fAbs (aCons (eVar 0) aNil)) (aCons (eBin gGe (eFn fAbs (aCons (eVar 0) aNil)) (eBin gPow (eC (.int 10)) (eC (.int 18)))) (aCons (eBin gMod (eFn fInt (aCons (eFn fAbs (aCons (eVar 0) aNil)) aNil)) (eC (.int 2147483629))) (aCons (eC (.int 0)) aNil))))))
def m__law_box  : F := fnOf 1 1 b__law_box
def b__law_take (k0 : Int) : S :=
    (sSeq (Mini.sIf (Mini.tAnd (tTru (eBin gIx (eVar 0) (eC (.int 1)))) (tBl (eBin gGt (eBin gIx (eVar 0) (eC (.int 0))) (eC (.int 0)))))
    (sSeq (sSet 2 (eBin gMod (eFn fInt (aCons (eBin gIx (eVar 0) (eC (.int 0))) aNil)) (eVar 1)))
    (sSeq (sAsg (eBin gDiv (eBin gIx (eVar 0) (eC (.int 0))) (eVar 1)) (gSubL (eVar 0) (eC (.int 0))))
    (sRet (eVar 2))))
    sNx)
    (sSeq (sAsg (eBin gAddX (eBin gIx (eVar 0) (eC (.int 3))) (eC (.int 1))) (gSubL (eVar 0) (eC (.int 3))))
    (sSeq (sSet 3 (eBin gMod (eFn fInt (aCons (eBin gPow (eBin gAddX (eBin gAddX (eBin gIx (eVar 0) (eC (.int 2))) (eBin gMulX (eC (.int k0)) (eBin gIx (eVar 0) (eC (.int 3))))) (eC (.int 179424673))) (eC (.int 5))) aNil)) (eC (.int 2147483647))))
    (sRet (eBin gMod (eFn fInt (aCons (eBin gDiv (eBin gMod (eFn fInt (aCons (eBin gPow (eBin gAddX (eBin gMulX (eVar 3) (eC (.int 48271))) (eBin gMulX (eC (.int 104729)) (eBin gIx (eVar 0) (eC (.int 3))))) (eC (.int 3))) aNil)) (eC (.int 2147483587))) (eC (.int 64))) aNil)) (eVar 1))))))
def m__law_take (k0 : Int) : F := fnOf 4 2 (b__law_take k0)
end Lb
set_option Elab.async false
set_option autoImplicit false
set_option linter.all false
set_option maxRecDepth 100000
namespace Lb
open Mini
open PySem (Str PyData)
section
variable {h : MH} {w : W} {lo hi : Int} {Q : W → MH → Prop} {X : XQ} {n b : Nat}
/-! ### tests of values -/
def isInt : W → Bool
  | .int _ => true
  | _ => false
def btw (w : W) (lo hi : Int) : Bool := match w with
  | .int i => decide (lo ≤ i) && decide (i ≤ hi)
  | _ => false
theorem isi_ref (t : Ty) {n : Nat} (k : known (.ref n) h = true) : gIsi t (.ref n) h = .ok (.bl (isTy (kindOf (.ref n) h) t)) h := by
  unfold gIsi
  rw [if_pos k]
theorem isi_refI {n : Nat} (k : known (.ref n) h = true) : gIsi .tInt (.ref n) h = .ok (.bl false) h := by
  rw [isi_ref _ k]
  have : isTy (kindOf (.ref n) h) .tInt = false := by
    unfold kindOf
    simp only []
    cases e : h[n]? with
    | none => rfl
    | some c => cases c <;> rfl
  rw [this]
theorem whole_spec (k : known w h = true) (q : Q (.bl (isInt w)) h) : (m_is_whole [w] h).wp Q X := by
  unfold m_is_whole
  rw [wp_fn]
  cases w with
  | ref n =>
    simp -implicitDefEqProofs [b_is_whole, isi_refI k]
    exact q
  | _ =>
    simp -implicitDefEqProofs [b_is_whole]
    exact q
theorem between_spec (k : known w h = true) (q : Q (.bl (btw w lo hi)) h) : (m_is_between [w, .int lo, .int hi] h).wp Q X := by
  unfold m_is_between
  rw [wp_fn]
  simp -implicitDefEqProofs [b_is_between]
  refine whole_spec k ?_
  cases w with
  | int i =>
    simp -implicitDefEqProofs [isInt]
    unfold btw at q
    by_cases c : lo ≤ i <;> simp [c] at q ⊢ <;> exact q
  | _ =>
    simp -implicitDefEqProofs [isInt]
    exact q
/-- the items, if w is a tuple -/
theorem kind_tup (k : known w h = true) : isTy (kindOf w h) .tTuple = (tupOf h w).isSome := by
  cases w with
  | ref n =>
    unfold kindOf tupOf tupAt
    simp only []
    cases e : h[n]? with
    | none => rfl
    | some c => cases c <;> rfl
  | _ => rfl
def isTupN (h : MH) (w : W) (many : Int) : Bool := match tupOf h w with
  | some xs => decide ((xs.length : Int) = many)
  | none => false
theorem tupAt_len {p : Nat} {xs : List W} (e : tupAt h p = some xs) : fLen [.ref p] h = .ok (.int xs.length) h := o_len (tup_seq e)
theorem tuple_of_spec {many : Int} (k : known w h = true) (q : Q (.bl (isTupN h w many)) h) : (m_is_tuple_of [w, .int many] h).wp Q X := by
  unfold m_is_tuple_of
  rw [wp_fn]
  simp -implicitDefEqProofs [b_is_tuple_of]
  have e : gIsi .tTuple w h = .ok (.bl (tupOf h w).isSome) h := by
    unfold gIsi
    rw [if_pos k, kind_tup k]
  rw [e]
  unfold isTupN at q
  cases et : tupOf h w with
  | none =>
    rw [et] at q
    simp -implicitDefEqProofs
    exact q
  | some xs =>
    rw [et] at q
    simp -implicitDefEqProofs
    cases w with
    | ref p =>
      rw [tupAt_len et]
      simp -implicitDefEqProofs
      exact q
    | _ => cases et
/-- is w a tuple of so many contents -/
def isCon (h : MH) (w : W) (many cs : Int) : Bool := match tupOf h w with
  | some xs => decide ((xs.length : Int) = many) && xs.all fun x => btw x 0 (cs - 1)
  | none => false
structure Items (h : MH) (w : W) : Prop where
  kn : known w h = true
  it : ∀ xs, tupOf h w = some xs → xs.length < 9999999 ∧ ∀ x ∈ xs, known x h = true
theorem known_old {h' : MH} (O : Old h h') (k : known w h = true) : known w h' = true := by
  cases w with
  | ref n =>
    unfold known at k ⊢
    simp only [] at k ⊢
    cases e : h[n]? with
    | none => rw [e] at k; cases k
    | some c =>
      rw [O.at e]
      rw [e] at k
      cases c with
      | exo c d =>
        cases d with
        | none => rfl
        | some d =>
          simp only [xdAt] at k ⊢
          cases e2 : h[d]? with
          | none => rw [e2] at k; cases k
          | some c2 => rw [O.at e2]; rw [e2] at k; exact k
      | _ => exact k
  | _ => rfl
theorem contents_spec {many cs : Int} (I : Items h w) (q : ∀ h', Old h h' → Q (.bl (isCon h w many cs)) h') : (m_is_contents [w, .int many, .int cs] h).wp Q X := by
  unfold m_is_contents
  rw [wp_fn]
  simp -implicitDefEqProofs [b_is_contents]
  refine tuple_of_spec I.kn ?_
  unfold isCon at q
  unfold isTupN
  cases et : tupOf h w with
  | none =>
    rw [et] at q
    simp -implicitDefEqProofs
    exact q h (Old.refl _)
  | some xs =>
    rw [et] at q
    obtain ⟨hl, hk⟩ := I.it xs et
    by_cases c : (xs.length : Int) = many
    · simp -implicitDefEqProofs [c]
      cases w with
      | ref p =>
        obtain ⟨cl, ec, hs⟩ := seq_cell (tup_seq et)
        refine wp_lc_fm ec hs hl (fun x => some (.bl (btw x 0 (cs - 1)))) (fun x hx h1 O => ?_) (fun h' O e => ?_)
        · simp -implicitDefEqProofs
          refine between_spec (known_old O (hk x hx)) ?_
          exact ⟨rfl, Old.refl _⟩
        · have em : xs.filterMap (fun x => some (W.bl (btw x 0 (cs - 1)))) = (xs.map fun x => btw x 0 (cs - 1)).map .bl := by
            rw [List.filterMap_eq_map', List.map_map]; rfl
          rw [em] at e
          rw [o_all (lst_at e)]
          simp -implicitDefEqProofs
          have q' := q h' O
          simp only [c, decide_true, Bool.true_and] at q'
          simpa [List.all_map, Function.comp_def] using q'
      | _ => cases et
    · simp -implicitDefEqProofs [c]
      have q' := q h (Old.refl _)
      simpa [c] using q'
end
end Lb
set_option Elab.async false
set_option autoImplicit false
set_option linter.all false
set_option maxRecDepth 100000
namespace Lb
open Mini
open PySem (Str PyData)
/-- a row of numbers -/
abbrev nW (x : Nat) : W := .int (x : Int)
abbrev rowW (xs : List Nat) : List W := xs.map nW
/-! ### plain numbers -/
def numOf (b : Nat) (xs : List Nat) : Nat := xs.foldl (fun a x => a * b + x) 0
theorem numOf_snoc (b : Nat) (xs : List Nat) (x : Nat) : numOf b (xs ++ [x]) = numOf b xs * b + x := by unfold numOf; rw [List.foldl_append]; rfl
def figs (b : Nat) : Nat → Nat → List Nat
  | 0, _ => []
  | k + 1, n => figs b k (n / b) ++ [n % b]
theorem figs_len (b : Nat) : ∀ k n, (figs b k n).length = k
  | 0, _ => rfl
  | k + 1, n => by show (figs b k (n / b) ++ [n % b]).length = _; rw [List.length_append, figs_len b k]; rfl
theorem figs_lt {b : Nat} (hb : 0 < b) : ∀ k n, ∀ x ∈ figs b k n, x < b
  | 0, _, _, hx => nomatch hx
  | k + 1, n, x, hx => by
    rcases List.mem_append.mp (show x ∈ figs b k (n / b) ++ [n % b] from hx) with h | h
    · exact figs_lt hb k _ x h
    · rw [List.mem_singleton.mp h]; exact Nat.mod_lt _ hb
theorem num_figs {b : Nat} (hb : 0 < b) : ∀ k n, n < b ^ k → numOf b (figs b k n) = n
  | 0, n, h => by have : n = 0 := by simpa using h
                  subst this; rfl
  | k + 1, n, h => by
    have h1 : n / b < b ^ k := by rw [Nat.div_lt_iff_lt_mul hb, ← Nat.pow_succ]; exact h
    show numOf b (figs b k (n / b) ++ [n % b]) = n
    rw [numOf_snoc, num_figs hb k _ h1, Nat.mul_comm]
    exact Nat.div_add_mod n b
theorem snoc_cases {α : Type} (xs : List α) (h : xs ≠ []) : ∃ ys y, xs = ys ++ [y] := ⟨xs.dropLast, xs.getLast h, (List.dropLast_concat_getLast h).symm⟩
theorem figs_num {b : Nat} (hb : 0 < b) : ∀ (k : Nat) (xs : List Nat), xs.length = k → (∀ x ∈ xs, x < b) → figs b k (numOf b xs) = xs
  | 0, xs, h, _ => by rw [List.length_eq_zero_iff.mp h]; rfl
  | k + 1, xs, h, hx => by
    obtain ⟨ys, y, rfl⟩ := snoc_cases xs (by intro z; rw [z] at h; cases h)
    have hy : y < b := hx y (by simp)
    show figs b k (numOf b (ys ++ [y]) / b) ++ [numOf b (ys ++ [y]) % b] = _
    rw [numOf_snoc]
    have e1 : (numOf b ys * b + y) / b = numOf b ys := by rw [Nat.mul_comm, Nat.mul_add_div hb, Nat.div_eq_of_lt hy, Nat.add_zero]
    have e2 : (numOf b ys * b + y) % b = y := by rw [Nat.mul_comm, Nat.mul_add_mod, Nat.mod_eq_of_lt hy]
    rw [e1, e2, figs_num hb k ys (by simpa using h) fun x hx' => hx x (by simp [hx'])]
theorem num_lt {b : Nat} (hb : 0 < b) : ∀ (k : Nat) (xs : List Nat), xs.length = k → (∀ x ∈ xs, x < b) → numOf b xs < b ^ k
  | 0, xs, h, _ => by rw [List.length_eq_zero_iff.mp h]; exact Nat.one_pos
  | k + 1, xs, h, hx => by
    obtain ⟨ys, y, rfl⟩ := snoc_cases xs (by intro z; rw [z] at h; cases h)
    have hy : y < b := hx y (by simp)
    have ih := num_lt hb k ys (by simpa using h) fun x hx' => hx x (by simp [hx'])
    rw [numOf_snoc, Nat.pow_succ]
    have : (numOf b ys + 1) * b ≤ b ^ k * b := Nat.mul_le_mul_right b ih
    rw [Nat.add_mul] at this
    omega
theorem figs_range (b : Nat) : ∀ k n, figs b k n = ((List.range k).map fun j => n / b ^ j % b).reverse
  | 0, _ => rfl
  | k + 1, n => by
    show figs b k (n / b) ++ [n % b] = _
    rw [figs_range b k, List.range_succ_eq_map, List.map_cons, List.reverse_cons, List.map_map]
    congr 1
    · congr 1
      apply List.map_congr_left
      intro j _
      show n / b / b ^ j % b = n / b ^ (j + 1) % b
      rw [Nat.div_div_eq_div_mul, Nat.pow_succ, Nat.mul_comm]
    · simp
/-! ### draws -/
section
variable {h : MH} {Q : W → MH → Prop} {X : XQ}
theorem rOkN {k : Nat} (h : k ≤ 1000000000000) : rOk (k : Int) = true := by simp [rOk]; omega
theorem small64 {x : Int} (h0 : -1000000000000000 ≤ x) (h1 : x ≤ 1000000000000000) : x.natAbs < two64 := by simp only [two64]; omega
theorem div9000 {x : Nat} (h : x ≤ 2 ^ 64) : x < 2 ^ 9000 := Nat.lt_of_le_of_lt h (Nat.pow_lt_pow_right (by decide) (by decide))
/-- the box that is drawn from -/
def Box (h : MH) (b : Nat) (c : Int) : Prop := ∃ (z : Int) (f : Bool) (m k : Int), h[b]? = some (.lst [.int z, .bl f, .int m, .int k]) ∧ 0 ≤ m ∧ m < 2147483629 ∧ 0 ≤ k ∧ k ≤ c
theorem take_spec {b : Nat} {c many k0 : Int} (B : Box h b c) (hm : 0 < many) (hm2 : many ≤ 100000) (hc : c < 1000000) (h0 : 0 ≤ k0) (h1 : k0 ≤ 200000000)
    (q : ∀ (d : Nat) h', (d : Int) < many → Box h' b (c + 1) → Ch b h h' → h'.length = h.length → Q (.int d) h') : (m__law_take k0 [.ref b, .int many] h).wp Q X := by
  obtain ⟨z, f, m, k, e, m0, m1, k0', k1⟩ := B
  unfold m__law_take
  rw [wp_fn]
  have hb := lt_of_at e
  have dk : divOk z many = true := div_ok hm (div9000 (by omega))
  have p0 : 0 ≤ k0 * (k + 1) := Int.mul_nonneg h0 (by omega)
  have p2 : k0 * (k + 1) ≤ 200000000 * 1000001 := Int.mul_le_mul h1 (by omega) (by omega) (by decide)
  have tail : ∀ d h', 0 ≤ d → d < many → (∃ z', h' = h.set b (.lst [.int z', .bl f, .int m, .int k])) ∨ h' = h.set b (.lst [.int z, .bl f, .int m, .int (k + 1)]) → Q (.int d) h' := by
    rintro d h' d0 d1 hh
    obtain ⟨d, rfl⟩ : ∃ e : Nat, d = e := ⟨d.toNat, by omega⟩
    rcases hh with ⟨z', rfl⟩ | rfl
    · exact q d _ d1 ⟨z', f, m, k, set_at e, m0, m1, k0', by omega⟩ (Ch.set _ _ _) (by simp)
    · exact q d _ d1 ⟨z, f, m, k + 1, set_at e, m0, m1, by omega, by omega⟩ (Ch.set _ _ _) (by simp)
  have p1 : powOk (m + k0 * (k + 1) + 179424673) 5 = true := pow_ok (by omega) (by omega) (by simp only [two64]; omega)
  have p3 : mulOk k0 (k + 1) = true := mul_ok (small64 (by omega) (by omega))
  simp -implicitDefEqProofs [b__law_take, o_ix (seq_lst e), o_put e, o_ix (seq_lst (set_at' hb)), dk, hm, p1, p3]
  have rest : mulOk ((m + k0 * (k + 1) + 179424673) ^ 5 % 2147483647) 48271 = true ∧ mulOk 104729 (k + 1) = true ∧
      powOk ((m + k0 * (k + 1) + 179424673) ^ 5 % 2147483647 * 48271 + 104729 * (k + 1)) 3 = true ∧
        divOk (((m + k0 * (k + 1) + 179424673) ^ 5 % 2147483647 * 48271 + 104729 * (k + 1)) ^ 3 % 2147483587) 64 = true ∧
          Q (W.int (((m + k0 * (k + 1) + 179424673) ^ 5 % 2147483647 * 48271 + 104729 * (k + 1)) ^ 3 % 2147483587 / 64 % many))
            (h.set b (.lst [.int z, .bl f, .int m, .int (k + 1)])) := by
    generalize (m + k0 * (k + 1) + 179424673) ^ 5 = y
    have y0 := Int.emod_nonneg y (by decide : (2147483647 : Int) ≠ 0)
    have y1 := Int.emod_lt_of_pos y (by decide : (0 : Int) < 2147483647)
    refine ⟨mul_ok2 (by decide), mul_ok (by decide), pow_ok (by omega) (by omega) (by simp only [two64]; omega), div_ok (by decide) (div9000 (by decide)), ?_⟩
    exact tail _ _ (Int.emod_nonneg _ (by omega)) (Int.emod_lt_of_pos _ hm) (.inr rfl)
  split
  · split
    · exact tail _ _ (Int.emod_nonneg _ (by omega)) (Int.emod_lt_of_pos _ hm) (.inl ⟨_, rfl⟩)
    · exact rest
  · exact rest
theorem box_spec {g : Int} (q : ∀ h', Box h' h.length 0 → Old h h' → h'.length = h.length + 1 → Q (.ref h.length) h') : (m__law_box [.int g] h).wp Q X := by
  unfold m__law_box
  rw [wp_fn]
  simp -implicitDefEqProofs [b__law_box]
  exact ⟨by decide, q _ ⟨_, _, _, _, new_at h _, Int.emod_nonneg _ (by decide), Int.emod_lt_of_pos _ (by decide), Int.le_refl _, Int.le_refl _⟩ (Old.app _ _) (by simp)⟩
/-- the script's cell -/
def Scr (h : MH) (s : Nat) (ns : List Int) : Prop := h[s]? = some (.fz (ns.map .int)) ∨ h[s]? = some (.cl (ns.map .int))
theorem Scr.seq {s : Nat} {ns : List Int} (S : Scr h s ns) : seqAt h s = some (ns.map .int) := by
  rcases S with e | e
  · exact seq_fz e
  · exact seq_cl e
theorem Scr.lt {s : Nat} {ns : List Int} (S : Scr h s ns) : s < h.length := by
  rcases S with e | e <;> exact lt_of_at e
theorem Scr.kp {h' : MH} {n b s : Nat} {ns : List Int} (S : Scr h s ns) (C : Kp n b h h') (h1 : s < n) (hn : s ≠ b) : Scr h' s ns := by
  rcases S with e | e
  · exact .inl ((C.eq s h1 hn).trans e)
  · exact .inr ((C.eq s h1 hn).trans e)
theorem ints_map (ns : List Int) : intsOf (ns.map .int) = some ns := by
  induction ns with
  | nil => rfl
  | cons n ns ih => show (intsOf (ns.map .int)).map (n :: ·) = _; rw [ih]; rfl
theorem cut_map (ns : List Int) (lo hi : Option Int) : ∃ ms : List Int, cut (ns.map W.int) lo hi = ms.map .int := ⟨_, by unfold cut; rw [← List.map_drop, ← List.map_take]⟩
theorem Scr.slice {s : Nat} {ns : List Int} (S : Scr h s ns) (lo hi : Option Int) : ∃ ms : List Int, slice (.ref s) lo hi h = .ok (.ref h.length) (h ++ [.lst (ms.map .int)]) := by
  obtain ⟨ms, e⟩ := cut_map ns lo hi
  refine ⟨ms, ?_⟩
  rcases S with q | q <;> (unfold Mini.slice; simp only [q, e])
theorem sum_ints {n : Nat} {ms : List Int} (e : h[n]? = some (.lst (ms.map .int))) : fSum [.ref n] h = .ok (.int ms.sum) h := by
  unfold fSum
  simp only [e, ints_map]
theorem cell_spec {s : Nat} {k : Nat} {k0 : Int} {ns : List Int} (S : Scr h s ns) (hk : k < 1000) (q : ∀ v h', Old h h' → Q (.int v) h') : (m__law_cell k0 [.ref s, .int k] h).wp Q X := by
  unfold m__law_cell
  rw [wp_fn]
  obtain ⟨ms, e⟩ := S.slice none (some 1)
  simp -implicitDefEqProofs [b__law_cell, o_len S.seq, eSl, e, sum_ints (new_at h _), o_ix S.seq]
  split
  · rename_i c
    have c' : k < ns.length := by omega
    rw [item_nn (w := .int ns[k]) k (by simp [c'])]
    exact q _ _ (Old.refl _)
  · exact ⟨mul_ok (by decide), q _ _ (Old.app _ _)⟩
theorem Box.mono {b : Nat} {c c' : Int} (B : Box h b c) (hc : c ≤ c' := by omega) : Box h b c' := by
  obtain ⟨z, f, m, k, e, a1, a2, a3, a4⟩ := B
  exact ⟨z, f, m, k, e, a1, a2, a3, by omega⟩
theorem Box.lt {b : Nat} {c : Int} (B : Box h b c) : b < h.length := by
  obtain ⟨z, f, m, k, e, _⟩ := B
  exact lt_of_at e
theorem Box.old {h' : MH} {b : Nat} {c : Int} (B : Box h b c) (O : Old h h') : Box h' b c := by
  obtain ⟨z, f, m, k, e, r⟩ := B
  exact ⟨z, f, m, k, O.at e, r⟩
theorem Box.app {b : Nat} {c : Int} (B : Box h b c) (t : List Cell) : Box (h ++ t) b c := B.old (Old.app _ _)
theorem Box.set {b p : Nat} {c : Int} (B : Box h b c) (x : Cell) (hp : p ≠ b) : Box (h.set p x) b c := by
  obtain ⟨z, f, m, k, e, r⟩ := B
  exact ⟨z, f, m, k, by rw [List.getElem?_set_ne hp]; exact e, r⟩
end
end Lb
set_option Elab.async false
set_option autoImplicit false
set_option linter.all false
set_option maxRecDepth 100000
namespace Lb
open Mini
open PySem (Str PyData)
section
variable {h : MH} {Q : W → MH → Prop} {X : XQ} {okB okC : Nat → Bool} {cD eF eN xB xC : Nat}
/-! ### powers, numbers, figures -/
theorem power_spec {base many : Nat} (hb : base ≤ 1000000000) (hm : many ≤ 1000000000) (q : Q (.int ((base ^ many : Nat) : Int)) h) : (m_power [.int base, .int many] h).wp Q X := by
  unfold m_power
  rw [wp_fn]
  simp -implicitDefEqProofs [b_power, ws_for, o_rng1, rOkN (show many ≤ 1000000000000 by omega)]
  refine ws_rng (fun i r h1 => h1 = h ∧ ∃ v, r = [some (.int base), some (.int many), some (.int ((base ^ i : Nat) : Int)), v]) ⟨rfl, none, by simp⟩ ?_ ?_
  · rintro i r h1 hi ⟨rfl, v, rfl⟩
    simp -implicitDefEqProofs only [gSet, wp_ok, ws_set, eBin, wp_bind, eVar]
    simp -implicitDefEqProofs
    exact ⟨mul_ok2 (small64 (by omega) (by omega)), by simp [Int.pow_succ]⟩
  · rintro r h1 ⟨rfl, v, rfl⟩
    simp -implicitDefEqProofs
    simpa using q
theorem row_get {xs : List Nat} {i : Nat} {w : W} (e : (rowW xs)[i]? = some w) : ∃ x, xs[i]? = some x ∧ w = nW x := by
  rw [List.getElem?_map] at e
  cases e1 : xs[i]? with
  | none => rw [e1] at e; cases e
  | some x => rw [e1] at e; cases e; exact ⟨x, rfl, rfl⟩
theorem number_spec {base p : Nat} {c : Cell} {xs : List Nat} (hb : base ≤ 1000000000) (e : h[p]? = some c) (hs : itemsOf c = some (rowW xs)) (q : Q (.int (numOf base xs : Nat)) h) : (m_number_from [.ref p, .int base] h).wp Q X := by
  unfold m_number_from
  rw [wp_fn]
  simp -implicitDefEqProofs [b_number_from]
  refine ws_sq e hs (fun i r h1 => h1 = h ∧ ∃ v, r = [some (.ref p), some (.int base), some (.int (numOf base (xs.take i) : Nat)), v]) ⟨rfl, none, rfl⟩ (fun i r h1 w => by rw [w.1]; exact e) ?_ ?_
  · rintro i x r h1 hx ⟨rfl, v, rfl⟩
    obtain ⟨y, hy, rfl⟩ := row_get hx
    have tk : xs.take (i + 1) = xs.take i ++ [y] := by rw [List.take_add_one, hy]; rfl
    simp -implicitDefEqProofs
    refine ⟨mul_ok2 (small64 (by omega) (by omega)), ?_⟩
    rw [tk, numOf_snoc]
    simp
  · rintro r h1 ⟨rfl, v, rfl⟩
    simp -implicitDefEqProofs
    simpa using q
theorem figures_spec {n base many : Nat} (hb : 0 < base) (hb2 : base ≤ 1000000000) (hm : many ≤ 1000000) (q : ∀ z h', h.length ≤ z → Old h h' → h'[z]? = some (.tup (rowW (figs base many n))) → Q (.ref z) h') : (m_figures [.int n, .int base, .int many] h).wp Q X := by
  unfold m_figures
  rw [wp_fn]
  simp -implicitDefEqProofs [b_figures, ws_for, o_rng1, rOkN (show many ≤ 1000000000000 by omega)]
  refine ws_rng (fun i r h1 => Old h h1 ∧ h1[h.length]? = some (.lst (rowW ((List.range i).map fun j => n / base ^ j % base))) ∧ ∃ v, r = [some (.int ((n / base ^ i : Nat) : Int)), some (.int base), some (.int many), some (.ref h.length), v]) ⟨Old.app _ _, by simp, none, by simp⟩ ?_ ?_
  · rintro i r h1 hi ⟨O, e, v, rfl⟩
    have hbi : 0 < (base : Int) := by omega
    simp -implicitDefEqProofs only [gSet, wp_ok, ws_seq, ws_expr, eApp, wp_bind, eVar, List.set_cons_succ, List.set_cons_zero, List.getElem?_cons_zero, List.getElem?_cons_succ, isLst_at e, if_true]
    simp -implicitDefEqProofs only [eBin, wp_bind, eVar, List.getElem?_cons_zero, List.getElem?_cons_succ, wp_ok, o_mod, hbi, true_and]
    have ap : ∀ y, app (.ref h.length) y h1 = .ok .non (h1.set h.length (.lst (rowW ((List.range i).map fun j => n / base ^ j % base) ++ [y]))) := fun y => by
      unfold app
      simp only [e]
      rw [if_pos (by simp; omega)]
    rw [ap]
    simp -implicitDefEqProofs
    refine ⟨div_ok hbi (div9000 (by omega)), ⟨by rw [List.length_set]; exact O.1, fun j hj => by rw [List.getElem?_set_ne (by omega)]; exact O.2 j hj⟩, ?_, ?_⟩
    · rw [List.getElem?_set_self (lt_of_at e)]
      simp [List.range_succ]
    · have z : n / base ^ i / base = n / base ^ (i + 1) := by rw [Nat.div_div_eq_div_mul, Nat.pow_succ]
      exact_mod_cast congrArg (fun x : Nat => (x : Int)) z
  · rintro r h1 ⟨O, e, v, rfl⟩
    simp -implicitDefEqProofs
    rw [o_rev (lst_at e)]
    simp -implicitDefEqProofs
    rw [o_tuple (lst_at (new_at h1 _))]
    simp -implicitDefEqProofs
    refine q _ _ (by have := O.1; simp; omega) ((O.trans (Old.app _ _))) ?_
    rw [figs_range]
    simp [rowW]
/-! ### disks -/
def DiskAt (h : MH) (z cD n m : Nat) : Prop := h[z]? = some (.ins cD [("blocks", .int n), ("contents", .int m)])
structure Sizes (n m : Nat) : Prop where
  n0 : 1 ≤ n
  n1 : n ≤ 24
  m0 : 2 ≤ m
  m1 : m ≤ 64
theorem btw_nat {n a b : Nat} (h0 : a ≤ n) (h1 : n ≤ b) : btw (.int n) a b = true := by simp [btw]; omega
theorem disk_ok {n m : Nat} (S : Sizes n m) (hB : okB cD = true) (hC : okC cD = true) (q : Q (.ref h.length) (h ++ [.ins cD [("blocks", .int n), ("contents", .int m)]])) : (newIns cD (m_Disk___init__ okB okC xB xC) [.int n, .int m] h).wp Q X := by
  obtain ⟨n0, n1, m0, m1⟩ := S
  refine o_new ?_
  unfold m_Disk___init__
  rw [wp_fn]
  simp -implicitDefEqProofs [b_Disk___init__]
  refine between_spec rfl ?_
  have e1 : btw (.int n) 1 24 = true := btw_nat n0 n1
  have e2 : btw (.int m) 2 64 = true := btw_nat m0 m1
  simp -implicitDefEqProofs [e1]
  refine between_spec rfl ?_
  simp -implicitDefEqProofs [e2]
  have p0 : putFs "blocks" (.int n) [] = ([("blocks", .int n)] : List (Str × W)) := rfl
  have p1 : putFs "contents" (.int m) ([("blocks", .int n)] : List (Str × W)) = ([("blocks", .int n), ("contents", .int m)] : List (Str × W)) := by unfold putFs; rw [if_neg (by decide +kernel)]; rfl
  rw [o_fldPut (fs := []) (new_at h _) hB (by simp), p0]
  simp -implicitDefEqProofs
  rw [o_fldPut (fs := [("blocks", .int n)]) (by simp) hC (by simp), p1]
  simpa using q
theorem disk_badB {a c : W} (k : known a h = true) (hb : btw a 1 24 = false) (q : ∀ h', Old h h' → X xB (some (h.length + 1)) (h ++ [.ins cD [], .xd [("given", a)]])) : (newIns cD (m_Disk___init__ okB okC xB xC) [a, c] h).wp Q X := by
  refine o_new ?_
  unfold m_Disk___init__
  rw [wp_fn]
  simp -implicitDefEqProofs [b_Disk___init__]
  refine between_spec (known_old (Old.app _ _) k) ?_
  simp -implicitDefEqProofs [hb]
  exact q h (Old.refl _)
theorem disk_badC {a c : W} (k : known a h = true) (k2 : known c h = true) (hb : btw a 1 24 = true) (hc : btw c 2 64 = false) (q : X xC (some (h.length + 1)) (h ++ [.ins cD [], .xd [("given", c)]])) : (newIns cD (m_Disk___init__ okB okC xB xC) [a, c] h).wp Q X := by
  refine o_new ?_
  unfold m_Disk___init__
  rw [wp_fn]
  simp -implicitDefEqProofs [b_Disk___init__]
  refine between_spec (known_old (Old.app _ _) k) ?_
  simp -implicitDefEqProofs [hb]
  refine between_spec (known_old (Old.app _ _) k2) ?_
  simp -implicitDefEqProofs [hc]
  exact q
theorem DiskAt.blocks {z n m : Nat} (D : DiskAt h z cD n m) (hB : okB cD = true) : fldOf okB "blocks" (.ref z) h = .ok (.int n) h := o_fld D hB rfl
theorem DiskAt.contents {z n m : Nat} (D : DiskAt h z cD n m) (hC : okC cD = true) : fldOf okC "contents" (.ref z) h = .ok (.int m) h := o_fld D hC rfl
theorem DiskAt.old {h' : MH} {z n m : Nat} (D : DiskAt h z cD n m) (O : Old h h') : DiskAt h' z cD n m := O.at D
theorem DiskAt.kp {h' : MH} {z n m k b : Nat} (D : DiskAt h z cD n m) (C : Kp k b h h') (h1 : z < k) (h2 : z ≠ b) : DiskAt h' z cD n m := (C.eq z h1 h2).trans D
theorem disk_eq {z1 z2 n1 m1 n2 m2 : Nat} (D1 : DiskAt h z1 cD n1 m1) (D2 : DiskAt h z2 cD n2 m2) (hB : okB cD = true) (hC : okC cD = true) (q : Q (.bl (decide (n1 = n2) && decide (m1 = m2))) h) : (m_Disk___eq__ okB okC cD [.ref z1, .ref z2] h).wp Q X := by
  unfold m_Disk___eq__
  rw [wp_fn]
  simp -implicitDefEqProofs [b_Disk___eq__, isiC_ins D2, D1.blocks hB, D2.blocks hB]
  by_cases c : n1 = n2
  · have e : decide ((m1 : Int) = m2) = decide (m1 = m2) := decide_eq_decide.mpr (by omega)
    simp -implicitDefEqProofs [c, D1.contents hC, D2.contents hC, e]
    simpa [c] using q
  · have c' : ¬ ((n1 : Int) = n2) := by omega
    simp -implicitDefEqProofs [c']
    simpa [c] using q
theorem disk_eq_other {z1 : Nat} {w : W} (k : known w h = true) (hc : clsOf w h ≠ some cD) (q : Q (.bl false) h) : (m_Disk___eq__ okB okC cD [.ref z1, w] h).wp Q X := by
  unfold m_Disk___eq__
  rw [wp_fn]
  have e : gIsiC cD w h = .ok (.bl false) h := by
    unfold gIsiC
    rw [if_pos k]
    have : (clsOf w h == some cD) = false := by simpa using hc
    rw [this]
  simp -implicitDefEqProofs [b_Disk___eq__, e]
  exact q
theorem count_spec {z n m : Nat} (D : DiskAt h z cD n m) (hn : n ≤ 24) (hm : m ≤ 64) (hB : okB cD = true) (hC : okC cD = true) (q : Q (.int ((m ^ n : Nat) : Int)) h) : (m_count okB okC [.ref z] h).wp Q X := by
  unfold m_count
  rw [wp_fn]
  simp -implicitDefEqProofs [b_count, D.blocks hB, D.contents hC]
  exact power_spec (by omega) (by omega) q
theorem is_filling_spec {z n m : Nat} {w : W} (D : DiskAt h z cD n m) (hB : okB cD = true) (hC : okC cD = true) (I : Items h w) (q : ∀ h', Old h h' → Q (.bl (isCon h w n m)) h') : (m_is_filling okB okC [.ref z, w] h).wp Q X := by
  unfold m_is_filling
  rw [wp_fn]
  simp -implicitDefEqProofs [b_is_filling, D.blocks hB, D.contents hC]
  exact contents_spec I q
theorem check_filling_ok {z n m : Nat} {w : W} (D : DiskAt h z cD n m) (hB : okB cD = true) (hC : okC cD = true) (I : Items h w) (f : isCon h w n m = true) (q : ∀ h', Old h h' → Q .non h') : (m_check_filling okB okC eF [.ref z, w] h).wp Q X := by
  unfold m_check_filling
  rw [wp_fn]
  simp -implicitDefEqProofs [b_check_filling]
  refine is_filling_spec D hB hC I fun h' O => ?_
  simp -implicitDefEqProofs [f]
  exact q h' O
theorem check_filling_bad {z n m : Nat} {w : W} (D : DiskAt h z cD n m) (hB : okB cD = true) (hC : okC cD = true) (I : Items h w) (f : isCon h w n m = false) (q : ∀ h', Old h h' → X eF (some h'.length) (h' ++ [.xd [("given", w)]])) : (m_check_filling okB okC eF [.ref z, w] h).wp Q X := by
  unfold m_check_filling
  rw [wp_fn]
  simp -implicitDefEqProofs [b_check_filling]
  refine is_filling_spec D hB hC I fun h' O => ?_
  simp -implicitDefEqProofs [f]
  exact q h' O
/-- a filling of a disk with n blocks and m contents -/
structure Fil (n m : Nat) (xs : List Nat) : Prop where
  len : xs.length = n
  lt : ∀ x ∈ xs, x < m
/-- a row of numbers in a tuple -/
def RowAt (h : MH) (p : Nat) (xs : List Nat) : Prop := tupAt h p = some (rowW xs)
theorem tupAt_lt {p : Nat} {ws : List W} (e : tupAt h p = some ws) : p < h.length := by
  unfold tupAt at e
  cases e1 : h[p]? with
  | none => rw [e1] at e; cases e
  | some c => exact lt_of_at e1
theorem tupAt_old {h' : MH} {p : Nat} {ws : List W} (e : tupAt h p = some ws) (O : Old h h') : tupAt h' p = some ws := (tupAt_eq (O.2 p (tupAt_lt e))).trans e
theorem tupAt_kp {h' : MH} {p k b : Nat} {ws : List W} (e : tupAt h p = some ws) (C : Kp k b h h') (h1 : p < k) (h2 : p ≠ b) : tupAt h' p = some ws := (tupAt_eq (C.eq p h1 h2)).trans e
theorem RowAt.tup {p : Nat} {xs : List Nat} (R : RowAt h p xs) : tupAt h p = some (rowW xs) := R
theorem RowAt.seq {p : Nat} {xs : List Nat} (R : RowAt h p xs) : seqAt h p = some (rowW xs) := tup_seq R
theorem RowAt.lt {p : Nat} {xs : List Nat} (R : RowAt h p xs) : p < h.length := tupAt_lt R
theorem RowAt.old {h' : MH} {p : Nat} {xs : List Nat} (R : RowAt h p xs) (O : Old h h') : RowAt h' p xs := tupAt_old R O
theorem RowAt.kp {h' : MH} {p k b : Nat} {xs : List Nat} (R : RowAt h p xs) (C : Kp k b h h') (h1 : p < k) (h2 : p ≠ b) : RowAt h' p xs := tupAt_kp R C h1 h2
theorem tup_known {p : Nat} {ws : List W} (e : tupAt h p = some ws) : known (.ref p) h = true := by
  unfold tupAt at e
  unfold Mini.known
  simp only []
  cases e1 : h[p]? with
  | none => rw [e1] at e; cases e
  | some c => rw [e1] at e; cases c <;> first | rfl | (cases e; done)
theorem RowAt.known {p : Nat} {xs : List Nat} (R : RowAt h p xs) : known (.ref p) h = true := tup_known R
theorem RowAt.items {p : Nat} {xs : List Nat} (R : RowAt h p xs) (hl : xs.length < 9999999) : Items h (.ref p) := ⟨R.known, fun ys e => by
  have : ys = rowW xs := Option.some.inj (e.symm.trans R.tup)
  subst this
  refine ⟨by rw [List.length_map]; exact hl, fun x hx => ?_⟩
  obtain ⟨y, _, rfl⟩ := List.mem_map.mp hx
  rfl⟩
theorem RowAt.con {p n m : Nat} {xs : List Nat} (R : RowAt h p xs) : isCon h (.ref p) n m = (decide (xs.length = n) && xs.all fun x => decide (x < m)) := by
  unfold isCon tupOf
  simp only [R.tup, List.length_map, List.all_map]
  congr 1
  · apply decide_eq_decide.mpr; omega
  · apply List.all_congr rfl
    intro x
    simp [btw]
    omega
theorem Fil.con {p n m : Nat} {xs : List Nat} (F : Fil n m xs) (R : RowAt h p xs) : isCon h (.ref p) n m = true := by
  rw [R.con]
  simp [F.len]
  exact F.lt
theorem number_of_spec {z p n m : Nat} {xs : List Nat} (D : DiskAt h z cD n m) (hn : n ≤ 24) (hm : m ≤ 64) (hB : okB cD = true) (hC : okC cD = true) (F : Fil n m xs) (R : RowAt h p xs) (q : ∀ h', Old h h' → Q (.int (numOf m xs : Nat)) h') : (m_number_of okB okC eF [.ref z, .ref p] h).wp Q X := by
  unfold m_number_of
  rw [wp_fn]
  simp -implicitDefEqProofs [b_number_of]
  refine check_filling_ok D hB hC (R.items (by have := F.len; omega)) (F.con R) fun h' O => ?_
  simp -implicitDefEqProofs [(D.old O).contents hC]
  obtain ⟨c, ec, hs⟩ := seq_cell (R.old O).seq
  exact number_spec (by omega) ec hs (q h' O)
theorem number_of_bad {z n m : Nat} {w : W} (D : DiskAt h z cD n m) (hB : okB cD = true) (hC : okC cD = true) (I : Items h w) (f : isCon h w n m = false) (q : ∀ h', Old h h' → X eF (some h'.length) (h' ++ [.xd [("given", w)]])) : (m_number_of okB okC eF [.ref z, w] h).wp Q X := by
  unfold m_number_of
  rw [wp_fn]
  simp -implicitDefEqProofs [b_number_of]
  exact check_filling_bad D hB hC I f fun h' O => q h' O
theorem filling_at_spec {z n m k : Nat} (D : DiskAt h z cD n m) (hn : n ≤ 24) (hm : 0 < m) (hm2 : m ≤ 64) (hB : okB cD = true) (hC : okC cD = true) (hk : k < m ^ n) (q : ∀ p h', h.length ≤ p → Old h h' → h'[p]? = some (.tup (rowW (figs m n k))) → Q (.ref p) h') : (m_filling_at okB okC eN [.ref z, .int k] h).wp Q X := by
  unfold m_filling_at
  rw [wp_fn]
  simp -implicitDefEqProofs [b_filling_at]
  refine count_spec D hn hm2 hB hC ?_
  simp -implicitDefEqProofs
  refine between_spec rfl ?_
  have e : btw (.int (k : Int)) 0 ((m : Int) ^ n - 1) = true := by
    have : ((m ^ n : Nat) : Int) = (m : Int) ^ n := by simp
    simp only [btw, Bool.and_eq_true, decide_eq_true_eq]
    omega
  simp -implicitDefEqProofs [e, D.blocks hB, D.contents hC]
  exact figures_spec hm (by omega) (by omega) q
theorem filling_at_bad {z n m : Nat} {w : W} (D : DiskAt h z cD n m) (hn : n ≤ 24) (hm2 : m ≤ 64) (hB : okB cD = true) (hC : okC cD = true) (k : known w h = true) (f : btw w 0 ((m ^ n : Nat) - 1 : Int) = false) (q : X eN (some h.length) (h ++ [.xd [("given", w)]])) : (m_filling_at okB okC eN [.ref z, w] h).wp Q X := by
  unfold m_filling_at
  rw [wp_fn]
  simp -implicitDefEqProofs [b_filling_at]
  refine count_spec D hn hm2 hB hC ?_
  simp -implicitDefEqProofs
  refine between_spec k ?_
  have e : ((m ^ n : Nat) : Int) = (m : Int) ^ n := by simp
  rw [e] at f
  simp -implicitDefEqProofs [f]
  exact q
/-! ### tuples: repeated, joined, cut -/
theorem rep_spec {p : Nat} {k : Nat} {x : W} (e : tupAt h p = some [x]) (hk : k ≤ 1000) (q : ∀ p' h', Old h h' → tupAt h' p' = some (List.replicate k x) → (p' = p ∨ h.length ≤ p') → Q (.ref p') h') : (gMulX (.ref p) (.int k) h).wp Q X := by
  by_cases c1 : k = 1
  · subst c1
    rw [show ((1 : Nat) : Int) = 1 by rfl, o_repX1 e (by simp), wp_ok]
    exact q p h (Old.refl _) e (.inl rfl)
  · by_cases c0 : k = 0
    · subst c0
      rw [show ((0 : Nat) : Int) = 0 by rfl, o_repX0 e (by simp), wp_ok]
      exact q _ _ (Old.app _ _) (tup_at (new_at h _)) (.inr (Nat.le_refl _))
    · rw [o_repX e (by simp) (by omega) (by omega) (by simp), wp_ok]
      refine q _ _ (Old.app _ _) (tup_at ?_) (.inr (Nat.le_refl _))
      rw [new_at]
      have : ∀ k : Nat, (List.replicate k [x]).flatten = List.replicate k x := fun k => by
        induction k with
        | zero => rfl
        | succ k ih => rw [List.replicate_succ, List.flatten_cons, ih]; rfl
      rw [Int.toNat_natCast, this]
theorem cat_spec {p p2 : Nat} {xs ys : List W} (e : tupAt h p = some xs) (e2 : tupAt h p2 = some ys) (hl : xs.length + ys.length ≤ 10000000) (q : ∀ p' h', Old h h' → tupAt h' p' = some (xs ++ ys) → (p' = p ∨ p' = p2 ∨ h.length ≤ p') → Q (.ref p') h') : (gAddX (.ref p) (.ref p2) h).wp Q X := by
  by_cases c1 : xs = []
  · subst c1
    rw [o_catX1 e e2 (by simpa using hl), wp_ok]
    exact q p2 h (Old.refl _) e2 (.inr (.inl rfl))
  · by_cases c2 : ys = []
    · subst c2
      rw [o_catX2 e e2 (by simpa using hl) c1, wp_ok]
      exact q p h (Old.refl _) (by rw [List.append_nil]; exact e) (.inl rfl)
    · rw [o_catX e e2 hl c1 c2, wp_ok]
      exact q _ _ (Old.app _ _) (tup_at (new_at h _)) (.inr (.inr (Nat.le_refl _)))
theorem slice_tup {p : Nat} {xs : List W} {l u : Option Int} (e : tupAt h p = some xs) (hw : ¬ (sIx xs.length 0 l = 0 ∧ sIx xs.length xs.length u = xs.length)) : slice (.ref p) l u h = .ok (.ref h.length) (h ++ [.tup (cut xs l u)]) := by
  unfold tupAt at e
  unfold slice
  simp only []
  cases e1 : h[p]? with
  | none => rw [e1] at e; cases e
  | some c => rw [e1] at e; cases c <;> first | (cases e; simp only []; rw [if_neg hw]) | (cases e; done)
end
end Lb
set_option Elab.async false
set_option autoImplicit false
set_option linter.all false
set_option maxRecDepth 100000
namespace Lb
open Mini
open PySem (Str PyData)
section
variable {h : MH} {p q : Nat} {xs ys : List Nat}
def toI (xs : List Nat) : List Int := xs.map fun (x : Nat) => (x : Int)
theorem row_ints : rowW xs = (toI xs).map .int := by unfold rowW toI; rw [List.map_map]; rfl
theorem toI_inj : toI xs = toI ys ↔ xs = ys := by
  constructor
  · intro e
    have := congrArg (List.map Int.toNat) e
    simpa [toI, List.map_map, Function.comp_def] using this
  · intro e; rw [e]
theorem eq_rows (R1 : RowAt h p xs) (R2 : RowAt h q ys) : gEq (.ref p) (.ref q) h = .ok (.bl (decide (xs = ys))) h := by
  rw [eq_tups (xs := toI xs) (ys := toI ys) (by rw [← row_ints]; exact R1) (by rw [← row_ints]; exact R2)]
  simp only [toI_inj]
theorem ne_rows (R1 : RowAt h p xs) (R2 : RowAt h q ys) : gNe (.ref p) (.ref q) h = .ok (.bl (!decide (xs = ys))) h := by
  rw [ne_tups (xs := toI xs) (ys := toI ys) (by rw [← row_ints]; exact R1) (by rw [← row_ints]; exact R2)]
  simp only [toI_inj]
theorem ne_nils (e1 : lstAt h p = some []) (e2 : lstAt h q = some []) : gNe (.ref p) (.ref q) h = .ok (.bl false) h := by
  have d1 : Den (p + 1) (p + 1) h (.ref p) (.list []) := .lst (by omega) (by omega) e1 .nil
  have d2 : Den (q + 1) (q + 1) h (.ref q) (.list []) := .lst (by omega) (by omega) e2 .nil
  rw [ne_den d1 d2 rfl rfl (by decide) (by decide)]
  rfl
theorem lt_rows (R1 : RowAt h p xs) (R2 : RowAt h q ys) : gLtX (.ref p) (.ref q) h = .ok (.bl (rowLt (toI xs) (toI ys))) h := by
  have im : ∀ ns : List Int, intsOf (ns.map .int) = some ns := ints_map
  have e1 : tupOf h (.ref p) = some ((toI xs).map .int) := by rw [← row_ints]; exact R1
  have e2 : tupOf h (.ref q) = some ((toI ys).map .int) := by rw [← row_ints]; exact R2
  unfold gLtX
  simp only [e1, e2, Option.bind, im]
/-- numbers and rows are ordered alike -/
theorem num_cons {m : Nat} (x : Nat) (xs : List Nat) : numOf m (x :: xs) = x * m ^ xs.length + numOf m xs := by
  have : ∀ (xs : List Nat) (a : Nat), xs.foldl (fun a x => a * m + x) a = a * m ^ xs.length + numOf m xs := by
    intro xs
    induction xs with
    | nil => intro a; simp [numOf]
    | cons y ys ih =>
      intro a
      show ys.foldl (fun a x => a * m + x) (a * m + y) = _
      rw [ih]
      show (a * m + y) * m ^ ys.length + numOf m ys = a * m ^ (ys.length + 1) + (ys.foldl (fun a x => a * m + x) (0 * m + y))
      rw [ih, Nat.pow_succ, Nat.add_mul]
      simp only [Nat.zero_mul, Nat.zero_add]
      rw [Nat.mul_assoc, Nat.mul_comm m (m ^ ys.length)]
      omega
  show xs.foldl (fun a x => a * m + x) (0 * m + x) = _
  rw [this]
  simp
theorem rowLt_num {m : Nat} (hm : 0 < m) : ∀ {xs ys : List Nat}, xs.length = ys.length → (∀ x ∈ xs, x < m) → (∀ y ∈ ys, y < m) → rowLt (toI xs) (toI ys) = decide (numOf m xs < numOf m ys)
  | [], [], _, _, _ => by simp [toI, rowLt]
  | [], _ :: _, h, _, _ => by cases h
  | _ :: _, [], h, _, _ => by cases h
  | x :: xs, y :: ys, h, hx, hy => by
    have hl : xs.length = ys.length := by simpa using h
    have ih := rowLt_num hm hl (fun z hz => hx z (List.mem_cons_of_mem _ hz)) (fun z hz => hy z (List.mem_cons_of_mem _ hz))
    have n1 := num_lt hm xs.length xs rfl (fun z hz => hx z (List.mem_cons_of_mem _ hz))
    have n2 := num_lt hm ys.length ys rfl (fun z hz => hy z (List.mem_cons_of_mem _ hz))
    rw [num_cons, num_cons]
    show (if (x : Int) = y then rowLt (toI xs) (toI ys) else decide ((x : Int) < y)) = _
    rw [← hl] at n2 ⊢
    by_cases c : x = y
    · subst c
      rw [if_pos rfl, ih]
      apply decide_eq_decide.mpr
      omega
    · rw [if_neg (by omega)]
      apply decide_eq_decide.mpr
      constructor
      · intro lt
        have : (x + 1) * m ^ xs.length ≤ y * m ^ xs.length := Nat.mul_le_mul_right _ (by omega)
        rw [Nat.add_mul] at this
        omega
      · intro lt
        have : ¬ y < x := fun z => by
          have : (y + 1) * m ^ xs.length ≤ x * m ^ xs.length := Nat.mul_le_mul_right _ (by omega)
          rw [Nat.add_mul] at this
          omega
        omega
theorem figs_zero {m : Nat} (hm : 0 < m) : ∀ n, figs m n 0 = List.replicate n 0
  | 0 => rfl
  | n + 1 => by show figs m n (0 / m) ++ [0 % m] = _; rw [Nat.zero_div, Nat.zero_mod, figs_zero hm n, List.replicate_succ']
theorem figs_top {m : Nat} (hm : 0 < m) : ∀ n, figs m n (m ^ n - 1) = List.replicate n (m - 1)
  | 0 => rfl
  | n + 1 => by
    have p : 0 < m ^ n := Nat.pow_pos hm
    have e : m ^ (n + 1) - 1 = m * (m ^ n - 1) + (m - 1) := by
      rw [Nat.pow_succ, Nat.mul_comm (m ^ n) m, Nat.mul_sub]
      have : m ≤ m * m ^ n := Nat.le_mul_of_pos_right m p
      omega
    show figs m n ((m ^ (n + 1) - 1) / m) ++ [(m ^ (n + 1) - 1) % m] = _
    have e1 : (m * (m ^ n - 1) + (m - 1)) / m = m ^ n - 1 := by rw [Nat.mul_add_div hm, Nat.div_eq_of_lt (by omega), Nat.add_zero]
    have e2 : (m * (m ^ n - 1) + (m - 1)) % m = m - 1 := by rw [Nat.mul_add_mod, Nat.mod_eq_of_lt (by omega)]
    rw [e, e1, e2, figs_top hm n, List.replicate_succ']
end
end Lb
set_option Elab.async false
set_option autoImplicit false
set_option linter.all false
set_option maxRecDepth 100000
namespace Lb
open Mini
open PySem (Str PyData)
def b__law_same : S :=
    (sSeq (Mini.sIf (tTru (eUn (gIsi .tList) (eVar 2)))
    (sExpr (eApp (eVar 2) (eC (.str ("more" : PySem.Str)))))
    sNx)
    (sSeq (Mini.sIf (tTru (eUn (gIsi .tDict) (eVar 2)))
    (sDput (eVar 2) (eC (.str ("more" : PySem.Str))) (eC (.int 1)))
    sNx)
    (sRet (eAnd (eBin gEq (eBin gIx (eVar 0) (eC (.int 0))) (eVar 1)) (eBin gEq (eFn fRepr (aCons (eBin gIx (eVar 0) (eC (.int 1))) aNil)) (eFn fRepr (aCons (eVar 2) aNil)))))))
def m__law_same : F := fnOf 3 3 b__law_same
section
variable {h : MH} {b : Nat} {c : Int} {Q : W → MH → Prop} {X : XQ} {w : W}
/-! ### the passed value told again: the same text -/
/-- a value that may be passed and told again; what is told of it stands below its own cell, which is at lo or behind -/
inductive Odd (lo b : Nat) (h : MH) : W → Prop where
  | dat {w : W} {d : PyData} {k : Nat} (hk : k ≤ h.length) (q : Den k b h w d) (N : Nic 8 1000000 d) (nl : ∀ ds, d ≠ .list ds) : Odd lo b h w
  | lst {p : Nat} {xs : List W} {ds : List PyData} (hp : lo ≤ p) (hb : p ≠ b) (e : h[p]? = some (.lst xs)) (q : DenA p b h xs ds) (N : ∀ d ∈ ds, Nic 7 100000 d) (hl : xs.length ≤ 90) : Odd lo b h (.ref p)
  | dic {p : Nat} (hp : lo ≤ p) (hb : p ≠ b) (e : h[p]? = some (.dic [])) : Odd lo b h (.ref p)
theorem Odd.up {lo : Nat} {h' : MH} (O : Odd lo b h w) (C : Kp h.length b h h') : Odd lo b h' w := by
  cases O with
  | dat hk q N nl => exact .dat (by have := C.le; omega) (q.keep (C.low hk) (Nat.le_refl _)) N nl
  | lst hp hb e q N hl => exact .lst hp hb ((C.eq _ (lt_of_at e) hb).trans e) (q.keep (C.low (by have := lt_of_at e; omega)) (Nat.le_refl _)) N hl
  | dic hp hb e => exact .dic hp hb ((C.eq _ (lt_of_at e) hb).trans e)
theorem den_kind {k : Nat} {d : PyData} (q : Den k b h w d) : known w h = true ∧ (∀ t, gIsi t w h = .ok (.bl (isTy (kindOf w h) t)) h) ∧ ((∃ ds, d = .list ds) ∨ isTy (kindOf w h) .tList = false) ∧ isTy (kindOf w h) .tDict = false := by
  have kn : known w h = true := by
    cases q with
    | @lst p xs ds hp hb e q =>
      unfold lstAt at e
      unfold Mini.known
      simp only []
      cases e1 : h[p]? with
      | none => rw [e1] at e; cases e
      | some c => rw [e1] at e; cases c <;> first | rfl | (cases e; done)
    | tup hp hb e q => exact tup_known e
    | _ => rfl
  refine ⟨kn, fun t => by unfold gIsi; rw [if_pos kn], ?_, ?_⟩
  · cases q with
    | lst hp hb e q => exact .inl ⟨_, rfl⟩
    | @tup p xs ds hp hb e q =>
      refine .inr ?_
      unfold tupAt at e
      unfold kindOf
      simp only []
      cases e1 : h[p]? with
      | none => rw [e1] at e; cases e
      | some c => rw [e1] at e; cases c <;> first | rfl | (cases e; done)
    | _ => exact .inr rfl
  · cases q with
    | @lst p xs ds hp hb e q =>
      unfold lstAt at e
      unfold kindOf
      simp only []
      cases e1 : h[p]? with
      | none => rw [e1] at e; cases e
      | some c => rw [e1] at e; cases c <;> first | rfl | (cases e; done)
    | @tup p xs ds hp hb e q =>
      unfold tupAt at e
      unfold kindOf
      simp only []
      cases e1 : h[p]? with
      | none => rw [e1] at e; cases e
      | some c => rw [e1] at e; cases c <;> first | rfl | (cases e; done)
    | _ => rfl
theorem same_spec {lo t : Nat} {s : Str} (O : Odd lo b h w) (et : h[t]? = some (.lst [.str s, w])) (ht : ∀ p, w = .ref p → p < t) (q : ∀ h', Kp lo b h h' → (∀ c, Box h b c → Box h' b c) → Q (.bl true) h') : (m__law_same [.ref t, .str s, w] h).wp Q X := by
  unfold m__law_same
  rw [wp_fn]
  cases O with
  | @dat w d k hk qd N nl =>
    obtain ⟨k1, k2, k3, k4⟩ := den_kind qd
    have k3' : isTy (kindOf w h) .tList = false := k3.resolve_left fun ⟨ds, e⟩ => nl ds e
    have e := repr_den qd N (by omega) (by omega)
    simp -implicitDefEqProofs [b__law_same, k2, k3', k4, o_ix (seq_lst et), e]
    exact q h (Kp.refl _ _ _) fun _ B => B
  | @lst p xs ds hp hb e qd N hl =>
    have pt := ht p rfl
    have la : isTy (kindOf (.ref p) h) .tList = true ∧ isTy (kindOf (.ref p) h) .tDict = false := by unfold kindOf; simp only [e]; exact ⟨rfl, rfl⟩
    have kn : known (.ref p) h = true := by unfold Mini.known; simp only [e]
    have k2 : gIsi .tList (.ref p) h = .ok (.bl true) h := by unfold gIsi; rw [if_pos kn, la.1]
    have e2 : (h.set p (.lst (xs ++ [.str "more"])))[p]? = some (.lst (xs ++ [.str "more"])) := set_at e
    have k3 : gIsi .tDict (.ref p) (h.set p (.lst (xs ++ [.str "more"]))) = .ok (.bl false) (h.set p (.lst (xs ++ [.str "more"]))) := k_lst _ e2
    have ap : app (.ref p) (.str "more") h = .ok .non (h.set p (.lst (xs ++ [.str "more"]))) := by
      unfold app
      simp only [e]
      rw [if_pos (by omega)]
    have et2 : (h.set p (.lst (xs ++ [.str "more"])))[t]? = some (.lst [.str s, .ref p]) := by rw [List.getElem?_set_ne (by omega)]; exact et
    have C : Kp p b h (h.set p (.lst (xs ++ [.str "more"]))) := (Kp.refl p b h).set _ (.inl (Nat.le_refl _))
    have D2 : Den (p + 1) b (h.set p (.lst (xs ++ [.str "more"]))) (.ref p) (.list (ds ++ [.str "more"])) := by
      refine .lst (by omega) hb (lst_at e2) ?_
      have z := (qd.keep C (Nat.le_refl _)).up (m := p + 1) (by omega)
      exact z.snoc (.str _)
    have dl : ds.length ≤ 90 := by rw [← qd.len]; exact hl
    have N2 : Nic 8 10000000 (.list (ds ++ [.str "more"])) := by
      refine (nic_list (k := 7) (s := 100000) (fun d hd => ?_)).mono (by omega) (by simp; omega)
      rcases List.mem_append.mp hd with z | z
      · exact N d z
      · rw [(List.mem_singleton.mp z)]
        exact ⟨by decide +kernel, by decide, by decide +kernel, by decide +kernel⟩
    have er := repr_den D2 N2 (by omega) (by omega)
    simp -implicitDefEqProofs [b__law_same, k2, eApp, isLst_at e, ap, k3, o_ix (seq_lst et2), er]
    exact q _ (C.low hp) fun c B => B.set _ hb
  | @dic p hp hb e =>
    have pt := ht p rfl
    have kn : known (.ref p) h = true := by unfold Mini.known; simp only [e]
    have k2 : gIsi .tList (.ref p) h = .ok (.bl false) h := k_dic _ e
    have k3 : gIsi .tDict (.ref p) h = .ok (.bl true) h := k_dic _ e
    have dp : dput (.int 1) (.ref p) (.str "more") h = .ok () (h.set p (.dic [(.inr "more", .int 1)])) := by
      unfold dput
      simp only [e]
      rfl
    have et2 : (h.set p (.dic [(.inr "more", .int 1)]))[t]? = some (.lst [.str s, .ref p]) := by rw [List.getElem?_set_ne (by omega)]; exact et
    have er : fRepr [.ref p] (h.set p (.dic [(.inr "more", .int 1)])) = .ok (.str (PyData.dict [(.str "more", .int 1)]).shown) (h.set p (.dic [(.inr "more", .int 1)])) := by
      unfold fRepr
      have : dataR (h.set p (.dic [(.inr "more", .int 1)])) (.ref p) = some (.dict [(.str "more", .int 1)]) := by
        unfold dataR dicAt
        simp only [set_at e]
        rfl
      simp only [this]
      rw [if_pos ⟨by decide +kernel, by decide +kernel, by decide +kernel⟩]
    simp -implicitDefEqProofs [b__law_same, k2, k3, dp, o_ix (seq_lst et2), er]
    exact q _ ((Kp.refl lo b h).set _ (.inl hp)) fun c B => B.set _ hb
section
variable {d n m : Nat}
def rowD (xs : List Nat) : List PyData := xs.map fun (x : Nat) => .int (x : Int)
theorem denA_row {k : Nat} : ∀ {xs : List Nat}, DenA k b h (rowW xs) (rowD xs)
  | [] => .nil
  | x :: xs => .cons (.int _) denA_row
theorem nic_row {m : Nat} (hm : m ≤ 1000) {xs : List Nat} (hx : ∀ x ∈ xs, x < m) : ∀ d ∈ rowD xs, Nic 7 9000 d := fun d hd => by
  obtain ⟨x, hx', rfl⟩ := List.mem_map.mp hd
  have := hx x hx'
  exact (nic_int (by rw [Int.natAbs_natCast]; exact Nat.lt_of_lt_of_le (by omega : x < 2 ^ 10) (Nat.pow_le_pow_right (by decide) (by decide)))).mono (by omega) (by omega)
theorem odd_tup {lo k p : Nat} {ws : List W} {ds : List PyData} (e : tupAt h p = some ws) (hp : p < k) (hk : k ≤ h.length) (hb : p ≠ b) (q : DenA k b h ws ds) (N : ∀ d ∈ ds, Nic 7 9000 d) (hl : ws.length ≤ 60) : Odd lo b h (.ref p) := by
  have := q.len
  exact .dat hk (.tup hp hb e q) ((nic_tuple N).mono (by omega) (by rw [← this]; have : ws.length * 9002 ≤ 60 * 9002 := Nat.mul_le_mul_right _ hl; omega)) fun _ z => nomatch z
theorem items_tup {p : Nat} {ws : List W} (e : tupAt h p = some ws) (hl : ws.length ≤ 60) (hk : ∀ x ∈ ws, known x h = true) : Items h (.ref p) := ⟨tup_known e, fun xs ex => by
  have : xs = ws := Option.some.inj (ex.symm.trans e)
  subst this
  exact ⟨by omega, hk⟩⟩
theorem con_tup {p : Nat} {ws : List W} {n m : Nat} (e : tupAt h p = some ws) (hf : ws.length ≠ n ∨ ∃ x ∈ ws, btw x 0 (m - 1) = false) : isCon h (.ref p) n m = false := by
  unfold isCon tupOf
  simp only [e]
  rcases hf with z | ⟨x, hx, z⟩
  · have : decide ((ws.length : Int) = n) = false := decide_eq_false (by omega)
    rw [this]; rfl
  · have : (ws.all fun x => btw x 0 (m - 1)) = false := List.all_eq_false.mpr ⟨x, hx, by rw [z]; exact Bool.false_ne_true⟩
    rw [this, Bool.and_false]
theorem known_row {xs : List Nat} : ∀ x ∈ rowW xs, known x h = true := fun x hx => by
  obtain ⟨y, _, rfl⟩ := List.mem_map.mp hx
  rfl
theorem nic_small {i : Int} (h0 : -1000000000000 ≤ i) (h1 : i ≤ 1000000000000) : Nic 7 9000 (.int i) :=
  (nic_int (Nat.lt_of_lt_of_le (by omega : i.natAbs < 2 ^ 60) (Nat.pow_le_pow_right (by decide) (by decide)))).mono (by omega) (by omega)
theorem cut_take {xs : List W} {a : Nat} (ha : a < xs.length) : cut xs none (some (a : Int)) = xs.take a := by
  unfold cut sIx
  simp only [Nat.sub_zero, List.drop_zero]
  rw [if_neg (by omega)]
  congr 1
  omega
theorem cut_drop {xs : List W} {a : Nat} (ha : a ≤ xs.length) : cut xs (some (a : Int)) none = xs.drop a := by
  unfold cut sIx
  simp only []
  rw [if_neg (by omega)]
  rw [show min ((a : Int)).toNat xs.length = a by omega]
  rw [List.take_of_length_le (by rw [List.length_drop]; omega)]
theorem row_take {xs : List Nat} {a : Nat} : (rowW xs).take a = rowW (xs.take a) := by unfold rowW; rw [List.map_take]
theorem row_drop {xs : List Nat} {a : Nat} : (rowW xs).drop a = rowW (xs.drop a) := by unfold rowW; rw [List.map_drop]
theorem con_non {n m : Int} (e : tupOf h w = none) : isCon h w n m = false := by unfold isCon; simp only [e]
theorem items_non (k : known w h = true) (e : tupOf h w = none) : Items h w := ⟨k, fun xs ex => by rw [e] at ex; cases ex⟩
theorem lst_known {p : Nat} {ws : List W} (e : h[p]? = some (.lst ws)) : known (.ref p) h = true ∧ tupOf h (.ref p) = none := by
  unfold Mini.known tupOf tupAt
  simp only [e]
  exact ⟨trivial, trivial⟩
theorem dic_known {p : Nat} {kvs : List (Sum Int Str × W)} (e : h[p]? = some (.dic kvs)) : known (.ref p) h = true ∧ tupOf h (.ref p) = none := by
  unfold Mini.known tupOf tupAt
  simp only [e]
  exact ⟨trivial, trivial⟩
/-- a content that is none -/
structure OddC (h : MH) (b m : Nat) (w : W) : Prop where
  kn : known w h = true
  no : btw w 0 (m - 1) = false
  dn : ∃ d k, k ≤ h.length ∧ Den k b h w d ∧ Nic 7 9000 d
theorem OddC.old {h' : MH} (O : OddC h b m w) (k : Old h h') : OddC h' b m w := ⟨known_old k O.kn, O.no, by
  obtain ⟨d, j, hj, q, N⟩ := O.dn
  exact ⟨d, j, Nat.le_trans hj k.1, q.keep ((k.kp b).low hj) (Nat.le_refl _), N⟩⟩
end
end
end Lb
set_option linter.all false
set_option autoImplicit false
set_option Elab.async false
set_option maxRecDepth 100000
namespace K03
open Mini
def b_is_whole : S :=
    (sRet (eAnd (eUn (gIsi .tInt) (eVar 0)) (eNot (eUn (gIsi .tBool) (eVar 0)))))
def m_is_whole : F := fnOf 1 1 b_is_whole
def b_is_between : S :=
    (sRet (eAnd (Mini.eCall m_is_whole (aCons (eVar 0) aNil)) (eChain gLe gLe (eVar 1) (eVar 0) (eVar 2))))
def m_is_between : F := fnOf 3 3 b_is_between
def b_is_tuple_of : S :=
    (sRet (eAnd (eUn (gIsi .tTuple) (eVar 0)) (eBin gEq (eFn fLen (aCons (eVar 0) aNil)) (eVar 1))))
def m_is_tuple_of : F := fnOf 2 2 b_is_tuple_of
def b_is_contents : S :=
    (sRet (eAnd (Mini.eCall m_is_tuple_of (aCons (eVar 0) (aCons (eVar 1) aNil))) (eFn fAll (aCons (eLc [3] (iSeq (eVar 0)) (gSet 3) Mini.tYes (Mini.eCall m_is_between (aCons (eVar 3) (aCons (eC (.int 0)) (aCons (eBin gSub (eVar 2) (eC (.int 1))) aNil))))) aNil))))
def m_is_contents : F := fnOf 4 3 b_is_contents
def b_Disk___init__ : S :=
    (sSeq (Mini.sIf (Mini.tNot (tTru (Mini.eCall m_is_between (aCons (eVar 1) (aCons (eC (.int 1)) (aCons (eC (.int (24))) aNil))))))
    (sRaise 0 ("given" : PySem.Str) (eVar 1))
    sNx)
    (sSeq (Mini.sIf (Mini.tNot (tTru (Mini.eCall m_is_between (aCons (eVar 2) (aCons (eC (.int 2)) (aCons (eC (.int (64))) aNil))))))
    (sRaise 1 ("given" : PySem.Str) (eVar 2))
    sNx)
    (sSeq (sFldSet (fun c => decide (c = 7)) "blocks" (eVar 0) (eVar 1))
    (sFldSet (fun c => decide (c = 7)) "contents" (eVar 0) (eVar 2)))))
def m_Disk___init__ : F := fnOf 3 3 b_Disk___init__
def b_Disk___eq__ : S :=
    (sRet (eAnd (eUn (gIsiC 7) (eVar 1)) (eAnd (eBin gEq (eFld (fun c => decide (c = 7)) "blocks" (eVar 0)) (eFld (fun c => decide (c = 7)) "blocks" (eVar 1))) (eBin gEq (eFld (fun c => decide (c = 7)) "contents" (eVar 0)) (eFld (fun c => decide (c = 7)) "contents" (eVar 1))))))
def m_Disk___eq__ : F := fnOf 2 2 b_Disk___eq__
def b_figures : S :=
    (sSeq (sSet 3 (eLst aNil))
    (sSeq (Mini.sFor (Mini.iRng1 (eVar 2)) (gSet 4)
    (sSeq (sExpr (eApp (eVar 3) (eBin gMod (eVar 0) (eVar 1))))
    (sSet 0 (eBin gDiv (eVar 0) (eVar 1)))))
    (sRet (eFn fTuple (aCons (eRev (eVar 3)) aNil)))))
def m_figures : F := fnOf 5 3 b_figures
def b_is_block : S :=
    (sRet (Mini.eCall m_is_between (aCons (eVar 1) (aCons (eC (.int 0)) (aCons (eBin gSub (eFld (fun c => decide (c = 7)) "blocks" (eVar 0)) (eC (.int 1))) aNil)))))
def m_is_block : F := fnOf 2 2 b_is_block
def b_is_content : S :=
    (sRet (Mini.eCall m_is_between (aCons (eVar 1) (aCons (eC (.int 0)) (aCons (eBin gSub (eFld (fun c => decide (c = 7)) "contents" (eVar 0)) (eC (.int 1))) aNil)))))
def m_is_content : F := fnOf 2 2 b_is_content
def b_is_filling : S :=
    (sRet (Mini.eCall m_is_contents (aCons (eVar 1) (aCons (eFld (fun c => decide (c = 7)) "blocks" (eVar 0)) (aCons (eFld (fun c => decide (c = 7)) "contents" (eVar 0)) aNil)))))
def m_is_filling : F := fnOf 2 2 b_is_filling
def b_check_filling : S :=
    (Mini.sIf (Mini.tNot (tTru (Mini.eCall m_is_filling (aCons (eVar 0) (aCons (eVar 1) aNil)))))
    (sRaise 2 ("given" : PySem.Str) (eVar 1))
    sNx)
def m_check_filling : F := fnOf 2 2 b_check_filling
def b_after : S :=
    (sSeq (sSet 2 (eFn fList (aCons (eVar 0) aNil)))
    (sSeq (Mini.sFor (iSeq (eVar 1)) (gSeqT [(gSet 3), (gSet 4)])
    (sAsg (eVar 4) (gSubL (eVar 2) (eVar 3))))
    (sRet (eFn fTuple (aCons (eVar 2) aNil)))))
def m_after : F := fnOf 5 2 b_after
def b_menus : S :=
    (sSeq (sSet 4 (eLc [5] (iSeq (eVar 1)) (gSet 5) Mini.tYes (eLst (aCons (eVar 5) aNil))))
    (sSeq (Mini.sFor (iSeq (eVar 2)) (gSeqT [(gSet 6), (gSet 5)])
    (sExpr (eApp (eBin gIx (eVar 4) (eVar 6)) (eVar 5))))
    (sSeq (Mini.sIf (tTru (eVar 3))
    (sRet (eLc [7] (iSeq (eVar 4)) (gSet 7) Mini.tYes (eIf (tBl (eBin gGt (eFn fLen (aCons (eVar 7) aNil)) (eC (.int 1)))) (eLRng (eFld (fun c => decide (c = 7)) "contents" (eVar 0))) (eVar 7))))
    sNx)
    (sRet (eLc [7] (iSeq (eVar 4)) (gSet 7) Mini.tYes (eFn fSortU (aCons (eVar 7) aNil)))))))
def m_menus : F := fnOf 8 4 b_menus
def b_left_count : S :=
    (sSeq (sSet 4 (eC (.int 1)))
    (sSeq (Mini.sFor (iSeq (Mini.eCall m_menus (aCons (eVar 0) (aCons (eVar 1) (aCons (eVar 2) (aCons (eVar 3) aNil)))))) (gSet 5)
    (sSet 4 (eBin gMulX (eVar 4) (eFn fLen (aCons (eVar 5) aNil)))))
    (sRet (eVar 4))))
def m_left_count : F := fnOf 6 4 b_left_count
def b_left_numbers : S :=
    (sSeq (sSet 4 (eLst (aCons (eC (.int 0)) aNil)))
    (sSeq (Mini.sFor (iSeq (Mini.eCall m_menus (aCons (eVar 0) (aCons (eVar 1) (aCons (eVar 2) (aCons (eVar 3) aNil)))))) (gSet 5)
    (sSet 4 (eLc2 [6, 7] [7] (iSeq (eVar 4)) (gSet 6) Mini.tYes (iSeq (eVar 5)) (gSet 7) Mini.tYes (eBin gAddX (eBin gMulX (eVar 6) (eFld (fun c => decide (c = 7)) "contents" (eVar 0))) (eVar 7)))))
    (sRet (eVar 4))))
def m_left_numbers : F := fnOf 8 4 b_left_numbers
def b_Drive___init__ : S :=
    (sSeq (sExpr (Mini.eCall m_check_filling (aCons (eVar 1) (aCons (eVar 2) aNil))))
    (sSeq (sFldSet (fun c => decide (c = 8)) "disk" (eVar 0) (eVar 1))
    (sSeq (sFldSet (fun c => decide (c = 8)) "torn" (eVar 0) (eVar 3))
    (sSeq (sFldSet (fun c => decide (c = 8)) "_settled" (eVar 0) (eVar 2))
    (sFldSet (fun c => decide (c = 8)) "_pending" (eVar 0) (eLst aNil))))))
def m_Drive___init__ : F := fnOf 4 4 b_Drive___init__
def b_Drive_write : S :=
    (sSeq (Mini.sIf (Mini.tNot (tTru (Mini.eCall m_is_block (aCons (eFld (fun c => decide (c = 8)) "disk" (eVar 0)) (aCons (eVar 1) aNil)))))
    (sRaise 3 ("given" : PySem.Str) (eVar 1))
    sNx)
    (sSeq (Mini.sIf (Mini.tNot (tTru (Mini.eCall m_is_content (aCons (eFld (fun c => decide (c = 8)) "disk" (eVar 0)) (aCons (eVar 2) aNil)))))
    (sRaise 4 ("given" : PySem.Str) (eVar 2))
    sNx)
    (sExpr (eApp (eFld (fun c => decide (c = 8)) "_pending" (eVar 0)) (eTup (aCons (eVar 1) (aCons (eVar 2) aNil)))))))
def m_Drive_write : F := fnOf 3 3 b_Drive_write
def b_Drive_pending : S :=
    (sRet (eFn fList (aCons (eFld (fun c => decide (c = 8)) "_pending" (eVar 0)) aNil)))
def m_Drive_pending : F := fnOf 1 1 b_Drive_pending
def b_Drive_settled : S :=
    (sRet (eFld (fun c => decide (c = 8)) "_settled" (eVar 0)))
def m_Drive_settled : F := fnOf 1 1 b_Drive_settled
def b_Drive_filling : S :=
    (sRet (Mini.eCall m_after (aCons (eFld (fun c => decide (c = 8)) "_settled" (eVar 0)) (aCons (eFld (fun c => decide (c = 8)) "_pending" (eVar 0)) aNil))))
def m_Drive_filling : F := fnOf 1 1 b_Drive_filling
def b_Drive_sync : S :=
    (sSeq (sSet 1 (eFn fLen (aCons (eFld (fun c => decide (c = 8)) "_pending" (eVar 0)) aNil)))
    (sSeq (sFldSet (fun c => decide (c = 8)) "_settled" (eVar 0) (eMethN 8 "filling" m_Drive_filling [] [] 0 0 (eVar 0) aNil aNil))
    (sSeq (sFldSet (fun c => decide (c = 8)) "_pending" (eVar 0) (eLst aNil))
    (sRet (eVar 1)))))
def m_Drive_sync : F := fnOf 2 1 b_Drive_sync
def b_Drive_left : S :=
    (sSeq (sSet 1 (Mini.eCall m_left_count (aCons (eFld (fun c => decide (c = 8)) "disk" (eVar 0)) (aCons (eFld (fun c => decide (c = 8)) "_settled" (eVar 0)) (aCons (eFld (fun c => decide (c = 8)) "_pending" (eVar 0)) (aCons (eFld (fun c => decide (c = 8)) "torn" (eVar 0)) aNil))))))
    (sSeq (Mini.sIf (tBl (eBin gGt (eVar 1) (eC (.int (20000)))))
    (sRaise 5 ("count" : PySem.Str) (eVar 1))
    sNx)
    (sSeq (sSet 2 (Mini.eCall m_left_numbers (aCons (eFld (fun c => decide (c = 8)) "disk" (eVar 0)) (aCons (eFld (fun c => decide (c = 8)) "_settled" (eVar 0)) (aCons (eFld (fun c => decide (c = 8)) "_pending" (eVar 0)) (aCons (eFld (fun c => decide (c = 8)) "torn" (eVar 0)) aNil))))))
    (sRet (eLc [3] (iSeq (eVar 2)) (gSet 3) Mini.tYes (Mini.eCall m_figures (aCons (eVar 3) (aCons (eFld (fun c => decide (c = 7)) "contents" (eFld (fun c => decide (c = 8)) "disk" (eVar 0))) (aCons (eFld (fun c => decide (c = 7)) "blocks" (eFld (fun c => decide (c = 8)) "disk" (eVar 0))) aNil)))))))))
def m_Drive_left : F := fnOf 4 1 b_Drive_left
def b_Drive_may_leave : S :=
    (sSeq (Mini.sIf (Mini.tNot (tTru (Mini.eCall m_is_filling (aCons (eFld (fun c => decide (c = 8)) "disk" (eVar 0)) (aCons (eVar 1) aNil)))))
    (sRet (eC (.bl false)))
    sNx)
    (sSeq (sSet 2 (Mini.eCall m_menus (aCons (eFld (fun c => decide (c = 8)) "disk" (eVar 0)) (aCons (eFld (fun c => decide (c = 8)) "_settled" (eVar 0)) (aCons (eFld (fun c => decide (c = 8)) "_pending" (eVar 0)) (aCons (eFld (fun c => decide (c = 8)) "torn" (eVar 0)) aNil))))))
    (sRet (eFn fAll (aCons (eLcR [3, 4] (iZip (eVar 1) (eVar 2)) [(gSet 3), (gSet 4)] Mini.tYes (eBin gIn (eVar 3) (eVar 4))) aNil)))))
def m_Drive_may_leave : F := fnOf 5 2 b_Drive_may_leave
def b_Drive_cut : S :=
    (sSeq (sExpr (Mini.eCall m_check_filling (aCons (eFld (fun c => decide (c = 8)) "disk" (eVar 0)) (aCons (eVar 1) aNil))))
    (sSeq (Mini.sIf (Mini.tNot (tTru (eMethN 8 "may_leave" m_Drive_may_leave [0] [] 1 0 (eVar 0) (aCons (eVar 1) aNil) aNil)))
    (sRaise 6 ("filling" : PySem.Str) (eVar 1))
    sNx)
    (sSeq (sFldSet (fun c => decide (c = 8)) "_settled" (eVar 0) (eVar 1))
    (sFldSet (fun c => decide (c = 8)) "_pending" (eVar 0) (eLst aNil)))))
def m_Drive_cut : F := fnOf 2 2 b_Drive_cut
def b__law_cell : S :=
    (sRet (eIf (tBl (eBin gLtX (eVar 1) (eFn fLen (aCons (eVar 0) aNil)))) (eBin gIx (eVar 0) (eVar 1)) (eBin gAddX (eBin gAddX (eBin gMulX (eC (.int 6007)) (eVar 1)) (eC (.int 3))) (eBin gMod (eFn fInt (aCons (eFn fSum (aCons (eSl (eVar 0) oNo (oSo (eC (.int 1)))) aNil)) aNil)) (eC (.int 1000033))))))
def m__law_cell : F := fnOf 2 2 b__law_cell
def b__law_box : S :=
    (sRet (eLst (aCons (eFn fAbs (aCons (eVar 0) aNil)) (aCons (eBin gGe (eFn fAbs (aCons (eVar 0) aNil)) (eBin gPow (eC (.int 10)) (eC (.int 18)))) (aCons (eBin gMod (eFn fInt (aCons (eFn fAbs (aCons (eVar 0) aNil)) aNil)) (eC (.int 2147483629))) (aCons (eC (.int 0)) aNil))))))
def m__law_box : F := fnOf 1 1 b__law_box
def b__law_take : S :=
    (sSeq (Mini.sIf (Mini.tAnd (tTru (eBin gIx (eVar 0) (eC (.int 1)))) (tBl (eBin gGt (eBin gIx (eVar 0) (eC (.int 0))) (eC (.int 0)))))
    (sSeq (sSet 2 (eBin gMod (eFn fInt (aCons (eBin gIx (eVar 0) (eC (.int 0))) aNil)) (eVar 1)))
    (sSeq (sAsg (eBin gDiv (eBin gIx (eVar 0) (eC (.int 0))) (eVar 1)) (gSubL (eVar 0) (eC (.int 0))))
    (sRet (eVar 2))))
    sNx)
    (sSeq (sAsg (eBin gAddX (eBin gIx (eVar 0) (eC (.int 3))) (eC (.int 1))) (gSubL (eVar 0) (eC (.int 3))))
    (sSeq (sSet 3 (eBin gMod (eFn fInt (aCons (eBin gPow (eBin gAddX (eBin gAddX (eBin gIx (eVar 0) (eC (.int 2))) (eBin gMulX (eC (.int 49979687)) (eBin gIx (eVar 0) (eC (.int 3))))) (eC (.int 179424673))) (eC (.int 5))) aNil)) (eC (.int 2147483647))))
    (sRet (eBin gMod (eFn fInt (aCons (eBin gDiv (eBin gMod (eFn fInt (aCons (eBin gPow (eBin gAddX (eBin gMulX (eVar 3) (eC (.int 48271))) (eBin gMulX (eC (.int 104729)) (eBin gIx (eVar 0) (eC (.int 3))))) (eC (.int 3))) aNil)) (eC (.int 2147483587))) (eC (.int 64))) aNil)) (eVar 1))))))
def m__law_take : F := fnOf 4 2 b__law_take
def b__law_sizes : S :=
    (sSeq (sSet 1 (Mini.eCall m__law_take (aCons (eVar 0) (aCons (eC (.int 6)) aNil))))
    (sSeq (sSet 2 (eIf (tBl (eBin gEq (Mini.eCall m__law_take (aCons (eVar 0) (aCons (eC (.int 2)) aNil))) (eC (.int 0)))) (eBin gAddX (eC (.int 2)) (Mini.eCall m__law_take (aCons (eVar 0) (aCons (eC (.int 63)) aNil)))) (eBin gIx (eLst (aCons (eC (.int 2)) (aCons (eC (.int 3)) (aCons (eC (.int 64)) (aCons (eC (.int 4)) aNil))))) (Mini.eCall m__law_take (aCons (eVar 0) (aCons (eC (.int 4)) aNil))))))
    (sSeq (Mini.sIf (tBl (eBin gLtX (eVar 1) (eC (.int 2))))
    (sRet (eTup (aCons (eBin gIx (eLst (aCons (eC (.int 1)) (aCons (eC (.int 24)) aNil))) (eVar 1)) (aCons (eVar 2) aNil))))
    sNx)
    (sRet (eTup (aCons (eBin gAddX (eC (.int 1)) (Mini.eCall m__law_take (aCons (eVar 0) (aCons (eBin gIx (eLst (aCons (eC (.int 24)) (aCons (eC (.int 3)) (aCons (eC (.int 3)) (aCons (eC (.int 6)) aNil))))) (eBin gSub (eVar 1) (eC (.int 2)))) aNil)))) (aCons (eVar 2) aNil)))))))
def m__law_sizes : F := fnOf 3 1 b__law_sizes
def b__law_odd_filling : S :=
    (sSeq (Mini.sIf (tBl (eBin gLtX (eVar 0) (eC (.int 8))))
    (sSeq (sSet 5 (eBin gIx (eLst (aCons (eVar 3) (aCons (eUn gNeg (eC (.int 1))) (aCons (eBin gAddX (eVar 3) (eVar 4)) (aCons (eC (.bl true)) (aCons (eC (.bl false)) (aCons (eC .non) (aCons (eC (.str ("0" : PySem.Str))) (aCons (eTup (aCons (eBin gIx (eVar 2) (eVar 1)) aNil)) aNil))))))))) (eVar 0)))
    (sRet (eBin gAddX (eBin gAddX (eSl (eVar 2) oNo (oSo (eVar 1))) (eTup (aCons (eVar 5) aNil))) (eSl (eVar 2) (oSo (eBin gAddX (eVar 1) (eC (.int 1)))) oNo))))
    sNx)
    (sRet (eBin gIx (eLst (aCons (eFn fList (aCons (eVar 2) aNil)) (aCons (eBin gAddX (eVar 2) (eTup (aCons (eC (.int 0)) aNil))) (aCons (eSl (eVar 2) oNo (oSo (eUn gNeg (eC (.int 1))))) (aCons (eTup aNil) (aCons (eC .non) (aCons (eLst aNil) (aCons (eC (.str ("01" : PySem.Str))) (aCons eDic0 (aCons (eTup (aCons (eVar 2) aNil)) (aCons (eC (.int 0)) aNil))))))))))) (eBin gSub (eVar 0) (eC (.int 8))))))
def m__law_odd_filling : F := fnOf 6 5 b__law_odd_filling
def b__law_same : S :=
    (sSeq (Mini.sIf (tTru (eUn (gIsi .tList) (eVar 2)))
    (sExpr (eApp (eVar 2) (eC (.str ("more" : PySem.Str)))))
    sNx)
    (sSeq (Mini.sIf (tTru (eUn (gIsi .tDict) (eVar 2)))
    (sDput (eVar 2) (eC (.str ("more" : PySem.Str))) (eC (.int 1)))
    sNx)
    (sRet (eAnd (eBin gEq (eBin gIx (eVar 0) (eC (.int 0))) (eVar 1)) (eBin gEq (eFn fRepr (aCons (eBin gIx (eVar 0) (eC (.int 1))) aNil)) (eFn fRepr (aCons (eVar 2) aNil)))))))
def m__law_same : F := fnOf 3 3 b__law_same
def b__law_put : S :=
    (sSeq (sSet 2 (eFn fList (aCons (eVar 0) aNil)))
    (sSeq (Mini.sFor (iSeq (eVar 1)) (gSeqT [(gSet 3), (gSet 4)])
    (sAsg (eVar 4) (gSubL (eVar 2) (eVar 3))))
    (sRet (eFn fTuple (aCons (eVar 2) aNil)))))
def m__law_put : F := fnOf 5 2 b__law_put
def b__law_opened : S :=
    (sTry 7 5 (sSeq (Mini.sIf (Mini.tAnd (tBl (eBin gEq (eVar 0) (eC (.int 0)))) (tTru (eVar 3)))
    (sRet (eLst (aCons (eC (.str ("made" : PySem.Str))) (aCons (eMakeN 8 m_Drive___init__ [0, 1, 2] [(.bl true)] 2 0 (aCons (eVar 1) (aCons (eVar 2) aNil)) aNil) aNil))))
    sNx)
    (sSeq (Mini.sIf (tBl (eBin gEq (eVar 0) (eC (.int 1))))
    (sRet (eLst (aCons (eC (.str ("made" : PySem.Str))) (aCons (eMakeN 8 m_Drive___init__ [2, 1, 0] [] 0 3 aNil (aCons (eVar 3) (aCons (eVar 2) (aCons (eVar 1) aNil)))) aNil))))
    sNx)
    (sRet (eLst (aCons (eC (.str ("made" : PySem.Str))) (aCons (eMakeN 8 m_Drive___init__ [0, 1, 2] [] 2 1 (aCons (eVar 1) (aCons (eVar 2) aNil)) (aCons (eVar 3) aNil)) aNil)))))) [{ m := fun c => decide (c = 2), i := some 4, s := (sRet (eLst (aCons (eC (.str ("filling" : PySem.Str))) (aCons (eXfl (fun c => decide (c = 0) || decide (c = 1) || decide (c = 2) || decide (c = 3) || decide (c = 4)) "given" (eVar 4)) aNil)))) }])
def m__law_opened : F := fnOf 5 4 b__law_opened
def b__law_told : S :=
    (sTry 7 4 (sSeq (Mini.sIf (tBl (eBin gEq (eBin gIx (eVar 1) (eC (.int 0))) (eC (.str ("write" : PySem.Str)))))
    (sRet (eLst (aCons (eC (.str ("done" : PySem.Str))) (aCons (eIf (tTru (eVar 2)) (eMethN 8 "write" m_Drive_write [1, 0] [] 0 2 (eVar 0) aNil (aCons (eBin gIx (eVar 1) (eC (.int 2))) (aCons (eBin gIx (eVar 1) (eC (.int 1))) aNil))) (eMethN 8 "write" m_Drive_write [0, 1] [] 2 0 (eVar 0) (aCons (eBin gIx (eVar 1) (eC (.int 1))) (aCons (eBin gIx (eVar 1) (eC (.int 2))) aNil)) aNil)) aNil))))
    sNx)
    (sSeq (Mini.sIf (tBl (eBin gEq (eBin gIx (eVar 1) (eC (.int 0))) (eC (.str ("sync" : PySem.Str)))))
    (sRet (eLst (aCons (eC (.str ("done" : PySem.Str))) (aCons (eMethN 8 "sync" m_Drive_sync [] [] 0 0 (eVar 0) aNil aNil) aNil))))
    sNx)
    (sRet (eLst (aCons (eC (.str ("done" : PySem.Str))) (aCons (eIf (tTru (eVar 2)) (eMethN 8 "cut" m_Drive_cut [0] [] 0 1 (eVar 0) aNil (aCons (eBin gIx (eVar 1) (eC (.int 1))) aNil)) (eMethN 8 "cut" m_Drive_cut [0] [] 1 0 (eVar 0) (aCons (eBin gIx (eVar 1) (eC (.int 1))) aNil) aNil)) aNil)))))) [{ m := fun c => decide (c = 3), i := some 3, s := (sRet (eLst (aCons (eC (.str ("block" : PySem.Str))) (aCons (eXfl (fun c => decide (c = 0) || decide (c = 1) || decide (c = 2) || decide (c = 3) || decide (c = 4)) "given" (eVar 3)) aNil)))) },
    { m := fun c => decide (c = 4), i := some 3, s := (sRet (eLst (aCons (eC (.str ("content" : PySem.Str))) (aCons (eXfl (fun c => decide (c = 0) || decide (c = 1) || decide (c = 2) || decide (c = 3) || decide (c = 4)) "given" (eVar 3)) aNil)))) },
    { m := fun c => decide (c = 2), i := some 3, s := (sRet (eLst (aCons (eC (.str ("filling" : PySem.Str))) (aCons (eXfl (fun c => decide (c = 0) || decide (c = 1) || decide (c = 2) || decide (c = 3) || decide (c = 4)) "given" (eVar 3)) aNil)))) },
    { m := fun c => decide (c = 6), i := some 3, s := (sRet (eLst (aCons (eC (.str ("left" : PySem.Str))) (aCons (eXfl (fun c => decide (c = 6)) "filling" (eVar 3)) aNil)))) }])
def m__law_told : F := fnOf 4 3 b__law_told
def b__law_stands : S :=
    (sSeq (sPar [2, 3, 4] (aCons (eBin gIx (eVar 1) (eC (.int 0))) (aCons (eBin gIx (eVar 1) (eC (.int 1))) (aCons (eBin gIx (eVar 1) (eC (.int 2))) aNil))))
    (sSeq (sSet 5 (Mini.eCall m__law_take (aCons (eVar 0) (aCons (eC (.int 3)) aNil))))
    (sSeq (Mini.sFor (Mini.iRng1 (eC (.int 4))) (gSet 6)
    (sSeq (sSet 7 (eBin gMod (eFn fInt (aCons (eBin gAddX (eVar 5) (eVar 6)) aNil)) (eC (.int 3))))
    (sSeq (Mini.sIf (tBl (eBin gEq (eVar 7) (eC (.int 0))))
    (sSeq (sSet 8 (eMethN 8 "pending" m_Drive_pending [] [] 0 0 (eVar 2) aNil aNil))
    (sSeq (Mini.sIf (Mini.tOr (Mini.tNot (tTru (eUn (gIsi .tList) (eVar 8)))) (Mini.tOr (tBl (eBin gNe (eVar 8) (eVar 4))) (tBl (eBin gNe (eLc [9] (iSeq (eVar 8)) (gSet 9) (Mini.tNot (tTru (eUn (gIsi .tTuple) (eVar 9)))) (eVar 9)) (eLst aNil)))))
    (sRet (eC (.bl false)))
    sNx)
    (sSeq (sExpr (eApp (eVar 8) (eTup (aCons (eC (.int 0)) (aCons (eC (.int 0)) aNil)))))
    (sExpr (eMet0 gRevM (eVar 8))))))
    sNx)
    (sSeq (Mini.sIf (tBl (eBin gEq (eVar 7) (eC (.int 1))))
    (sSeq (sSet 8 (eMethN 8 "settled" m_Drive_settled [] [] 0 0 (eVar 2) aNil aNil))
    (Mini.sIf (Mini.tOr (Mini.tNot (tTru (eUn (gIsi .tTuple) (eVar 8)))) (tBl (eBin gNe (eVar 8) (eVar 3))))
    (sRet (eC (.bl false)))
    sNx))
    sNx)
    (Mini.sIf (tBl (eBin gEq (eVar 7) (eC (.int 2))))
    (sSeq (sSet 8 (eMethN 8 "filling" m_Drive_filling [] [] 0 0 (eVar 2) aNil aNil))
    (Mini.sIf (Mini.tOr (Mini.tNot (tTru (eUn (gIsi .tTuple) (eVar 8)))) (tBl (eBin gNe (eVar 8) (Mini.eCall m__law_put (aCons (eVar 3) (aCons (eVar 4) aNil))))))
    (sRet (eC (.bl false)))
    sNx))
    sNx)))))
    (sRet (eAnd (eBin gEq (eMethN 8 "pending" m_Drive_pending [] [] 0 0 (eVar 2) aNil aNil) (eVar 4)) (eAnd (eUn (gIsi .tBool) (eFld (fun c => decide (c = 8)) "torn" (eVar 2))) (eBin gEq (eFld (fun c => decide (c = 8)) "torn" (eVar 2)) (eBin gIx (eVar 1) (eC (.int 4))))))))))
def m__law_stands : F := fnOf 10 2 b__law_stands
def b__law_menu : S :=
    (sSeq (sSet 2 (eLc [3, 4] (iSeq (eBin gIx (eVar 0) (eC (.int 2)))) (gTupT [(gSet 3), (gSet 4)]) (tBl (eBin gEq (eVar 3) (eVar 1))) (eVar 4)))
    (sSeq (Mini.sIf (tBl (eBin gEq (eVar 2) (eLst aNil)))
    (sRet (eLst (aCons (eBin gIx (eBin gIx (eVar 0) (eC (.int 1))) (eVar 1)) aNil)))
    sNx)
    (sSeq (Mini.sIf (tTru (eBin gIx (eVar 0) (eC (.int 4))))
    (sRet (eLRng (eBin gIx (eBin gIx (eVar 0) (eC (.int 3))) (eC (.int 1)))))
    sNx)
    (sRet (eFn fSortU (aCons (eBin gAddX (eVar 2) (eLst (aCons (eBin gIx (eBin gIx (eVar 0) (eC (.int 1))) (eVar 1)) aNil))) aNil))))))
def m__law_menu : F := fnOf 5 2 b__law_menu
def b__law_write : S :=
    (sSeq (sAsg (eBin gIx (eVar 1) (eC (.int 3))) (gSeqT [(gSet 2), (gSet 3)]))
    (sSeq (sSet 4 (Mini.eCall m__law_take (aCons (eVar 0) (aCons (eVar 2) aNil))))
    (sSeq (Mini.sIf (Mini.tAnd (tBl (eBin gNe (eBin gIx (eVar 1) (eC (.int 2))) (eLst aNil))) (tBl (eBin gEq (Mini.eCall m__law_take (aCons (eVar 0) (aCons (eC (.int 3)) aNil))) (eC (.int 0)))))
    (sSet 4 (eBin gIx (eBin gIx (eBin gIx (eVar 1) (eC (.int 2))) (Mini.eCall m__law_take (aCons (eVar 0) (aCons (eFn fLen (aCons (eBin gIx (eVar 1) (eC (.int 2))) aNil)) aNil)))) (eC (.int 0))))
    sNx)
    (sSeq (sSet 5 (Mini.eCall m__law_take (aCons (eVar 0) (aCons (eC (.int 5)) aNil))))
    (sSeq (Mini.sIf (tBl (eBin gEq (eVar 5) (eC (.int 0))))
    (sRet (eTup (aCons (eC (.str ("write" : PySem.Str))) (aCons (eVar 4) (aCons (eBin gIx (eBin gIx (eVar 1) (eC (.int 1))) (eVar 4)) aNil)))))
    sNx)
    (sSeq (Mini.sIf (tBl (eBin gEq (eVar 5) (eC (.int 1))))
    (sRet (eTup (aCons (eC (.str ("write" : PySem.Str))) (aCons (eVar 4) (aCons (eBin gIx (Mini.eCall m__law_put (aCons (eBin gIx (eVar 1) (eC (.int 1))) (aCons (eBin gIx (eVar 1) (eC (.int 2))) aNil))) (eVar 4)) aNil)))))
    sNx)
    (sRet (eTup (aCons (eC (.str ("write" : PySem.Str))) (aCons (eVar 4) (aCons (Mini.eCall m__law_take (aCons (eVar 0) (aCons (eVar 3) aNil))) aNil)))))))))))
def m__law_write : F := fnOf 6 2 b__law_write
def b__law_refused_write : S :=
    (sSeq (sAsg (eBin gIx (eVar 1) (eC (.int 3))) (gSeqT [(gSet 2), (gSet 3)]))
    (sSeq (sAsg (eTup (aCons (eBin gAddX (eC (.int 1)) (Mini.eCall m__law_take (aCons (eVar 0) (aCons (eC (.int 3)) aNil)))) (aCons (Mini.eCall m__law_take (aCons (eVar 0) (aCons (eC (.int 12)) aNil))) (aCons (Mini.eCall m__law_take (aCons (eVar 0) (aCons (eC (.int 12)) aNil))) (aCons (eBin gAddX (eC (.int 1)) (Mini.eCall m__law_take (aCons (eVar 0) (aCons (eC (.int 1000)) aNil)))) aNil))))) (gSeqT [(gSet 4), (gSet 5), (gSet 6), (gSet 7)]))
    (sSeq (sSet 8 (eBin gIx (eLst (aCons (eUn gNeg (eC (.int 1))) (aCons (eVar 2) (aCons (eBin gAddX (eVar 2) (eVar 7)) (aCons (eBin gSub (eUn gNeg (eC (.int 1))) (eVar 7)) (aCons (eC .non) (aCons (eC (.bl true)) (aCons (eC (.bl false)) (aCons (eC (.str ("0" : PySem.Str))) (aCons (eTup (aCons (eC (.int 0)) aNil)) (aCons (eLst (aCons (eC (.int 0)) aNil)) (aCons eDic0 (aCons (eBin gPow (eC (.int 10)) (eC (.int 20))) aNil))))))))))))) (eVar 5)))
    (sSeq (sSet 9 (eBin gIx (eLst (aCons (eUn gNeg (eC (.int 1))) (aCons (eVar 3) (aCons (eBin gAddX (eVar 3) (eVar 7)) (aCons (eBin gSub (eUn gNeg (eC (.int 1))) (eVar 7)) (aCons (eC .non) (aCons (eC (.bl true)) (aCons (eC (.bl false)) (aCons (eC (.str ("0" : PySem.Str))) (aCons (eTup (aCons (eC (.int 0)) aNil)) (aCons (eLst (aCons (eC (.int 0)) aNil)) (aCons eDic0 (aCons (eBin gPow (eC (.int 10)) (eC (.int 20))) aNil))))))))))))) (eVar 6)))
    (sSeq (sPar [10, 11] (aCons (Mini.eCall m__law_take (aCons (eVar 0) (aCons (eVar 2) aNil))) (aCons (Mini.eCall m__law_take (aCons (eVar 0) (aCons (eVar 3) aNil))) aNil)))
    (sSeq (Mini.sIf (tBl (eBin gEq (eVar 4) (eC (.int 2))))
    (sRet (eTup (aCons (eTup (aCons (eC (.str ("write" : PySem.Str))) (aCons (eVar 10) (aCons (eVar 9) aNil)))) (aCons (eC (.str ("content" : PySem.Str))) (aCons (eVar 9) aNil)))))
    sNx)
    (sRet (eTup (aCons (eTup (aCons (eC (.str ("write" : PySem.Str))) (aCons (eVar 8) (aCons (eIf (tBl (eBin gEq (eVar 4) (eC (.int 1)))) (eVar 11) (eVar 9)) aNil)))) (aCons (eC (.str ("block" : PySem.Str))) (aCons (eVar 8) aNil)))))))))))
def m__law_refused_write : F := fnOf 12 2 b__law_refused_write
def b__law_refused_cut : S :=
    (sSeq (sAsg (eBin gIx (eVar 1) (eC (.int 3))) (gSeqT [(gSet 2), (gSet 3)]))
    (sSeq (sPar [4, 5, 6] (aCons (Mini.eCall m__law_take (aCons (eVar 0) (aCons (eVar 2) aNil))) (aCons (Mini.eCall m__law_take (aCons (eVar 0) (aCons (eC (.int 18)) aNil))) (aCons (eBin gAddX (eC (.int 1)) (Mini.eCall m__law_take (aCons (eVar 0) (aCons (eC (.int 1000)) aNil)))) aNil))))
    (sSeq (sSet 7 (eFn fTuple (aCons (eLc [8] (Mini.iRng1 (eVar 2)) (gSet 8) Mini.tYes (eBin gIx (Mini.eCall m__law_menu (aCons (eVar 1) (aCons (eVar 8) aNil))) (eC (.int 0)))) aNil)))
    (sSeq (Mini.sIf (tBl (eBin gEq (Mini.eCall m__law_take (aCons (eVar 0) (aCons (eC (.int 2)) aNil))) (eC (.int 0))))
    (sSeq (sSet 9 (Mini.eCall m__law_odd_filling (aCons (eVar 5) (aCons (eVar 4) (aCons (eVar 7) (aCons (eVar 3) (aCons (eVar 6) aNil)))))))
    (sRet (eTup (aCons (eTup (aCons (eC (.str ("cut" : PySem.Str))) (aCons (eVar 9) aNil))) (aCons (eC (.str ("filling" : PySem.Str))) (aCons (eVar 9) aNil))))))
    sNx)
    (sSeq (sSet 10 (Mini.eCall m__law_menu (aCons (eVar 1) (aCons (eVar 4) aNil))))
    (sSeq (sSet 11 (eLc [12] (Mini.iRng1 (eVar 3)) (gSet 12) (tBl (eBin gNotIn (eVar 12) (eVar 10))) (eVar 12)))
    (sSeq (Mini.sIf (tBl (eBin gEq (eVar 11) (eLst aNil)))
    (sRet (eC .non))
    sNx)
    (sSeq (sSet 13 (eBin gAddX (eBin gAddX (eSl (eVar 7) oNo (oSo (eVar 4))) (eTup (aCons (eBin gIx (eVar 11) (Mini.eCall m__law_take (aCons (eVar 0) (aCons (eFn fLen (aCons (eVar 11) aNil)) aNil)))) aNil))) (eSl (eVar 7) (oSo (eBin gAddX (eVar 4) (eC (.int 1)))) oNo)))
    (sRet (eTup (aCons (eTup (aCons (eC (.str ("cut" : PySem.Str))) (aCons (eVar 13) aNil))) (aCons (eC (.str ("left" : PySem.Str))) (aCons (eVar 13) aNil)))))))))))))
def m__law_refused_cut : F := fnOf 14 2 b__law_refused_cut
def b__law_turn : S :=
    (sSeq (sPar [2, 3, 4] (aCons (Mini.eCall m__law_take (aCons (eVar 0) (aCons (eC (.int 12)) aNil))) (aCons (eBin gEq (Mini.eCall m__law_take (aCons (eVar 0) (aCons (eC (.int 2)) aNil))) (eC (.int 0))) (aCons (eBin gIx (eVar 1) (eC (.int 0))) aNil))))
    (sSeq (Mini.sIf (tBl (eBin gGt (eVar 2) (eC (.int 9))))
    (sSeq (sSet 5 (eIf (tBl (eBin gEq (eVar 2) (eC (.int 10)))) (Mini.eCall m__law_refused_write (aCons (eVar 0) (aCons (eVar 1) aNil))) (Mini.eCall m__law_refused_cut (aCons (eVar 0) (aCons (eVar 1) aNil)))))
    (sSeq (Mini.sIf (tBl (eBin gIs (eVar 5) (eC .non)))
    (sRet (eC (.bl true)))
    sNx)
    (sRet (Mini.eCall m__law_same (aCons (Mini.eCall m__law_told (aCons (eVar 4) (aCons (eBin gIx (eVar 5) (eC (.int 0))) (aCons (eVar 3) aNil)))) (aCons (eBin gIx (eVar 5) (eC (.int 1))) (aCons (eBin gIx (eVar 5) (eC (.int 2))) aNil)))))))
    sNx)
    (sSeq (Mini.sIf (tBl (eBin gEq (eVar 2) (eC (.int 9))))
    (sSeq (sSet 6 (eLst aNil))
    (sSeq (Mini.sFor (Mini.iRng1 (eBin gIx (eBin gIx (eVar 1) (eC (.int 3))) (eC (.int 0)))) (gSet 7)
    (sSeq (sSet 8 (Mini.eCall m__law_menu (aCons (eVar 1) (aCons (eVar 7) aNil))))
    (sExpr (eApp (eVar 6) (eBin gIx (eVar 8) (Mini.eCall m__law_take (aCons (eVar 0) (aCons (eFn fLen (aCons (eVar 8) aNil)) aNil))))))))
    (sSeq (sAsg (eTup (aCons (eFn fTuple (aCons (eVar 6) aNil)) (aCons (eLst aNil) aNil))) (gSeqT [(gSubL (eVar 1) (eC (.int 1))), (gSubL (eVar 1) (eC (.int 2)))]))
    (sRet (eBin gEq (Mini.eCall m__law_told (aCons (eVar 4) (aCons (eTup (aCons (eC (.str ("cut" : PySem.Str))) (aCons (eFn fTuple (aCons (eVar 6) aNil)) aNil))) (aCons (eVar 3) aNil)))) (eLst (aCons (eC (.str ("done" : PySem.Str))) (aCons (eC .non) aNil))))))))
    sNx)
    (sSeq (Mini.sIf (tBl (eBin gGt (eVar 2) (eC (.int 6))))
    (sSeq (sSet 9 (eFn fLen (aCons (eBin gIx (eVar 1) (eC (.int 2))) aNil)))
    (sSeq (sAsg (eTup (aCons (Mini.eCall m__law_put (aCons (eBin gIx (eVar 1) (eC (.int 1))) (aCons (eBin gIx (eVar 1) (eC (.int 2))) aNil))) (aCons (eLst aNil) aNil))) (gSeqT [(gSubL (eVar 1) (eC (.int 1))), (gSubL (eVar 1) (eC (.int 2)))]))
    (sSeq (sSet 10 (Mini.eCall m__law_told (aCons (eVar 4) (aCons (eTup (aCons (eC (.str ("sync" : PySem.Str))) aNil)) (aCons (eVar 3) aNil)))))
    (sRet (eAnd (eBin gEq (eVar 10) (eLst (aCons (eC (.str ("done" : PySem.Str))) (aCons (eVar 9) aNil)))) (eNot (eUn (gIsi .tBool) (eBin gIx (eVar 10) (eC (.int 1))))))))))
    sNx)
    (sSeq (sSet 11 (Mini.eCall m__law_write (aCons (eVar 0) (aCons (eVar 1) aNil))))
    (sSeq (sExpr (eApp (eBin gIx (eVar 1) (eC (.int 2))) (eTup (aCons (eBin gIx (eVar 11) (eC (.int 1))) (aCons (eBin gIx (eVar 11) (eC (.int 2))) aNil)))))
    (sRet (eBin gEq (Mini.eCall m__law_told (aCons (eVar 4) (aCons (eVar 11) (aCons (eVar 3) aNil)))) (eLst (aCons (eC (.str ("done" : PySem.Str))) (aCons (eC .non) aNil)))))))))))
def m__law_turn : F := fnOf 12 2 b__law_turn
def eqFs : Nat → Option F := fun c => if c = 7 then some m_Disk___eq__ else none
def b__law_begun : S :=
    (sSeq (sAsg (eVar 1) (gSeqT [(gSet 3), (gSet 4)]))
    (sSeq (sPar [5, 6] (aCons (eBin (eqO eqFs) (Mini.eCall m__law_take (aCons (eVar 0) (aCons (eC (.int 2)) aNil))) (eC (.int 0))) (aCons (Mini.eCall m__law_take (aCons (eVar 0) (aCons (eC (.int 3)) aNil))) aNil)))
    (sSeq (sSet 7 (eFn fTuple (aCons (eLc [8] (Mini.iRng1 (eVar 3)) (gSet 8) Mini.tYes (Mini.eCall m__law_take (aCons (eVar 0) (aCons (eVar 4) aNil)))) aNil)))
    (sSeq (sSet 9 (Mini.eCall m__law_odd_filling (aCons (Mini.eCall m__law_take (aCons (eVar 0) (aCons (eC (.int 18)) aNil))) (aCons (Mini.eCall m__law_take (aCons (eVar 0) (aCons (eVar 3) aNil))) (aCons (eVar 7) (aCons (eVar 4) (aCons (eBin gAddX (eC (.int 1)) (Mini.eCall m__law_take (aCons (eVar 0) (aCons (eC (.int 1000)) aNil)))) aNil)))))))
    (sSeq (Mini.sIf (Mini.tNot (tTru (Mini.eCall m__law_same (aCons (Mini.eCall m__law_opened (aCons (eVar 6) (aCons (eVar 2) (aCons (eVar 9) (aCons (eVar 5) aNil))))) (aCons (eC (.str ("filling" : PySem.Str))) (aCons (eVar 9) aNil))))))
    (sRet (eC .non))
    sNx)
    (sSeq (sSet 10 (Mini.eCall m__law_opened (aCons (eVar 6) (aCons (eVar 2) (aCons (eVar 7) (aCons (eVar 5) aNil))))))
    (sSeq (Mini.sIf (Mini.tOr (tBl (eBin (neO eqFs) (eBin gIx (eVar 10) (eC (.int 0))) (eC (.str ("made" : PySem.Str))))) (Mini.tNot (tBl (eBin (eqO eqFs) (eFld (fun c => decide (c = 8)) "disk" (eBin gIx (eVar 10) (eC (.int 1)))) (eMake 7 m_Disk___init__ (aCons (eVar 3) (aCons (eVar 4) aNil)))))))
    (sRet (eC .non))
    sNx)
    (sRet (eLst (aCons (eBin gIx (eVar 10) (eC (.int 1))) (aCons (eVar 7) (aCons (eLst aNil) (aCons (eVar 1) (aCons (eVar 5) aNil))))))))))))))
def m__law_begun : F := fnOf 11 3 b__law_begun
def b__law_right : S :=
    (sSeq (sPar [1, 2, 3] (aCons (Mini.eCall m__law_take (aCons (eVar 0) (aCons (eC (.int 2)) aNil))) (aCons (Mini.eCall m__law_sizes (aCons (eVar 0) aNil)) (aCons (Mini.eCall m__law_sizes (aCons (eVar 0) aNil)) aNil))))
    (sSeq (sSet 4 (eMake 7 m_Disk___init__ (aCons (eBin gIx (eVar 2) (eC (.int 0))) (aCons (eBin gIx (eVar 2) (eC (.int 1))) aNil))))
    (sSeq (sSet 5 (eLst (aCons (Mini.eCall m__law_begun (aCons (eVar 0) (aCons (eVar 2) (aCons (eVar 4) aNil)))) (aCons (eIf (tBl (eBin gEq (eVar 1) (eC (.int 0)))) (Mini.eCall m__law_begun (aCons (eVar 0) (aCons (eVar 2) (aCons (eVar 4) aNil)))) (Mini.eCall m__law_begun (aCons (eVar 0) (aCons (eVar 3) (aCons (eMake 7 m_Disk___init__ (aCons (eBin gIx (eVar 3) (eC (.int 0))) (aCons (eBin gIx (eVar 3) (eC (.int 1))) aNil))) aNil))))) aNil))))
    (sSeq (Mini.sIf (Mini.tOr (tBl (eBin gIs (eBin gIx (eVar 5) (eC (.int 0))) (eC .non))) (tBl (eBin gIs (eBin gIx (eVar 5) (eC (.int 1))) (eC .non))))
    (sRet (eC (.bl false)))
    sNx)
    (sSeq (Mini.sFor (Mini.iRng1 (eC (.int 20))) (gSet 6)
    (sSeq (sSet 7 (eBin gIx (eVar 5) (Mini.eCall m__law_take (aCons (eVar 0) (aCons (eC (.int 2)) aNil)))))
    (sSeq (sPar [8, 9] (aCons (eMethN 8 "pending" m_Drive_pending [] [] 0 0 (eBin gIx (eVar 7) (eC (.int 0))) aNil aNil) (aCons (eFn fList (aCons (eBin gIx (eVar 7) (eC (.int 2))) aNil)) aNil)))
    (Mini.sIf (Mini.tOr (Mini.tNot (tTru (Mini.eCall m__law_turn (aCons (eVar 0) (aCons (eVar 7) aNil))))) (Mini.tOr (Mini.tNot (tTru (Mini.eCall m__law_stands (aCons (eVar 0) (aCons (eVar 7) aNil))))) (tBl (eBin gNe (eVar 8) (eVar 9)))))
    (sRet (eC (.bl false)))
    sNx))))
    (sRet (eAnd (Mini.eCall m__law_stands (aCons (eVar 0) (aCons (eBin gIx (eVar 5) (eC (.int 0))) aNil))) (Mini.eCall m__law_stands (aCons (eVar 0) (aCons (eBin gIx (eVar 5) (eC (.int 1))) aNil))))))))))
def m__law_right : F := fnOf 10 1 b__law_right
def b__law_many_right : S :=
    (sSeq (sPar [1, 2] (aCons (eMakeN 8 m_Drive___init__ [0, 1, 2] [(.bl true)] 2 0 (aCons (eMake 7 m_Disk___init__ (aCons (eC (.int 2)) (aCons (eC (.int 64)) aNil))) (aCons (eTup (aCons (eC (.int 0)) (aCons (eC (.int 0)) aNil))) aNil)) aNil) (aCons (eBin gAddX (eC (.int 1)) (eBin gMulX (eC (.int 2)) (Mini.eCall m__law_take (aCons (eVar 0) (aCons (eC (.int 32)) aNil))))) aNil)))
    (sSeq (Mini.sFor (Mini.iRng1 (eC (.int 10000))) (gSet 3)
    (sExpr (eMethN 8 "write" m_Drive_write [0, 1] [] 2 0 (eVar 1) (aCons (eBin gMod (eFn fInt (aCons (eVar 3) aNil)) (eC (.int 2))) (aCons (eBin gMod (eFn fInt (aCons (eBin gMulX (eVar 3) (eVar 2)) aNil)) (eC (.int 64))) aNil)) aNil)))
    (sSeq (sSet 4 (eTup (aCons (eBin gMod (eFn fInt (aCons (eBin gMulX (eC (.int 9998)) (eVar 2)) aNil)) (eC (.int 64))) (aCons (eBin gMod (eFn fInt (aCons (eBin gMulX (eC (.int 9999)) (eVar 2)) aNil)) (eC (.int 64))) aNil))))
    (sSeq (Mini.sIf (Mini.tOr (tBl (eBin gNe (eMethN 8 "filling" m_Drive_filling [] [] 0 0 (eVar 1) aNil aNil) (eVar 4))) (Mini.tOr (tBl (eBin gNe (eFn fLen (aCons (eMethN 8 "pending" m_Drive_pending [] [] 0 0 (eVar 1) aNil aNil) aNil)) (eC (.int 10000)))) (tBl (eBin gNe (eMethN 8 "settled" m_Drive_settled [] [] 0 0 (eVar 1) aNil aNil) (eTup (aCons (eC (.int 0)) (aCons (eC (.int 0)) aNil)))))))
    (sRet (eC (.bl false)))
    sNx)
    (sRet (eAnd (eBin gEq (eMethN 8 "sync" m_Drive_sync [] [] 0 0 (eVar 1) aNil aNil) (eC (.int 10000))) (eAnd (eBin gEq (eMethN 8 "settled" m_Drive_settled [] [] 0 0 (eVar 1) aNil aNil) (eVar 4)) (eBin gEq (eMethN 8 "pending" m_Drive_pending [] [] 0 0 (eVar 1) aNil aNil) (eLst aNil)))))))))
def m__law_many_right : F := fnOf 5 1 b__law_many_right
def b_law : S :=
    (sSeq (sSet 1 (eBin gEq (Mini.eCall m__law_take (aCons (Mini.eCall m__law_box (aCons (eBin gDiv (Mini.eCall m__law_cell (aCons (eVar 0) (aCons (eC (.int 0)) aNil))) (eC (.int 11))) aNil)) (aCons (eC (.int 20)) aNil))) (eC (.int 7))))
    (sSeq (Mini.sFor (Mini.iRng1 (eFn fMax2 (aCons (eC (.int 1)) (aCons (eFn fMin2 (aCons (eC (.int 4)) (aCons (eFn fLen (aCons (eVar 0) aNil)) aNil))) aNil)))) (gSet 2)
    (Mini.sIf (Mini.tNot (tTru (Mini.eCall m__law_right (aCons (Mini.eCall m__law_box (aCons (Mini.eCall m__law_cell (aCons (eVar 0) (aCons (eVar 2) aNil))) aNil)) aNil))))
    (sRet (eC (.bl false)))
    sNx))
    (sRet (eIf (tTru (eVar 1)) (Mini.eCall m__law_many_right (aCons (Mini.eCall m__law_box (aCons (Mini.eCall m__law_cell (aCons (eVar 0) (aCons (eC (.int 1)) aNil))) aNil)) aNil)) (eC (.bl true))))))
def m_law : F := fnOf 3 1 b_law
end K03
set_option Elab.async false
set_option autoImplicit false
set_option linter.all false
set_option maxRecDepth 100000
namespace K03
open Mini Lb
open PySem (Str PyData)
abbrev okD : Nat → Bool := fun c => decide (c = 7)
abbrev okR : Nat → Bool := fun c => decide (c = 8)
/-! ### frames: all but M stays -/
structure Fr (M : List Nat) (h h' : MH) : Prop where
  le : h.length ≤ h'.length
  eq : ∀ i, i < h.length → i ∉ M → h'[i]? = h[i]?
theorem Fr.refl (M : List Nat) (h : MH) : Fr M h h := ⟨Nat.le_refl _, fun _ _ _ => rfl⟩
theorem Fr.trans {M : List Nat} {a b c : MH} (x : Fr M a b) (y : Fr M b c) : Fr M a c := ⟨Nat.le_trans x.le y.le, fun i h1 h2 => (y.eq i (Nat.lt_of_lt_of_le h1 x.le) h2).trans (x.eq i h1 h2)⟩
theorem Fr.mono {M N : List Nat} {a b : MH} (x : Fr M a b) (s : ∀ i ∈ M, i < a.length → i ∈ N) : Fr N a b := ⟨x.le, fun i h1 h2 => x.eq i h1 fun z => h2 (s i z h1)⟩
theorem Fr.of_old {M : List Nat} {a b : MH} (x : Old a b) : Fr M a b := ⟨x.1, fun i h1 _ => x.2 i h1⟩
theorem Fr.of_ch {b : Nat} {h h' : MH} (x : Ch b h h') : Fr [b] h h' := ⟨x.1, fun i h1 h2 => x.2 i h1 fun z => h2 (by rw [z]; exact List.mem_singleton.mpr rfl)⟩
theorem Fr.at {M : List Nat} {a b : MH} (x : Fr M a b) {i : Nat} {c : Cell} (e : a[i]? = some c) (hn : i ∉ M) : b[i]? = some c := (x.eq i (lt_of_at e) hn).trans e
theorem Fr.set {M : List Nat} {a b : MH} (x : Fr M a b) {p : Nat} (c : Cell) (hp : p ∈ M ∨ a.length ≤ p) : Fr M a (b.set p c) := ⟨by rw [List.length_set]; exact x.le, fun i h1 h2 => by
  rw [List.getElem?_set_ne]
  · exact x.eq i h1 h2
  · rintro rfl
    rcases hp with z | z
    · exact h2 z
    · omega⟩
theorem Fr.app {M : List Nat} {a b : MH} (x : Fr M a b) (t : List Cell) : Fr M a (b ++ t) := ⟨by rw [List.length_append]; have := x.le; omega, fun i h1 h2 => by rw [List.getElem?_append_left (Nat.lt_of_lt_of_le h1 x.le)]; exact x.eq i h1 h2⟩
section
variable {h : MH} {b : Nat} {c : Int} {Q : W → MH → Prop} {X : XQ}
theorem tk {many : Int} (B : Box h b c) (hm : 0 < many) (hm2 : many ≤ 100000) (hc : c < 1000000)
    (q : ∀ (d : Nat) h', (d : Int) < many → Box h' b (c + 1) → Ch b h h' → h'.length = h.length → Q (.int d) h') : (m__law_take [.ref b, .int many] h).wp Q X :=
  take_spec (k0 := 49979687) B hm hm2 hc (by decide) (by decide) q
def SizAt (h : MH) (z n m : Nat) : Prop := h[z]? = some (.tup [.int n, .int m])
theorem SizAt.old {h' : MH} {z n m : Nat} (S : SizAt h z n m) (O : Old h h') : SizAt h' z n m := O.at S
theorem SizAt.ch {h' : MH} {z n m : Nat} (S : SizAt h z n m) (C : Ch b h h') (hz : z ≠ b) : SizAt h' z n m := C.at S hz
theorem siz_ix0 {z n m : Nat} (S : SizAt h z n m) : (gIx (.ref z) (.int 0) h).wp Q X = Q (.int n) h := by rw [o_ix (seq_tup S), item0]
theorem siz_ix1 {z n m : Nat} (S : SizAt h z n m) : (gIx (.ref z) (.int 1) h).wp Q X = Q (.int m) h := by rw [o_ix (seq_tup S), item1]
theorem sizes_spec (B : Box h b c) (hc : c < 200000) (q : ∀ z h' n m, Sizes n m → SizAt h' z n m → h.length ≤ z → Box h' b (c + 10) → Ch b h h' → Q (.ref z) h') : (m__law_sizes [.ref b] h).wp Q X := by
  unfold m__law_sizes
  rw [wp_fn]
  unfold b__law_sizes
  rw [sSeq_assoc]
  refine ws_cut (fun r1 h1 => ∃ (way m : Nat), way < 6 ∧ 2 ≤ m ∧ m ≤ 64 ∧ r1 = [some (.ref b), some (.int way), some (.int m)] ∧ Box h1 b (c + 4) ∧ Ch b h h1) ?_ ?_
  · try simp -implicitDefEqProofs
    refine tk B (by decide) (by decide) (by omega) fun way h1 d1 B1 C1 l1 => ?_
    try simp -implicitDefEqProofs
    refine tk B1 (by decide) (by decide) (by omega) fun x h2 d2 B2 C2 l2 => ?_
    try simp -implicitDefEqProofs
    split
    · refine tk B2 (by decide) (by decide) (by omega) fun y h3 d3 B3 C3 l3 => ?_
      try simp -implicitDefEqProofs
      exact ⟨way, by omega, 2 + y, by omega, by omega, by simp, B3.mono, (C1.trans C2).trans C3⟩
    · refine tk (B2.app _) (by decide) (by decide) (by omega) fun y h3 d3 B3 C3 l3 => ?_
      have e3 : h3[h2.length]? = some (.lst [.int 2, .int 3, .int 64, .int 4]) := C3.at (by simp) (by have := B2.lt; omega)
      rw [o_ix (seq_lst e3)]
      refine item_mem (by omega) (by simp; omega) fun w hw => ?_
      obtain ⟨m, rfl, m0, m1⟩ : ∃ m : Nat, w = .int m ∧ 2 ≤ m ∧ m ≤ 64 := by
        simp at hw
        rcases hw with rfl | rfl | rfl | rfl
        · exact ⟨2, rfl, by decide, by decide⟩
        · exact ⟨3, rfl, by decide, by decide⟩
        · exact ⟨64, rfl, by decide, by decide⟩
        · exact ⟨4, rfl, by decide, by decide⟩
      try simp -implicitDefEqProofs
      exact ⟨way, by omega, m, m0, m1, by simp, B3.mono, (C1.trans C2).trans (((Old.app _ _).ch b).trans C3)⟩
  · rintro r1 h1 ⟨way, m, hw, m0, m1, rfl, B1, C1⟩
    try simp -implicitDefEqProofs
    split
    · rename_i lt
      refine item_mem (by omega) (by simp; omega) fun w hw => ?_
      obtain ⟨n, rfl, n0, n1⟩ : ∃ n : Nat, w = .int n ∧ 1 ≤ n ∧ n ≤ 24 := by
        simp at hw
        rcases hw with rfl | rfl
        · exact ⟨1, rfl, by decide, by decide⟩
        · exact ⟨24, rfl, by decide, by decide⟩
      exact q _ _ n m ⟨n0, n1, m0, m1⟩ (by unfold SizAt; simp) (by have := C1.1; omega) ((B1.app _).mono) (C1.app _)
    · rename_i lt
      refine item_mem (by omega) (by simp; omega) fun w hw => ?_
      obtain ⟨k, rfl, k0, k1⟩ : ∃ n : Nat, w = .int n ∧ 1 ≤ n ∧ n ≤ 24 := by
        simp at hw
        rcases hw with rfl | rfl | rfl
        · exact ⟨24, rfl, by decide, by decide⟩
        · exact ⟨3, rfl, by decide, by decide⟩
        · exact ⟨6, rfl, by decide, by decide⟩
      refine tk (B1.app _) (by omega) (by omega) (by omega) fun y h2 d2 B2 C2 l2 => ?_
      try simp -implicitDefEqProofs
      refine q _ _ (1 + y) m ⟨by omega, by omega, m0, m1⟩ (by unfold SizAt; simp) ?_ ((B2.app _).mono) ((((C1.app _).trans C2)).app _)
      have := C1.1
      have := C2.1
      simp at this
      omega
/-! ### writes -/
/-- the pairs at as are the writes ws -/
def Tups (h : MH) : List Nat → List (Nat × Nat) → Prop
  | [], [] => True
  | a :: as, w :: ws => h[a]? = some (.tup [nW w.1, nW w.2]) ∧ Tups h as ws
  | _, _ => False
theorem Tups.len : ∀ {as : List Nat} {ws : List (Nat × Nat)}, Tups h as ws → as.length = ws.length
  | [], [], _ => rfl
  | [], _ :: _, q => q.elim
  | _ :: _, [], q => q.elim
  | _ :: as, _ :: ws, q => congrArg Nat.succ (Tups.len q.2)
theorem Tups.get : ∀ {as : List Nat} {ws : List (Nat × Nat)} {i a : Nat}, Tups h as ws → as[i]? = some a → ∃ w, ws[i]? = some w ∧ h[a]? = some (.tup [nW w.1, nW w.2])
  | _ :: _, [], _, _, q, _ => q.elim
  | a :: as, w :: ws, 0, _, q, e => by cases e; exact ⟨w, rfl, q.1⟩
  | a :: as, w :: ws, i + 1, _, q, e => Tups.get (i := i) q.2 e
theorem Tups.keep {h' : MH} : ∀ {as : List Nat} {ws : List (Nat × Nat)}, Tups h as ws → (∀ a ∈ as, ∀ c, h[a]? = some (.tup c) → h'[a]? = some (.tup c)) → Tups h' as ws
  | [], [], _, _ => trivial
  | [], _ :: _, q, _ => q.elim
  | _ :: _, [], q, _ => q.elim
  | a :: as, w :: ws, q, k => ⟨k a List.mem_cons_self _ q.1, Tups.keep q.2 fun b hb => k b (List.mem_cons_of_mem _ hb)⟩
theorem Tups.snoc : ∀ {as : List Nat} {ws : List (Nat × Nat)} {a : Nat} {w : Nat × Nat}, Tups h as ws → h[a]? = some (.tup [nW w.1, nW w.2]) → Tups h (as ++ [a]) (ws ++ [w])
  | [], [], _, _, _, e => ⟨e, trivial⟩
  | [], _ :: _, _, _, q, _ => q.elim
  | _ :: _, [], _, _, q, _ => q.elim
  | a :: as, w :: ws, _, _, q, e => ⟨q.1, Tups.snoc q.2 e⟩
def Wrs (h : MH) (p : Nat) (ws : List (Nat × Nat)) : Prop := ∃ as : List Nat, h[p]? = some (.lst (as.map .ref)) ∧ Tups h as ws
theorem Wrs.old {h' : MH} {p : Nat} {ws : List (Nat × Nat)} (q : Wrs h p ws) (O : Old h h') : Wrs h' p ws := by
  obtain ⟨as, e, t⟩ := q
  exact ⟨as, O.at e, t.keep fun a _ c e => O.at e⟩
def putA (xs : List Nat) (ws : List (Nat × Nat)) : List Nat := ws.foldl (fun a w => a.set w.1 w.2) xs
theorem putA_len {xs : List Nat} : ∀ {ws : List (Nat × Nat)}, (putA xs ws).length = xs.length := by
  intro ws
  induction ws generalizing xs with
  | nil => rfl
  | cons w ws ih => show (putA (xs.set w.1 w.2) ws).length = _; rw [ih, List.length_set]
theorem putA_take {xs : List Nat} {ws : List (Nat × Nat)} {i : Nat} {w : Nat × Nat} (e : ws[i]? = some w) : putA xs (ws.take (i + 1)) = (putA xs (ws.take i)).set w.1 w.2 := by
  rw [List.take_add_one, e]
  unfold putA
  rw [List.foldl_append]
  rfl
theorem putA_lt {m : Nat} {xs : List Nat} : ∀ {ws : List (Nat × Nat)}, (∀ x ∈ xs, x < m) → (∀ w ∈ ws, w.2 < m) → ∀ x ∈ putA xs ws, x < m := by
  intro ws
  induction ws generalizing xs with
  | nil => exact fun h _ => h
  | cons w ws ih =>
    intro h1 h2
    refine ih (xs := xs.set w.1 w.2) (fun x hx => ?_) fun w hw => h2 w (List.mem_cons_of_mem _ hw)
    rcases List.mem_or_eq_of_mem_set hx with z | z
    · exact h1 x z
    · rw [z]; exact h2 w List.mem_cons_self
theorem putA_fil {n m : Nat} {xs : List Nat} {ws : List (Nat × Nat)} (F : Fil n m xs) (hw : ∀ w ∈ ws, w.2 < m) : Fil n m (putA xs ws) := ⟨by rw [putA_len]; exact F.len, putA_lt F.lt hw⟩
theorem row_set {xs : List Nat} {i x : Nat} : (rowW xs).set i (nW x) = rowW (xs.set i x) := by simp [rowW, List.map_set]
structure PutI (h : MH) (p pe : Nat) (xs : List Nat) (ws : List (Nat × Nat)) (i : Nat) (r : Env) (k : MH) : Prop where
  ex : ∃ u v : Option W, r = [some (.ref p), some (.ref pe), some (.ref h.length), u, v]
  old : Old h k
  at_ : k[h.length]? = some (.lst (rowW (putA xs (ws.take i))))
theorem put_spec {p pe : Nat} {xs : List Nat} {ws : List (Nat × Nat)} (R : RowAt h p xs) (Wr : Wrs h pe ws) (hw : ∀ w ∈ ws, w.1 < xs.length) (q : ∀ z h', Old h h' → RowAt h' z (putA xs ws) → h.length ≤ z → Q (.ref z) h') : (m_after [.ref p, .ref pe] h).wp Q X := by
  obtain ⟨as, e, T⟩ := Wr
  have lp := lt_of_at e
  unfold m_after
  rw [wp_fn]
  simp -implicitDefEqProofs [b_after, o_list R.seq]
  refine ws_sq (c := .lst (as.map .ref)) (xs := as.map .ref) (app_at e _) rfl (PutI h p pe xs ws) ⟨⟨_, _, rfl⟩, Old.app _ _, new_at _ _⟩ (fun i r k w => w.old.at e) ?_ ?_
  · rintro i x r k hi ⟨⟨u, v, rfl⟩, O, ek⟩
    rw [List.getElem?_map] at hi
    cases ea : as[i]? with
    | none => rw [ea] at hi; cases hi
    | some a =>
      rw [ea] at hi
      cases hi
      obtain ⟨w, ew, et⟩ := T.get ea
      have lw := hw w (List.mem_of_getElem? ew)
      simp -implicitDefEqProofs [o_unseq (seq_tup (O.at et))]
      rw [o_put ek (by omega) (by simp [putA_len]; omega)]
      try simp -implicitDefEqProofs
      have z : (rowW (putA xs (ws.take i))).set w.1 (nW w.2) = rowW (putA xs (ws.take (i + 1))) := by rw [row_set, putA_take ew]
      rw [z]
      exact ⟨⟨_, _, rfl⟩, ⟨by rw [List.length_set]; exact O.1, fun j hj => by rw [List.getElem?_set_ne (by omega)]; exact O.2 j hj⟩, set_at ek⟩
  · rintro r k ⟨⟨u, v, rfl⟩, O, ek⟩
    have e2 : ws.take (as.map W.ref).length = ws := by rw [List.length_map, T.len, List.take_length]
    rw [e2] at ek
    simp -implicitDefEqProofs [o_tuple (lst_at ek)]
    exact q _ _ (O.trans (Old.app _ _)) (tup_at (new_at _ _)) O.1
theorem lawput_spec {p pe : Nat} {xs : List Nat} {ws : List (Nat × Nat)} (R : RowAt h p xs) (Wr : Wrs h pe ws) (hw : ∀ w ∈ ws, w.1 < xs.length) (q : ∀ z h', Old h h' → RowAt h' z (putA xs ws) → h.length ≤ z → Q (.ref z) h') : (m__law_put [.ref p, .ref pe] h).wp Q X := put_spec R Wr hw q
end
end K03
set_option Elab.async false
set_option autoImplicit false
set_option linter.all false
set_option maxRecDepth 100000
namespace K03
open Mini Lb
open PySem (Str PyData)
section
variable {h : MH} {b : Nat} {c : Int} {Q : W → MH → Prop} {X : XQ}
/-! ### which contents each block may be left with -/
def pend (ws : List (Nat × Nat)) (i : Nat) : List Int := (ws.filter fun w => w.1 == i).map fun w => (w.2 : Int)
def row0 (xs : List Nat) (ws : List (Nat × Nat)) (i : Nat) : List Int := ((xs.getD i 0 : Nat) : Int) :: pend ws i
def menu (torn : Bool) (m : Nat) (xs : List Nat) (ws : List (Nat × Nat)) (i : Nat) : List Int :=
  if torn = true then (if pend ws i = [] then [((xs.getD i 0 : Nat) : Int)] else (List.range m).map fun (k : Nat) => (k : Int)) else sortU (row0 xs ws i)
theorem pend_len {ws : List (Nat × Nat)} {i : Nat} : (pend ws i).length ≤ ws.length := by
  unfold pend
  rw [List.length_map]
  exact List.length_filter_le _ _
/-- lists of numbers at ps -/
structure Lol (lo : Nat) (k : MH) (ps : List Nat) (rows : List (List Int)) : Prop where
  len : ps.length = rows.length
  at_ : ∀ (i p : Nat), ps[i]? = some p → ∃ r : List Int, rows[i]? = some r ∧ k[p]? = some (.lst (r.map .int)) ∧ lo ≤ p
  nd : ps.Nodup
theorem Lol.keep {lo : Nat} {k k' : MH} {ps : List Nat} {rows : List (List Int)} (L : Lol lo k ps rows) (q : ∀ p, lo ≤ p → ∀ c, k[p]? = some c → k'[p]? = some c) : Lol lo k' ps rows := ⟨L.len, fun i p e => by
  obtain ⟨r, e1, e2, e3⟩ := L.at_ i p e
  exact ⟨r, e1, q p e3 _ e2, e3⟩, L.nd⟩
theorem Lol.lt {lo : Nat} {k : MH} {ps : List Nat} {rows : List (List Int)} (L : Lol lo k ps rows) {p : Nat} (hp : p ∈ ps) : p < k.length ∧ lo ≤ p := by
  obtain ⟨i, e⟩ := List.getElem?_of_mem hp
  obtain ⟨r, e1, e2, e3⟩ := L.at_ i p e
  exact ⟨lt_of_at e2, e3⟩
theorem Lol.snoc {lo : Nat} {k k' : MH} {ps : List Nat} {rows : List (List Int)} {p : Nat} {r : List Int} (L : Lol lo k ps rows) (q : ∀ p, lo ≤ p → ∀ c, k[p]? = some c → k'[p]? = some c) (e : k'[p]? = some (.lst (r.map .int))) (hp : k.length ≤ p) (hlo : lo ≤ p) : Lol lo k' (ps ++ [p]) (rows ++ [r]) := by
  refine ⟨by simp [L.len], fun i p' e' => ?_, ?_⟩
  · by_cases c : i < ps.length
    · rw [List.getElem?_append_left c] at e'
      obtain ⟨r', e1, e2, e3⟩ := L.at_ i p' e'
      exact ⟨r', by rw [List.getElem?_append_left (by rw [← L.len]; exact c)]; exact e1, q _ e3 _ e2, e3⟩
    · rw [List.getElem?_append_right (by omega)] at e'
      have : i = ps.length := by
        have := (List.getElem?_eq_some_iff.mp e').1
        simp at this; omega
      subst this
      simp at e'
      subst e'
      exact ⟨r, by rw [L.len]; simp, e, hlo⟩
  · rw [List.nodup_append]
    refine ⟨L.nd, List.nodup_cons.mpr ⟨(fun z => nomatch z), List.nodup_nil⟩, fun a ha b hb => ?_⟩
    rw [List.mem_singleton.mp hb]
    have := (L.lt ha).1
    omega
theorem Lol.set {lo : Nat} {k : MH} {ps : List Nat} {rows : List (List Int)} {i p : Nat} {r : List Int} (L : Lol lo k ps rows) (e : ps[i]? = some p) : Lol lo (k.set p (.lst (r.map .int))) ps (rows.set i r) := by
  refine ⟨by rw [List.length_set]; exact L.len, fun j p' e' => ?_, L.nd⟩
  obtain ⟨r', e1, e2, e3⟩ := L.at_ j p' e'
  by_cases c : i = j
  · subst c
    rw [e] at e'
    cases e'
    refine ⟨r, ?_, set_at e2, e3⟩
    rw [List.getElem?_set_self (by rw [← L.len]; exact (List.getElem?_eq_some_iff.mp e).1)]
  · refine ⟨r', by rw [List.getElem?_set_ne c]; exact e1, ?_, e3⟩
    rw [List.getElem?_set_ne]
    · exact e2
    · intro z
      apply c
      have h1 := (List.getElem?_eq_some_iff.mp e)
      have h2 := (List.getElem?_eq_some_iff.mp e')
      obtain ⟨l1, v1⟩ := h1
      obtain ⟨l2, v2⟩ := h2
      rcases Nat.lt_trichotomy i j with lt | eq | gt
      · exact absurd (by rw [v1, v2, z]) (List.pairwise_iff_getElem.mp L.nd i j l1 l2 lt)
      · exact eq
      · exact absurd (by rw [v1, v2, z]) (List.pairwise_iff_getElem.mp L.nd j i l2 l1 gt)
def rowsOf (xs : List Nat) (ws : List (Nat × Nat)) : List (List Int) := (List.range xs.length).map fun i => row0 xs ws i
theorem rowsOf_get {xs : List Nat} {ws : List (Nat × Nat)} {i : Nat} (hi : i < xs.length) : (rowsOf xs ws)[i]? = some (row0 xs ws i) := by
  unfold rowsOf
  rw [List.getElem?_map, List.getElem?_range hi]
  rfl
theorem rows_first {xs : List Nat} : (xs.map fun (x : Nat) => [(x : Int)]) = rowsOf xs [] := by
  refine List.ext_getElem? fun i => ?_
  by_cases c : i < xs.length
  · rw [rowsOf_get c, List.getElem?_map, List.getElem?_eq_getElem c]
    simp [row0, pend, List.getD_eq_getElem?_getD, c]
  · rw [List.getElem?_eq_none (by rw [List.length_map]; omega), List.getElem?_eq_none (by unfold rowsOf; simp; omega)]
theorem pend_snoc {ws : List (Nat × Nat)} {w : Nat × Nat} {i : Nat} : pend (ws ++ [w]) i = pend ws i ++ (if w.1 = i then [(w.2 : Int)] else []) := by
  unfold pend
  rw [List.filter_append, List.map_append]
  congr 1
  by_cases c : w.1 = i
  · simp [c]
  · simp [c]
theorem rows_next {xs : List Nat} {ws : List (Nat × Nat)} {w : Nat × Nat} (hw : w.1 < xs.length) : (rowsOf xs ws).set w.1 (row0 xs ws w.1 ++ [(w.2 : Int)]) = rowsOf xs (ws ++ [w]) := by
  refine List.ext_getElem? fun i => ?_
  by_cases c : i < xs.length
  · rw [rowsOf_get c]
    by_cases d : w.1 = i
    · subst d
      rw [List.getElem?_set_self (by unfold rowsOf; simp; omega)]
      unfold row0
      rw [pend_snoc, if_pos rfl]
      rfl
    · rw [List.getElem?_set_ne d, rowsOf_get c]
      unfold row0
      rw [pend_snoc, if_neg d, List.append_nil]
  · rw [List.getElem?_eq_none (by rw [List.length_set]; unfold rowsOf; simp; omega), List.getElem?_eq_none (by unfold rowsOf; simp; omega)]
structure MnA (h : MH) (xs : List Nat) (i : Nat) (acc : List W) (k : MH) : Prop where
  old : Old h k
  ex : ∃ ps : List Nat, acc = ps.map .ref ∧ Lol (h.length + 1) k ps ((xs.take i).map fun (x : Nat) => [(x : Int)])
structure MnB (h : MH) (d p pe : Nat) (torn : Bool) (ps xs : List Nat) (ws : List (Nat × Nat)) (i : Nat) (r : Env) (k : MH) : Prop where
  ex : ∃ u v w : Option W, r = [some (.ref d), some (.ref p), some (.ref pe), some (.bl torn), some (.ref h.length), u, v, w]
  old : Old h k
  at_ : k[h.length]? = some (.lst (ps.map .ref))
  lol : Lol (h.length + 1) k ps (rowsOf xs (ws.take i))
structure MnC (k0 : MH) (D : Nat) (f : Nat → List Int) (i : Nat) (acc : List W) (k : MH) : Prop where
  old : Old k0 k
  ex : ∃ qs : List Nat, acc = qs.map .ref ∧ qs.length = i ∧ ∀ (j q : Nat), qs[j]? = some q → k[q]? = some (.lst ((f j).map .int)) ∧ q ≠ k0.length
theorem MnC.snoc {k0 k k' : MH} {D : Nat} {f : Nat → List Int} {i : Nat} {acc : List W} {p : Nat} (M : MnC k0 D f i acc k) (O : Old k k') (hp : p ≠ k0.length) (e : k'[p]? = some (.lst ((f i).map .int))) (c : Cell) : MnC k0 D f (i + 1) (acc ++ [.ref p]) (k'.set k0.length c) := by
  obtain ⟨O0, qs, rfl, l, q⟩ := M
  have keep : ∀ {p : Nat} {c2 : Cell}, p ≠ k0.length → k'[p]? = some c2 → (k'.set k0.length c)[p]? = some c2 := fun n e => by rw [List.getElem?_set_ne (Ne.symm n)]; exact e
  refine ⟨⟨by rw [List.length_set]; exact (O0.trans O).1, fun j hj => by rw [List.getElem?_set_ne (by omega)]; exact (O0.trans O).2 j hj⟩, qs ++ [p], by simp, by simp [l], fun j q' ej => ?_⟩
  by_cases cc : j < qs.length
  · rw [List.getElem?_append_left cc] at ej
    obtain ⟨z1, z2⟩ := q j q' ej
    exact ⟨keep z2 (O.at z1), z2⟩
  · rw [List.getElem?_append_right (by omega)] at ej
    have : j = qs.length := by
      have := (List.getElem?_eq_some_iff.mp ej).1
      simp at this; omega
    subst this
    simp at ej
    subst ej
    rw [l]
    exact ⟨keep hp e, hp⟩
structure Menus (h' : MH) (z : Nat) (torn : Bool) (m : Nat) (xs : List Nat) (ws : List (Nat × Nat)) : Prop where
  ex : ∃ ps : List Nat, h'[z]? = some (.lst (ps.map .ref)) ∧ ps.length = xs.length ∧ ∀ (i p : Nat), ps[i]? = some p → h'[p]? = some (.lst ((menu torn m xs ws i).map .int))
theorem menus_spec {d n m p pe : Nat} {torn : Bool} {xs : List Nat} {ws : List (Nat × Nat)} (D : DiskAt h d 7 n m) (hm : m ≤ 64) (R : RowAt h p xs) (hx : xs.length ≤ 24) (Wr : Wrs h pe ws) (hw : ∀ w ∈ ws, w.1 < xs.length) (hl : ws.length < 63)
    (q : ∀ z h', Old h h' → Menus h' z torn m xs ws → Q (.ref z) h') : (m_menus [.ref d, .ref p, .ref pe, .bl torn] h).wp Q X := by
  obtain ⟨as, e, T⟩ := Wr
  obtain ⟨cl, ecl, hcl⟩ := seq_cell R.seq
  unfold m_menus
  rw [wp_fn]
  unfold b_menus
  refine ws_cut (fun r k => ∃ ps, MnB h d p pe torn ps xs ws 0 r k) ?_ ?_
  · simp -implicitDefEqProofs
    refine wp_lc_sq ecl hcl (by simp; omega) (MnA h xs) (fun i acc k w => w.old.at ecl) ⟨Old.app _ _, [], rfl, ⟨rfl, fun i p e => (by cases e), List.nodup_nil⟩⟩ ?_ ?_
    · rintro i x acc k hi eD ⟨O, ps, rfl, L⟩
      obtain ⟨x, ex, rfl⟩ := row_get hi
      have lk := lt_of_at eD
      simp -implicitDefEqProofs
      refine ⟨app_at eD _, ⟨?_, ?_⟩, ps ++ [k.length], by simp, ?_⟩
      · rw [List.length_set, List.length_append]
        have := O.1; omega
      · intro j hj
        rw [List.getElem?_set_ne (by omega), List.getElem?_append_left (by omega)]
        exact O.2 j hj
      · rw [List.take_add_one, ex, List.map_append]
        refine L.snoc (fun p hp c e => ?_) ?_ (Nat.le_refl _) (by omega)
        · rw [List.getElem?_set_ne (by omega)]
          exact app_at e _
        · rw [List.getElem?_set_ne (by omega)]
          exact new_at k _
    · rintro acc k eD ⟨O, ps, rfl, L⟩
      have e2 : xs.take (rowW xs).length = xs := by simp
      rw [e2, rows_first] at L
      exact ⟨ps, ⟨_, _, _, rfl⟩, O, eD, L⟩
  rintro r k ⟨ps, ⟨u, v, w, rfl⟩, O, eD, L⟩
  refine ws_cut (MnB h d p pe torn ps xs ws ws.length) ?_ ?_
  · simp -implicitDefEqProofs
    refine ws_sq (c := .lst (as.map .ref)) (xs := as.map .ref) (O.at e) rfl (MnB h d p pe torn ps xs ws) ⟨⟨_, _, _, rfl⟩, O, eD, L⟩ (fun i r k w => w.old.at e) ?_ ?_
    · rintro i x r k hi ⟨⟨u, v, w, rfl⟩, O, eD, L⟩
      rw [List.getElem?_map] at hi
      cases ea : as[i]? with
      | none => rw [ea] at hi; cases hi
      | some a =>
        rw [ea] at hi
        cases hi
        obtain ⟨y, ey, et⟩ := T.get ea
        have ly := hw y (List.mem_of_getElem? ey)
        have lp : ps.length = xs.length := by rw [L.len]; unfold rowsOf; simp
        have ep : ps[y.1]? = some ps[y.1] := List.getElem?_eq_getElem (by omega)
        obtain ⟨r0, er0, ek, elo⟩ := L.at_ y.1 _ ep
        rw [rowsOf_get ly] at er0
        cases er0
        have eD2 : (ps.map W.ref)[y.1]? = some (.ref ps[y.1]) := by rw [List.getElem?_map, ep]; rfl
        simp -implicitDefEqProofs [o_unseq (seq_tup (O.at et)), eApp, o_ix (seq_lst eD), item_nn y.1 eD2, isLst_at ek]
        unfold app
        simp only [ek]
        rw [if_pos (by rw [List.length_map]; unfold row0; rw [List.length_cons]; have z1 := pend_len (ws := ws.take i) (i := y.1); rw [List.length_take] at z1; omega)]
        simp -implicitDefEqProofs
        refine ⟨⟨_, _, _, rfl⟩, ⟨by rw [List.length_set]; exact O.1, fun j hj => by rw [List.getElem?_set_ne (by omega)]; exact O.2 j hj⟩, by rw [List.getElem?_set_ne (by omega)]; exact eD, ?_⟩
        have L2 := L.set (r := row0 xs (ws.take i) y.1 ++ [(y.2 : Int)]) ep
        rw [rows_next ly] at L2
        rw [List.take_add_one, ey]
        have em : (row0 xs (ws.take i) y.1 ++ [(y.2 : Int)]).map W.int = (row0 xs (ws.take i) y.1).map W.int ++ [nW y.2] := by rw [List.map_append]; rfl
        rw [em] at L2
        exact L2
    · rintro r k M
      rw [List.length_map, T.len] at M
      exact ⟨rfl, M⟩
  rintro r k ⟨⟨u, v, w, rfl⟩, O, eD, L⟩
  rw [List.take_length] at L
  have lp : ps.length = xs.length := by rw [L.len]; unfold rowsOf; simp
  have fin : ∀ {acc : List W} {k2 : MH}, k2[k.length]? = some (.lst acc) → MnC k h.length (menu torn m xs ws) (ps.map W.ref).length acc k2 → Q (.ref k.length) k2 := fun {acc k2} e2 M => by
    obtain ⟨O2, qs, rfl, l, f⟩ := M
    rw [List.length_map] at l
    exact q _ _ (O.trans O2) ⟨qs, e2, by omega, fun i p e => (f i p e).1⟩
  have item : ∀ {i : Nat} {x : W}, (ps.map W.ref)[i]? = some x → ∃ p', x = .ref p' ∧ i < xs.length ∧ k[p']? = some (.lst ((row0 xs ws i).map .int)) := fun {i x} hi => by
    rw [List.getElem?_map] at hi
    cases ep : ps[i]? with
    | none => rw [ep] at hi; cases hi
    | some p' =>
      rw [ep] at hi
      cases hi
      obtain ⟨r, e1, e2, _⟩ := L.at_ i p' ep
      have li : i < xs.length := by rw [← lp]; exact (List.getElem?_eq_some_iff.mp ep).1
      rw [rowsOf_get li] at e1
      cases e1
      exact ⟨p', rfl, li, e2⟩
  cases torn with
  | true =>
    simp -implicitDefEqProofs
    refine wp_lc_sq (c := .lst (ps.map .ref)) (xs := ps.map .ref) eD rfl (by rw [List.length_map]; omega) (MnC k h.length (menu true m xs ws)) (fun i acc k2 w => w.old.at eD) ⟨Old.app _ _, [], rfl, rfl, fun j q e => (by cases e)⟩ ?_ (fun acc k2 e2 M => fin e2 M)
    rintro i x acc k2 hi e2 M
    obtain ⟨p', rfl, li, ep⟩ := item hi
    have ep2 := M.old.at ep
    have D2 : DiskAt k2 d 7 n m := (D.old O).old M.old
    have lk := lt_of_at ep
    simp -implicitDefEqProofs [o_len (seq_lst ep2)]
    by_cases c : pend ws i = []
    · have l1 : ¬ (1 : Int) < ((row0 xs ws i).length : Int) := by unfold row0; rw [c]; simp
      rw [if_neg l1]
      refine ⟨e2, M.snoc (Old.refl _) (by omega) ?_ _⟩
      rw [ep2]
      unfold menu row0
      rw [c]
      simp
    · have l1 : (1 : Int) < ((row0 xs ws i).length : Int) := by
        unfold row0
        have : (pend ws i).length ≠ 0 := fun z => c (List.length_eq_zero_iff.mp z)
        simp; omega
      rw [if_pos l1, D2.contents rfl]
      simp -implicitDefEqProofs
      refine ⟨by omega, app_at e2 _, M.snoc (Old.app _ _) (by have := M.old.1; have := lt_of_at e2; omega) ?_ _⟩
      rw [new_at]
      unfold menu
      rw [if_pos rfl, if_neg c, List.map_map]
      rfl
  | false =>
    simp -implicitDefEqProofs
    refine wp_lc_sq (c := .lst (ps.map .ref)) (xs := ps.map .ref) eD rfl (by rw [List.length_map]; omega) (MnC k h.length (menu false m xs ws)) (fun i acc k2 w => w.old.at eD) ⟨Old.app _ _, [], rfl, rfl, fun j q e => (by cases e)⟩ ?_ (fun acc k2 e2 M => fin e2 M)
    rintro i x acc k2 hi e2 M
    obtain ⟨p', rfl, li, ep⟩ := item hi
    have ep2 := M.old.at ep
    have ll : (row0 xs ws i).length < 64 := by unfold row0; rw [List.length_cons]; have := pend_len (ws := ws) (i := i); omega
    simp -implicitDefEqProofs [o_sortU (lst_at ep2) ll]
    refine ⟨app_at e2 _, M.snoc (Old.app _ _) (by have := M.old.1; have := lt_of_at e2; omega) ?_ _⟩
    rw [new_at]
    rfl
end
end K03
set_option Elab.async false
set_option autoImplicit false
set_option linter.all false
set_option maxRecDepth 100000
namespace K03
open Mini Lb
open PySem (Str PyData)
section
variable {h : MH} {b : Nat} {c : Int} {Q : W → MH → Prop} {X : XQ} {w : W}
/-! ### what is asked of the program, under this law's names -/
theorem btw_ {lo hi : Int} (k : known w h = true) (q : Q (.bl (btw w lo hi)) h) : (m_is_between [w, .int lo, .int hi] h).wp Q X := between_spec k q
theorem isfil {z n m : Nat} (D : DiskAt h z 7 n m) (I : Items h w) (q : ∀ h', Old h h' → Q (.bl (isCon h w n m)) h') : (m_is_filling [.ref z, w] h).wp Q X := is_filling_spec (okB := okD) (okC := okD) D rfl rfl I q
theorem chk_ok {z n m : Nat} (D : DiskAt h z 7 n m) (I : Items h w) (f : isCon h w n m = true) (q : ∀ h', Old h h' → Q .non h') : (m_check_filling [.ref z, w] h).wp Q X := check_filling_ok (okB := okD) (okC := okD) (eF := 2) D rfl rfl I f q
theorem chk_bad {z n m : Nat} (D : DiskAt h z 7 n m) (I : Items h w) (f : isCon h w n m = false) (q : ∀ h', Old h h' → X 2 (some h'.length) (h' ++ [.xd [("given", w)]])) : (m_check_filling [.ref z, w] h).wp Q X := check_filling_bad (okB := okD) (okC := okD) (eF := 2) D rfl rfl I f q
theorem blk_ {z n m : Nat} (D : DiskAt h z 7 n m) (k : known w h = true) (q : Q (.bl (btw w 0 ((n : Int) - 1))) h) : (m_is_block [.ref z, w] h).wp Q X := by
  unfold m_is_block
  rw [wp_fn]
  simp -implicitDefEqProofs [b_is_block, D.blocks (okB := okD) rfl]
  exact btw_ k q
theorem con_ {z n m : Nat} (D : DiskAt h z 7 n m) (k : known w h = true) (q : Q (.bl (btw w 0 ((m : Int) - 1))) h) : (m_is_content [.ref z, w] h).wp Q X := by
  unfold m_is_content
  rw [wp_fn]
  simp -implicitDefEqProofs [b_is_content, D.contents (okC := okD) rfl]
  exact btw_ k q
/-! ### drives -/
def DrvAt (h : MH) (dr dk st pe : Nat) (torn : Bool) : Prop := h[dr]? = some (.ins 8 [("disk", .ref dk), ("torn", .bl torn), ("_settled", .ref st), ("_pending", .ref pe)])
structure Drv (h : MH) (dr dk st pe n m : Nat) (torn : Bool) (xs : List Nat) (ws : List (Nat × Nat)) : Prop where
  at_ : DrvAt h dr dk st pe torn
  disk : DiskAt h dk 7 n m
  row : RowAt h st xs
  wrs : Wrs h pe ws
  fil : Fil n m xs
  siz : Sizes n m
  okw : ∀ w ∈ ws, w.1 < n ∧ w.2 < m
section
variable {dr dk st pe n m : Nat} {torn : Bool} {xs : List Nat} {ws : List (Nat × Nat)}
theorem DrvAt.disk (D : DrvAt h dr dk st pe torn) : fldOf okR "disk" (.ref dr) h = .ok (.ref dk) h := o_fld D rfl rfl
theorem DrvAt.trn (D : DrvAt h dr dk st pe torn) : fldOf okR "torn" (.ref dr) h = .ok (.bl torn) h := o_fld D rfl rfl
theorem DrvAt.settled (D : DrvAt h dr dk st pe torn) : fldOf okR "_settled" (.ref dr) h = .ok (.ref st) h := o_fld D rfl rfl
theorem DrvAt.pending (D : DrvAt h dr dk st pe torn) : fldOf okR "_pending" (.ref dr) h = .ok (.ref pe) h := o_fld D rfl rfl
theorem DrvAt.old {h' : MH} (D : DrvAt h dr dk st pe torn) (O : Old h h') : DrvAt h' dr dk st pe torn := O.at D
theorem Drv.old {h' : MH} (D : Drv h dr dk st pe n m torn xs ws) (O : Old h h') : Drv h' dr dk st pe n m torn xs ws := ⟨O.at D.at_, D.disk.old O, D.row.old O, D.wrs.old O, D.fil, D.siz, D.okw⟩
theorem Drv.okx (D : Drv h dr dk st pe n m torn xs ws) : ∀ w ∈ ws, w.1 < xs.length := fun w hw => by rw [D.fil.len]; exact (D.okw w hw).1
theorem filling_ (D : Drv h dr dk st pe n m torn xs ws) (q : ∀ z h', Old h h' → RowAt h' z (putA xs ws) → h.length ≤ z → Q (.ref z) h') : (m_Drive_filling [.ref dr] h).wp Q X := by
  unfold m_Drive_filling
  rw [wp_fn]
  simp -implicitDefEqProofs [b_Drive_filling, D.at_.settled, D.at_.pending]
  exact put_spec D.row D.wrs D.okx q
theorem settled_ (D : DrvAt h dr dk st pe torn) (q : Q (.ref st) h) : (m_Drive_settled [.ref dr] h).wp Q X := by
  unfold m_Drive_settled
  rw [wp_fn]
  simp -implicitDefEqProofs [b_Drive_settled, D.settled]
  exact q
theorem pending_ (D : DrvAt h dr dk st pe torn) (Wr : Wrs h pe ws) (q : ∀ as, Tups h as ws → Q (.ref h.length) (h ++ [.lst (as.map .ref)])) : (m_Drive_pending [.ref dr] h).wp Q X := by
  obtain ⟨as, e, T⟩ := Wr
  unfold m_Drive_pending
  rw [wp_fn]
  simp -implicitDefEqProofs [b_Drive_pending, D.pending, o_list (seq_lst e)]
  exact q as T
theorem hasM_ (D : DrvAt h dr dk st pe torn) {nm : Str} (hn : ([("disk", .ref dk), ("torn", .bl torn), ("_settled", .ref st), ("_pending", .ref pe)] : List (Str × W)).lookup nm = none) : hasM 8 nm (.ref dr) h = true := hasM_at D hn
theorem drive_ok {p : Nat} (D : DiskAt h dk 7 n m) (I : Items (h ++ [.ins 8 []]) (.ref p)) (f : isCon (h ++ [.ins 8 []]) (.ref p) n m = true) (q : ∀ pe h', Old h h' → DrvAt h' h.length dk p pe torn → h'[pe]? = some (.lst []) → h.length < pe → Q (.ref h.length) h') : (newIns 8 m_Drive___init__ [.ref dk, .ref p, .bl torn] h).wp Q X := by
  refine o_new ?_
  unfold m_Drive___init__
  rw [wp_fn]
  simp -implicitDefEqProofs [b_Drive___init__]
  refine chk_ok (D.old (Old.app _ _)) I f fun h2 O2 => ?_
  have e0 : h2[h.length]? = some (.ins 8 []) := O2.at (new_at h _)
  have p1 : putFs "disk" (.ref dk) [] = ([("disk", .ref dk)] : List (Str × W)) := rfl
  have p2 : putFs "torn" (.bl torn) ([("disk", .ref dk)] : List (Str × W)) = ([("disk", .ref dk), ("torn", .bl torn)] : List (Str × W)) := by unfold putFs; rw [if_neg (by decide +kernel)]; rfl
  have p3 : putFs "_settled" (.ref p) ([("disk", .ref dk), ("torn", .bl torn)] : List (Str × W)) = ([("disk", .ref dk), ("torn", .bl torn), ("_settled", .ref p)] : List (Str × W)) := by unfold putFs; rw [if_neg (by decide +kernel)]; unfold putFs; rw [if_neg (by decide +kernel)]; rfl
  have p4 : ∀ x : W, putFs "_pending" x ([("disk", .ref dk), ("torn", .bl torn), ("_settled", .ref p)] : List (Str × W)) = ([("disk", .ref dk), ("torn", .bl torn), ("_settled", .ref p), ("_pending", x)] : List (Str × W)) := fun x => by
    unfold putFs; rw [if_neg (by decide +kernel)]; unfold putFs; rw [if_neg (by decide +kernel)]; unfold putFs; rw [if_neg (by decide +kernel)]; rfl
  have l2 := O2.1
  rw [List.length_append] at l2
  try simp -implicitDefEqProofs
  rw [o_fldPut e0 rfl (by decide), p1]
  try simp -implicitDefEqProofs
  rw [o_fldPut (set_at e0) rfl (by simp), p2]
  try simp -implicitDefEqProofs
  have e3 : (h2.set h.length (.ins 8 [("disk", .ref dk), ("torn", .bl torn)]))[h.length]? = some (.ins 8 [("disk", .ref dk), ("torn", .bl torn)]) := set_at e0
  rw [o_fldPut e3 rfl (by simp), p3]
  try simp -implicitDefEqProofs
  have e4 : ((h2.set h.length (.ins 8 [("disk", .ref dk), ("torn", .bl torn), ("_settled", .ref p)])) ++ [Cell.lst []])[h.length]? = some (.ins 8 [("disk", .ref dk), ("torn", .bl torn), ("_settled", .ref p)]) := app_at (set_at e0) _
  rw [o_fldPut e4 rfl (by simp), p4]
  try simp -implicitDefEqProofs
  have l3 : h.length < h2.length := by simp at l2; omega
  refine q h2.length _ ⟨by rw [List.length_set, List.length_append, List.length_set]; simp; omega, fun i hi => ?_⟩ (set_at e4) ?_ l3
  · rw [List.getElem?_set_ne (by omega), List.getElem?_append_left (by rw [List.length_set]; omega), List.getElem?_set_ne (by omega), O2.2 i (by rw [List.length_append]; omega), List.getElem?_append_left hi]
  · rw [List.getElem?_set_ne (by omega), List.getElem?_append_right (by rw [List.length_set]; omega), List.length_set]
    simp
theorem drive_bad (D : DiskAt h dk 7 n m) (I : Items (h ++ [.ins 8 []]) w) (f : isCon (h ++ [.ins 8 []]) w n m = false) (q : ∀ h', Old h h' → X 2 (some h'.length) (h' ++ [.xd [("given", w)]])) : (newIns 8 m_Drive___init__ [.ref dk, w, .bl torn] h).wp Q X := by
  refine o_new ?_
  unfold m_Drive___init__
  rw [wp_fn]
  simp -implicitDefEqProofs [b_Drive___init__]
  exact chk_bad (D.old (Old.app _ _)) I f fun h2 O2 => q h2 ((Old.app _ _).trans O2)
/-! ### write -/
theorem write_badB {v : W} (D : Drv h dr dk st pe n m torn xs ws) (k : known w h = true) (hb : btw w 0 ((n : Int) - 1) = false) (q : X 3 (some h.length) (h ++ [.xd [("given", w)]])) : (m_Drive_write [.ref dr, w, v] h).wp Q X := by
  unfold m_Drive_write
  rw [wp_fn]
  simp -implicitDefEqProofs [b_Drive_write, D.at_.disk]
  refine blk_ D.disk k ?_
  simp -implicitDefEqProofs [hb]
  exact q
theorem write_badC {i : Nat} (D : Drv h dr dk st pe n m torn xs ws) (hi : i < n) (k : known w h = true) (hb : btw w 0 ((m : Int) - 1) = false) (q : X 4 (some h.length) (h ++ [.xd [("given", w)]])) : (m_Drive_write [.ref dr, .int i, w] h).wp Q X := by
  unfold m_Drive_write
  rw [wp_fn]
  simp -implicitDefEqProofs [b_Drive_write, D.at_.disk]
  refine blk_ D.disk rfl ?_
  have e1 : btw (.int i) 0 ((n : Int) - 1) = true := by simp [btw]; omega
  simp -implicitDefEqProofs [e1, D.at_.disk]
  refine con_ D.disk k ?_
  simp -implicitDefEqProofs [hb]
  exact q
theorem write_ok {i x : Nat} (D : Drv h dr dk st pe n m torn xs ws) (hi : i < n) (hx : x < m) (hl : ws.length < 9000000) (q : ∀ as, Tups h as ws → h[pe]? = some (.lst (as.map .ref)) → Q .non ((h ++ [Cell.tup [nW i, nW x]]).set pe (.lst ((as ++ [h.length]).map .ref)))) : (m_Drive_write [.ref dr, .int i, .int x] h).wp Q X := by
  obtain ⟨as, e, T⟩ := D.wrs
  unfold m_Drive_write
  rw [wp_fn]
  simp -implicitDefEqProofs [b_Drive_write, D.at_.disk]
  refine blk_ D.disk rfl ?_
  have e1 : btw (.int i) 0 ((n : Int) - 1) = true := by simp [btw]; omega
  have e2 : btw (.int x) 0 ((m : Int) - 1) = true := by simp [btw]; omega
  simp -implicitDefEqProofs [e1, D.at_.disk]
  refine con_ D.disk rfl ?_
  simp -implicitDefEqProofs [e2, D.at_.pending, eApp, isLst_at e]
  unfold app
  simp only [app_at e]
  rw [if_pos (by rw [List.length_map, T.len]; omega)]
  have := q as T e
  simpa using this
/-! ### sync -/
theorem drv_set {x y : W} (D : h[dr]? = some (.ins 8 [("disk", .ref dk), ("torn", .bl torn), ("_settled", x), ("_pending", y)])) (z : W) :
    fldPut okR "_settled" z (.ref dr) h = .ok () (h.set dr (.ins 8 [("disk", .ref dk), ("torn", .bl torn), ("_settled", z), ("_pending", y)])) ∧ fldPut okR "_pending" z (.ref dr) h = .ok () (h.set dr (.ins 8 [("disk", .ref dk), ("torn", .bl torn), ("_settled", x), ("_pending", z)])) := by
  constructor
  · rw [o_fldPut D rfl (by simp)]
    rw [show putFs "_settled" z ([("disk", .ref dk), ("torn", .bl torn), ("_settled", x), ("_pending", y)] : List (Str × W)) = ([("disk", .ref dk), ("torn", .bl torn), ("_settled", z), ("_pending", y)] : List (Str × W)) by
      unfold putFs; rw [if_neg (by decide +kernel)]; unfold putFs; rw [if_neg (by decide +kernel)]; unfold putFs; rw [if_pos rfl]]
  · rw [o_fldPut D rfl (by simp)]
    rw [show putFs "_pending" z ([("disk", .ref dk), ("torn", .bl torn), ("_settled", x), ("_pending", y)] : List (Str × W)) = ([("disk", .ref dk), ("torn", .bl torn), ("_settled", x), ("_pending", z)] : List (Str × W)) by
      unfold putFs; rw [if_neg (by decide +kernel)]; unfold putFs; rw [if_neg (by decide +kernel)]; unfold putFs; rw [if_neg (by decide +kernel)]; unfold putFs; rw [if_pos rfl]]
/-- a drive that is settled anew, nothing pending -/
structure Anew (h h' : MH) (dr dk st pe : Nat) (torn : Bool) : Prop where
  fr : Fr [dr] h h'
  at_ : DrvAt h' dr dk st pe torn
  pe0 : h'[pe]? = some (.lst [])
  lt : h.length ≤ pe
theorem anew {h1 : MH} {z : Nat} (D : DrvAt h dr dk st pe torn) (O : Old h h1) : Anew h (((h1.set dr (.ins 8 [("disk", .ref dk), ("torn", .bl torn), ("_settled", .ref z), ("_pending", .ref pe)])) ++ [Cell.lst []]).set dr (.ins 8 [("disk", .ref dk), ("torn", .bl torn), ("_settled", .ref z), ("_pending", .ref h1.length)])) dr dk z h1.length torn := by
  have ld := lt_of_at D
  have e1 := O.at D
  refine ⟨?_, ?_, ?_, O.1⟩
  · exact ((((Fr.of_old (M := [dr]) O).set _ (.inl (by simp))).app _).set _ (.inl (by simp)))
  · exact set_at (app_at (set_at e1) _)
  · have := O.1
    rw [List.getElem?_set_ne (by omega), List.getElem?_append_right (by rw [List.length_set]; omega), List.length_set]
    simp
theorem sync_ (D : Drv h dr dk st pe n m torn xs ws) (q : ∀ st' pe' h', Anew h h' dr dk st' pe' torn → RowAt h' st' (putA xs ws) → Q (.int ws.length) h') : (m_Drive_sync [.ref dr] h).wp Q X := by
  obtain ⟨as, e, T⟩ := D.wrs
  unfold m_Drive_sync
  rw [wp_fn]
  simp -implicitDefEqProofs [b_Drive_sync, D.at_.pending, o_len (seq_lst e)]
  refine ⟨hasM_ D.at_ rfl, ?_⟩
  refine filling_ D fun z h1 O R lz => ?_
  have e1 := O.at D.at_
  try simp -implicitDefEqProofs
  rw [(drv_set e1 _).1]
  try simp -implicitDefEqProofs
  have e2 := app_at (set_at (c' := .ins 8 [("disk", .ref dk), ("torn", .bl torn), ("_settled", .ref z), ("_pending", .ref pe)]) e1) [Cell.lst []]
  rw [(drv_set e2 _).2]
  try simp -implicitDefEqProofs
  have A := anew (z := z) D.at_ O
  have := q z h1.length _ A ?_
  · rw [T.len]
    exact this
  · have R2 : RowAt h1 z (putA xs ws) := R
    have nz : dr ≠ z := by have := lt_of_at D.at_; omega
    unfold RowAt at R2 ⊢
    rw [← R2]
    refine tupAt_eq ?_
    have lz2 := R.lt
    rw [List.getElem?_set_ne nz, List.getElem?_append_left (by rw [List.length_set]; omega), List.getElem?_set_ne nz]
end
end
end K03
set_option Elab.async false
set_option autoImplicit false
set_option linter.all false
set_option maxRecDepth 100000
namespace K03
open Mini Lb
open PySem (Str PyData)
section
variable {h : MH} {b : Nat} {c : Int} {Q : W → MH → Prop} {X : XQ} {w : W}
variable {dr dk st pe n m : Nat} {torn : Bool} {xs : List Nat} {ws : List (Nat × Nat)}
/-- which of ys may be left -/
def mayL (torn : Bool) (m : Nat) (xs : List Nat) (ws : List (Nat × Nat)) (ys : List Nat) : List Bool := (List.range ys.length).map fun j => decide (((ys.getD j 0 : Nat) : Int) ∈ menu torn m xs ws j)
theorem mayL_next {ys : List Nat} {i y : Nat} (e : ys[i]? = some y) : (mayL torn m xs ws ys).take (i + 1) = (mayL torn m xs ws ys).take i ++ [decide ((y : Int) ∈ menu torn m xs ws i)] := by
  rw [List.take_add_one]
  unfold mayL
  have li := (List.getElem?_eq_some_iff.mp e).1
  rw [List.getElem?_map, List.getElem?_range li]
  simp [List.getD_eq_getElem?_getD, e]
structure MayI (h : MH) (torn : Bool) (m : Nat) (xs : List Nat) (ws : List (Nat × Nat)) (ys : List Nat) (i : Nat) (acc : List W) (k : MH) : Prop where
  old : Old h k
  acc_ : acc = ((mayL torn m xs ws ys).take i).map .bl
theorem may_ {p : Nat} {ys : List Nat} (D : Drv h dr dk st pe n m torn xs ws) (hl : ws.length < 63) (F : Fil n m ys) (R : RowAt h p ys) (q : ∀ h', Old h h' → Q (.bl ((mayL torn m xs ws ys).all id)) h') : (m_Drive_may_leave [.ref dr, .ref p] h).wp Q X := by
  have S := D.siz
  unfold m_Drive_may_leave
  rw [wp_fn]
  simp -implicitDefEqProofs [b_Drive_may_leave, D.at_.disk]
  refine isfil D.disk (R.items (by have := F.len; have := S.n1; omega)) fun h1 O1 => ?_
  rw [F.con R]
  have D1 := D.old O1
  simp -implicitDefEqProofs [D1.at_.disk, D1.at_.settled, D1.at_.pending, D1.at_.trn]
  refine menus_spec D1.disk S.m1 D1.row (by have := D.fil.len; have := S.n1; omega) D1.wrs D.okx hl fun z h2 O2 ⟨ps, ez, lp, f⟩ => ?_
  have R2 := (R.old O1).old O2
  have O12 := O1.trans O2
  try simp -implicitDefEqProofs
  refine wp_zip R2.tup (lst_at ez) (by simp [lp, F.len, D.fil.len]) (by simp; have := F.len; have := S.n1; omega) (MayI h2 torn m xs ws ys) (fun i acc k I => ⟨(R2.old I.old).tup, lst_at (I.old.at ez)⟩) ⟨Old.app _ _, by simp⟩ ?_ ?_
  · rintro i x y acc k ex ey eD ⟨O, rfl⟩
    obtain ⟨y0, e0, rfl⟩ := row_get ex
    rw [List.getElem?_map] at ey
    cases ep : ps[i]? with
    | none => rw [ep] at ey; cases ey
    | some p' =>
      rw [ep] at ey
      cases ey
      have ek := O.at (f i p' ep)
      simp -implicitDefEqProofs [o_in (lst_at ek)]
      refine ⟨by simpa using eD, ⟨by rw [List.length_set]; exact O.1, fun j hj => by rw [List.getElem?_set_ne (by omega)]; exact O.2 j hj⟩, ?_⟩
      rw [mayL_next e0]
      simp
  · rintro acc k eD ⟨O, rfl⟩
    have e2 : (mayL torn m xs ws ys).take (rowW ys).length = mayL torn m xs ws ys := by
      rw [List.take_of_length_le]
      unfold mayL
      simp
    rw [e2] at eD
    rw [o_all (lst_at eD)]
    try simp -implicitDefEqProofs
    exact q k (O12.trans O)
/-! ### cut -/
theorem cut_bad (D : Drv h dr dk st pe n m torn xs ws) (I : Items h w) (f : isCon h w n m = false) (q : ∀ h', Old h h' → X 2 (some h'.length) (h' ++ [.xd [("given", w)]])) : (m_Drive_cut [.ref dr, w] h).wp Q X := by
  unfold m_Drive_cut
  rw [wp_fn]
  simp -implicitDefEqProofs [b_Drive_cut, D.at_.disk]
  exact chk_bad D.disk I f q
theorem cut_left {p : Nat} {ys : List Nat} (D : Drv h dr dk st pe n m torn xs ws) (hl : ws.length < 63) (F : Fil n m ys) (R : RowAt h p ys) (hy : (mayL torn m xs ws ys).all id = false) (q : ∀ h', Old h h' → X 6 (some h'.length) (h' ++ [.xd [("filling", .ref p)]])) : (m_Drive_cut [.ref dr, .ref p] h).wp Q X := by
  have S := D.siz
  unfold m_Drive_cut
  rw [wp_fn]
  simp -implicitDefEqProofs [b_Drive_cut, D.at_.disk]
  refine chk_ok D.disk (R.items (by have := F.len; have := S.n1; omega)) (F.con R) fun h1 O1 => ?_
  try simp -implicitDefEqProofs
  refine ⟨hasM_ (D.at_.old O1) rfl, ?_⟩
  refine may_ (D.old O1) hl F (R.old O1) fun h2 O2 => ?_
  simp -implicitDefEqProofs [hy]
  exact q h2 (O1.trans O2)
theorem cut_ok {p : Nat} {ys : List Nat} (D : Drv h dr dk st pe n m torn xs ws) (hl : ws.length < 63) (F : Fil n m ys) (R : RowAt h p ys) (hy : (mayL torn m xs ws ys).all id = true) (q : ∀ pe' h', Anew h h' dr dk p pe' torn → RowAt h' p ys → Q .non h') : (m_Drive_cut [.ref dr, .ref p] h).wp Q X := by
  have S := D.siz
  unfold m_Drive_cut
  rw [wp_fn]
  simp -implicitDefEqProofs [b_Drive_cut, D.at_.disk]
  refine chk_ok D.disk (R.items (by have := F.len; have := S.n1; omega)) (F.con R) fun h1 O1 => ?_
  try simp -implicitDefEqProofs
  refine ⟨hasM_ (D.at_.old O1) rfl, ?_⟩
  refine may_ (D.old O1) hl F (R.old O1) fun h2 O2 => ?_
  have O := O1.trans O2
  have e1 := O.at D.at_
  simp -implicitDefEqProofs [hy]
  rw [(drv_set e1 _).1]
  try simp -implicitDefEqProofs
  have e2 := app_at (set_at (c' := .ins 8 [("disk", .ref dk), ("torn", .bl torn), ("_settled", .ref p), ("_pending", .ref pe)]) e1) [Cell.lst []]
  rw [(drv_set e2 _).2]
  try simp -implicitDefEqProofs
  refine q h2.length _ (anew (z := p) D.at_ O) ?_
  have R2 : tupAt h2 p = some (rowW ys) := R.old O
  have lp := R.lt
  have lo := O.1
  have nz : dr ≠ p := by
    rintro rfl
    have := D.at_
    have R' : tupAt h dr = some (rowW ys) := R
    unfold tupAt at R'
    unfold DrvAt at this
    rw [this] at R'
    cases R'
  unfold RowAt
  rw [← R2]
  refine tupAt_eq ?_
  rw [List.getElem?_set_ne nz, List.getElem?_append_left (by rw [List.length_set]; omega), List.getElem?_set_ne nz]
/-! ### told: what a deed brings -/
theorem xf_told {ok : Nat → Bool} {f : Str} {e : Nat} {h1 : MH} (hk : ok e = true) : xfOf ok f (.ref (h1.length + 1)) (h1 ++ [.xd [(f, w)], .exo e (some h1.length)]) = .ok w (h1 ++ [.xd [(f, w)], .exo e (some h1.length)]) :=
  o_xf (d := h1.length) (c := e) (fs := [(f, w)]) (at_new (i := 1) rfl) (at_new (i := 0) rfl) hk (by simp [List.lookup])
theorem opened_bad {way : Nat} (hw : way < 3) (D : DiskAt h dk 7 n m) (I : Items (h ++ [.ins 8 []]) w) (f : isCon (h ++ [.ins 8 []]) w n m = false) (q : ∀ t h', h.length ≤ t → Old h h' → h'[t]? = some (.lst [.str "filling", w]) → Q (.ref t) h') : (m__law_opened [.int way, .ref dk, w, .bl torn] h).wp Q X := by
  have go : ∀ {torn : Bool} {Q' : W → MH → Prop} {X' : XQ}, (∀ h', Old h h' → X' 2 (some h'.length) (h' ++ [.xd [("given", w)]])) → (newIns 8 m_Drive___init__ [.ref dk, w, .bl torn] h).wp Q' X' := fun q => drive_bad D I f q
  have fin : ∀ h', Old h h' → Q (.ref ((h' ++ [Cell.xd [("given", w)], .exo 2 (some h'.length)]).length)) (h' ++ [.xd [("given", w)], .exo 2 (some h'.length), .lst [.str "filling", w]]) := fun h' O => by
    refine q _ _ (by simp; have := O.1; omega) (O.trans (Old.app _ _)) ?_
    have : (h' ++ [Cell.xd [("given", w)], .exo 2 (some h'.length), .lst [.str "filling", w]])[h'.length + 2]? = some (.lst [.str "filling", w]) := at_new (i := 2) rfl
    simpa using this
  unfold m__law_opened
  rw [wp_fn]
  have w3 : way = 0 ∨ way = 1 ∨ way = 2 := by omega
  rcases w3 with rfl | rfl | rfl
  · cases torn with
    | true =>
      simp -implicitDefEqProofs [b__law_opened]
      refine go fun h' O => ?_
      simp -implicitDefEqProofs
      rw [xf_told rfl]
      simp -implicitDefEqProofs
      simpa using fin h' O
    | false =>
      simp -implicitDefEqProofs [b__law_opened]
      refine go fun h' O => ?_
      simp -implicitDefEqProofs
      rw [xf_told rfl]
      simp -implicitDefEqProofs
      simpa using fin h' O
  · simp -implicitDefEqProofs [b__law_opened]
    refine go fun h' O => ?_
    simp -implicitDefEqProofs
    rw [xf_told rfl]
    simp -implicitDefEqProofs
    simpa using fin h' O
  · simp -implicitDefEqProofs [b__law_opened]
    refine go fun h' O => ?_
    simp -implicitDefEqProofs
    rw [xf_told rfl]
    simp -implicitDefEqProofs
    simpa using fin h' O
end
end K03
set_option Elab.async false
set_option autoImplicit false
set_option linter.all false
set_option maxRecDepth 100000
namespace K03
open Mini Lb
open PySem (Str PyData)
section
variable {h : MH} {b : Nat} {c : Int} {Q : W → MH → Prop} {X : XQ} {w : W}
variable {dr dk st pe n m : Nat} {torn nd : Bool} {xs : List Nat} {ws : List (Nat × Nat)} {t : Nat}
/-- the heap behind a refusal that was caught and told -/
abbrev toldH (h' : MH) (e : Nat) (f s : Str) (w : W) : MH := h' ++ [.xd [(f, w)], .exo e (some h'.length), .lst [.str s, w]]
theorem toldH_at {h' : MH} {e : Nat} {f s : Str} : (toldH h' e f s w)[h'.length + 2]? = some (.lst [.str s, w]) := at_new (i := 2) rfl
theorem opened_ok {way p : Nat} (hw : way < 3) (D : DiskAt h dk 7 n m) (I : Items (h ++ [.ins 8 []]) (.ref p)) (f : isCon (h ++ [.ins 8 []]) (.ref p) n m = true) (q : ∀ z pe t h', Old h h' → DrvAt h' z dk p pe torn → h'[pe]? = some (.lst []) → h.length ≤ z → z < pe → h'[t]? = some (.lst [.str "made", .ref z]) → Q (.ref t) h') : (m__law_opened [.int way, .ref dk, .ref p, .bl torn] h).wp Q X := by
  have fin : ∀ {pe : Nat} {h' : MH}, Old h h' → DrvAt h' h.length dk p pe torn → h'[pe]? = some (.lst []) → h.length < pe → Q (.ref h'.length) (h' ++ [Cell.lst [.str "made", .ref h.length]]) := fun {pe h'} O A e l =>
    q h.length pe h'.length _ (O.trans (Old.app _ _)) (A.old (Old.app _ _)) (app_at e _) (Nat.le_refl _) l (new_at _ _)
  unfold m__law_opened
  rw [wp_fn]
  have w3 : way = 0 ∨ way = 1 ∨ way = 2 := by omega
  rcases w3 with rfl | rfl | rfl
  · cases torn with
    | true =>
      simp -implicitDefEqProofs [b__law_opened]
      exact drive_ok D I f fun pe h' O A e l => fin O A e l
    | false =>
      simp -implicitDefEqProofs [b__law_opened]
      exact drive_ok D I f fun pe h' O A e l => fin O A e l
  · simp -implicitDefEqProofs [b__law_opened]
    exact drive_ok D I f fun pe h' O A e l => fin O A e l
  · simp -implicitDefEqProofs [b__law_opened]
    exact drive_ok D I f fun pe h' O A e l => fin O A e l
section
variable (D : Drv h dr dk st pe n m torn xs ws)
include D
theorem told_write {i x : Nat} (e : h[t]? = some (.tup [.str "write", .int i, .int x])) (hi : i < n) (hx : x < m) (hl : ws.length < 9000000)
    (q : ∀ as h', Tups h as ws → h[pe]? = some (.lst (as.map .ref)) → h' = (h ++ [Cell.tup [nW i, nW x]]).set pe (.lst ((as ++ [h.length]).map .ref)) → Q (.ref h'.length) (h' ++ [Cell.lst [.str "done", .non]])) : (m__law_told [.ref dr, .ref t, .bl nd] h).wp Q X := by
  unfold m__law_told
  rw [wp_fn]
  cases nd with
  | true =>
    simp -implicitDefEqProofs [b__law_told, o_ix (seq_tup e)]
    refine ⟨hasM_ D.at_ rfl, ?_⟩
    refine write_ok D hi hx hl fun as T e2 => ?_
    have := q as _ T e2 rfl
    simpa using this
  | false =>
    simp -implicitDefEqProofs [b__law_told, o_ix (seq_tup e)]
    refine ⟨hasM_ D.at_ rfl, ?_⟩
    refine write_ok D hi hx hl fun as T e2 => ?_
    have := q as _ T e2 rfl
    simpa using this
theorem told_badB {v : W} (e : h[t]? = some (.tup [.str "write", w, v])) (k : known w h = true) (hb : btw w 0 ((n : Int) - 1) = false) (q : Q (.ref (h.length + 2)) (toldH h 3 "given" "block" w)) : (m__law_told [.ref dr, .ref t, .bl nd] h).wp Q X := by
  unfold m__law_told
  rw [wp_fn]
  cases nd with
  | true =>
    simp -implicitDefEqProofs [b__law_told, o_ix (seq_tup e)]
    refine ⟨hasM_ D.at_ rfl, ?_⟩
    refine write_badB D k hb ?_
    simp -implicitDefEqProofs
    rw [xf_told rfl]
    simp -implicitDefEqProofs
    simpa using q
  | false =>
    simp -implicitDefEqProofs [b__law_told, o_ix (seq_tup e)]
    refine ⟨hasM_ D.at_ rfl, ?_⟩
    refine write_badB D k hb ?_
    simp -implicitDefEqProofs
    rw [xf_told rfl]
    simp -implicitDefEqProofs
    simpa using q
theorem told_badC {i : Nat} (e : h[t]? = some (.tup [.str "write", .int i, w])) (hi : i < n) (k : known w h = true) (hb : btw w 0 ((m : Int) - 1) = false) (q : Q (.ref (h.length + 2)) (toldH h 4 "given" "content" w)) : (m__law_told [.ref dr, .ref t, .bl nd] h).wp Q X := by
  unfold m__law_told
  rw [wp_fn]
  cases nd with
  | true =>
    simp -implicitDefEqProofs [b__law_told, o_ix (seq_tup e)]
    refine ⟨hasM_ D.at_ rfl, ?_⟩
    refine write_badC D hi k hb ?_
    simp -implicitDefEqProofs
    rw [xf_told rfl]
    simp -implicitDefEqProofs
    simpa using q
  | false =>
    simp -implicitDefEqProofs [b__law_told, o_ix (seq_tup e)]
    refine ⟨hasM_ D.at_ rfl, ?_⟩
    refine write_badC D hi k hb ?_
    simp -implicitDefEqProofs
    rw [xf_told rfl]
    simp -implicitDefEqProofs
    simpa using q
theorem told_sync (e : h[t]? = some (.tup [.str "sync"])) (q : ∀ st' pe' h', Anew h h' dr dk st' pe' torn → RowAt h' st' (putA xs ws) → Q (.ref h'.length) (h' ++ [Cell.lst [.str "done", .int ws.length]])) : (m__law_told [.ref dr, .ref t, .bl nd] h).wp Q X := by
  have d1 : decide ((Str.ofString "sync") = Str.ofString "write") = false := by decide +kernel
  unfold m__law_told
  rw [wp_fn]
  simp -implicitDefEqProofs [b__law_told, o_ix (seq_tup e), d1]
  refine ⟨hasM_ D.at_ rfl, ?_⟩
  exact sync_ D fun st' pe' h' A R => q st' pe' h' A R
theorem told_cut {p : Nat} {ys : List Nat} (e : h[t]? = some (.tup [.str "cut", .ref p])) (hl : ws.length < 63) (F : Fil n m ys) (R : RowAt h p ys) (hy : (mayL torn m xs ws ys).all id = true) (q : ∀ pe' h', Anew h h' dr dk p pe' torn → RowAt h' p ys → Q (.ref h'.length) (h' ++ [Cell.lst [.str "done", .non]])) : (m__law_told [.ref dr, .ref t, .bl nd] h).wp Q X := by
  have d1 : decide ((Str.ofString "cut") = Str.ofString "write") = false := by decide +kernel
  have d2 : decide ((Str.ofString "cut") = Str.ofString "sync") = false := by decide +kernel
  unfold m__law_told
  rw [wp_fn]
  cases nd with
  | true =>
    simp -implicitDefEqProofs [b__law_told, o_ix (seq_tup e), d1, d2]
    refine ⟨hasM_ D.at_ rfl, ?_⟩
    exact cut_ok D hl F R hy fun pe' h' A R => q pe' h' A R
  | false =>
    simp -implicitDefEqProofs [b__law_told, o_ix (seq_tup e), d1, d2]
    refine ⟨hasM_ D.at_ rfl, ?_⟩
    exact cut_ok D hl F R hy fun pe' h' A R => q pe' h' A R
theorem told_cutbad (e : h[t]? = some (.tup [.str "cut", w])) (I : Items h w) (f : isCon h w n m = false) (q : ∀ h', Old h h' → Q (.ref (h'.length + 2)) (toldH h' 2 "given" "filling" w)) : (m__law_told [.ref dr, .ref t, .bl nd] h).wp Q X := by
  have d1 : decide ((Str.ofString "cut") = Str.ofString "write") = false := by decide +kernel
  have d2 : decide ((Str.ofString "cut") = Str.ofString "sync") = false := by decide +kernel
  unfold m__law_told
  rw [wp_fn]
  cases nd with
  | true =>
    simp -implicitDefEqProofs [b__law_told, o_ix (seq_tup e), d1, d2]
    refine ⟨hasM_ D.at_ rfl, ?_⟩
    refine cut_bad D I f fun h' O => ?_
    simp -implicitDefEqProofs
    rw [xf_told rfl]
    simp -implicitDefEqProofs
    simpa using q h' O
  | false =>
    simp -implicitDefEqProofs [b__law_told, o_ix (seq_tup e), d1, d2]
    refine ⟨hasM_ D.at_ rfl, ?_⟩
    refine cut_bad D I f fun h' O => ?_
    simp -implicitDefEqProofs
    rw [xf_told rfl]
    simp -implicitDefEqProofs
    simpa using q h' O
theorem told_cutleft {p : Nat} {ys : List Nat} (e : h[t]? = some (.tup [.str "cut", .ref p])) (hl : ws.length < 63) (F : Fil n m ys) (R : RowAt h p ys) (hy : (mayL torn m xs ws ys).all id = false) (q : ∀ h', Old h h' → Q (.ref (h'.length + 2)) (toldH h' 6 "filling" "left" (.ref p))) : (m__law_told [.ref dr, .ref t, .bl nd] h).wp Q X := by
  have d1 : decide ((Str.ofString "cut") = Str.ofString "write") = false := by decide +kernel
  have d2 : decide ((Str.ofString "cut") = Str.ofString "sync") = false := by decide +kernel
  unfold m__law_told
  rw [wp_fn]
  cases nd with
  | true =>
    simp -implicitDefEqProofs [b__law_told, o_ix (seq_tup e), d1, d2]
    refine ⟨hasM_ D.at_ rfl, ?_⟩
    refine cut_left D hl F R hy fun h' O => ?_
    simp -implicitDefEqProofs
    rw [xf_told rfl]
    simp -implicitDefEqProofs
    simpa using q h' O
  | false =>
    simp -implicitDefEqProofs [b__law_told, o_ix (seq_tup e), d1, d2]
    refine ⟨hasM_ D.at_ rfl, ?_⟩
    refine cut_left D hl F R hy fun h' O => ?_
    simp -implicitDefEqProofs
    rw [xf_told rfl]
    simp -implicitDefEqProofs
    simpa using q h' O
end
end
end K03
set_option Elab.async false
set_option autoImplicit false
set_option linter.all false
set_option maxRecDepth 100000
namespace K03
open Mini Lb
open PySem (Str PyData)
section
variable {h : MH} {b : Nat} {c : Int} {Q : W → MH → Prop} {X : XQ} {w : W}
/-! ### rows of writes compared -/
def wsD (ws : List (Nat × Nat)) : List PyData := ws.map fun w => .tuple [.int w.1, .int w.2]
theorem wsD_eqv : ∀ {ws vs : List (Nat × Nat)}, PyData.eqvAll (wsD ws) (wsD vs) = decide (ws = vs)
  | [], [] => rfl
  | [], _ :: _ => rfl
  | _ :: _, [] => rfl
  | w :: ws, v :: vs => by
    show (PyData.eqv (.tuple [.int w.1, .int w.2]) (.tuple [.int v.1, .int v.2]) && PyData.eqvAll (wsD ws) (wsD vs)) = _
    rw [wsD_eqv]
    obtain ⟨a, x⟩ := w
    obtain ⟨d, y⟩ := v
    simp only [PyData.eqvAll, PyData.eqv]
    by_cases c1 : a = d <;> by_cases c2 : x = y <;> by_cases c3 : ws = vs <;> simp [c1, c2, c3] <;> omega
theorem wsD_lay : ∀ {ws : List (Nat × Nat)}, PyData.canLayAll0 (wsD ws) = true
  | [] => rfl
  | w :: ws => by
    show (PyData.canLay0 (.tuple [.int w.1, .int w.2]) && PyData.canLayAll0 (wsD ws)) = true
    rw [wsD_lay]
    rfl
theorem wsD_dep : ∀ {ws : List (Nat × Nat)}, PyData.depthAll (wsD ws) ≤ 1
  | [] => Nat.zero_le _
  | w :: ws => by
    show max (PyData.depth (.tuple [.int w.1, .int w.2])) (PyData.depthAll (wsD ws)) ≤ 1
    have := wsD_dep (ws := ws)
    have : PyData.depth (.tuple [.int w.1, .int w.2]) = 1 := rfl
    omega
theorem tups_den : ∀ {as : List Nat} {ws : List (Nat × Nat)}, Tups h as ws → DenA h.length h.length h (as.map .ref) (wsD ws)
  | [], [], _ => .nil
  | [], _ :: _, q => q.elim
  | _ :: _, [], q => q.elim
  | a :: as, w :: ws, q => by
    have la := lt_of_at q.1
    exact .cons (.tup la (by omega) (tup_at q.1) (.cons (.int _) (.cons (.int _) .nil))) (tups_den q.2)
theorem wrs_den {p : Nat} {ws : List (Nat × Nat)} (q : Wrs h p ws) : Den h.length h.length h (.ref p) (.list (wsD ws)) := by
  obtain ⟨as, e, T⟩ := q
  have := lt_of_at e
  exact .lst this (by omega) (lst_at e) (tups_den T)
theorem wrs_lay {ws : List (Nat × Nat)} : (PyData.list (wsD ws)).canLay0 = true ∧ (PyData.list (wsD ws)).depth ≤ 11 := ⟨by simp only [PyData.canLay0, wsD_lay], by simp only [PyData.depth]; have := wsD_dep (ws := ws); omega⟩
theorem eq_wrs {p q : Nat} {ws vs : List (Nat × Nat)} (e1 : Wrs h p ws) (e2 : Wrs h q vs) : gEq (.ref p) (.ref q) h = .ok (.bl (decide (ws = vs))) h := by
  rw [eq_den (wrs_den e1) (wrs_den e2) wrs_lay.1 wrs_lay.1 wrs_lay.2 wrs_lay.2]
  simp only [PyData.eqv, wsD_eqv]
theorem ne_wrs {p q : Nat} {ws vs : List (Nat × Nat)} (e1 : Wrs h p ws) (e2 : Wrs h q vs) : gNe (.ref p) (.ref q) h = .ok (.bl (!decide (ws = vs))) h := by
  rw [ne_den (wrs_den e1) (wrs_den e2) wrs_lay.1 wrs_lay.1 wrs_lay.2 wrs_lay.2]
  simp only [PyData.eqv, wsD_eqv]
theorem int_den {p : Nat} {xs : List Int} (e : h[p]? = some (.lst (xs.map .int))) : Den h.length h.length h (.ref p) (.list (intsD xs)) := by
  have := lt_of_at e
  exact .lst this (by omega) (lst_at e) denA_ints
theorem eq_ints {p q : Nat} {xs ys : List Int} (e1 : h[p]? = some (.lst (xs.map .int))) (e2 : h[q]? = some (.lst (ys.map .int))) : gEq (.ref p) (.ref q) h = .ok (.bl (decide (xs = ys))) h := by
  rw [eq_den (int_den e1) (int_den e2) (by simp only [PyData.canLay0, lay_ints]) (by simp only [PyData.canLay0, lay_ints]) (by simp only [PyData.depth, depth_ints]; omega) (by simp only [PyData.depth, depth_ints]; omega)]
  simp only [PyData.eqv, eqv_ints]
theorem wrs_nil {p : Nat} (e : h[p]? = some (.lst [])) : Wrs h p [] := ⟨[], e, trivial⟩
/-! ### what the law knows of a drive -/
structure Kn (h : MH) (kn dr dk st st' pe pe' sz n m : Nat) (torn : Bool) (xs : List Nat) (ws : List (Nat × Nat)) : Prop where
  at_ : h[kn]? = some (.lst [.ref dr, .ref st, .ref pe, .ref sz, .bl torn])
  drv : Drv h dr dk st' pe' n m torn xs ws
  row : RowAt h st xs
  wrs : Wrs h pe ws
  siz : SizAt h sz n m
  n1 : kn ≠ pe
  n2 : kn ≠ pe'
  n3 : pe ≠ pe'
/-- only lists and drives are changed -/
def Mut (N : List Nat) (h : MH) : Prop := ∀ i ∈ N, (∃ xs, h[i]? = some (.lst xs)) ∨ ∃ fs, h[i]? = some (.ins 8 fs)
theorem Mut.tup {N : List Nat} {a : Nat} {ys : List W} (M : Mut N h) (e : tupAt h a = some ys) : a ∉ N := fun hn => by
  unfold tupAt at e
  rcases M a hn with ⟨xs, q⟩ | ⟨fs, q⟩ <;> (rw [q] at e; cases e)
theorem Mut.tup' {N : List Nat} {a : Nat} {ys : List W} (M : Mut N h) (e : h[a]? = some (.tup ys)) : a ∉ N := M.tup (tup_at e)
theorem Mut.disk {N : List Nat} {a n m : Nat} (M : Mut N h) (e : DiskAt h a 7 n m) : a ∉ N := fun hn => by
  unfold DiskAt at e
  rcases M a hn with ⟨xs, q⟩ | ⟨fs, q⟩ <;> (rw [q] at e; cases e)
theorem row_fr {N : List Nat} {h' : MH} {p : Nat} {xs : List Nat} (R : RowAt h p xs) (F : Fr N h h') (M : Mut N h) : RowAt h' p xs := by
  have R' : tupAt h p = some (rowW xs) := R
  unfold RowAt
  rw [← R']
  exact tupAt_eq (F.eq p R.lt (M.tup R'))
theorem Wrs.fr {N : List Nat} {h' : MH} {p : Nat} {ws : List (Nat × Nat)} (q : Wrs h p ws) (F : Fr N h h') (M : Mut N h) (hp : p ∉ N) : Wrs h' p ws := by
  obtain ⟨as, e, T⟩ := q
  exact ⟨as, F.at e hp, T.keep fun a _ c e => F.at e (M.tup' e)⟩
variable {kn dr dk st st' pe pe' sz n m : Nat} {torn : Bool} {xs : List Nat} {ws : List (Nat × Nat)}
theorem Drv.fr {N : List Nat} {h' : MH} (D : Drv h dr dk st pe n m torn xs ws) (F : Fr N h h') (M : Mut N h) (h1 : dr ∉ N) (h2 : pe ∉ N) : Drv h' dr dk st pe n m torn xs ws :=
  ⟨F.at D.at_ h1, F.at D.disk (M.disk D.disk), row_fr D.row F M, D.wrs.fr F M h2, D.fil, D.siz, D.okw⟩
theorem Kn.fr {N : List Nat} {h' : MH} (K : Kn h kn dr dk st st' pe pe' sz n m torn xs ws) (F : Fr N h h') (M : Mut N h) (h0 : kn ∉ N) (h1 : dr ∉ N) (h2 : pe ∉ N) (h3 : pe' ∉ N) : Kn h' kn dr dk st st' pe pe' sz n m torn xs ws :=
  ⟨F.at K.at_ h0, K.drv.fr F M h1 h3, row_fr K.row F M, K.wrs.fr F M h2, F.at K.siz (M.tup' K.siz), K.n1, K.n2, K.n3⟩
theorem Kn.old {h' : MH} (K : Kn h kn dr dk st st' pe pe' sz n m torn xs ws) (O : Old h h') : Kn h' kn dr dk st st' pe pe' sz n m torn xs ws :=
  K.fr (N := []) (Fr.of_old O) (fun _ hi => nomatch hi) (by simp) (by simp) (by simp) (by simp)
theorem box_mut (B : Box h b c) : Mut [b] h := fun i hi => by
  obtain ⟨z, f, m, k, e, _⟩ := B
  rw [List.mem_singleton.mp hi]
  exact .inl ⟨_, e⟩
theorem Kn.ch {h' : MH} (K : Kn h kn dr dk st st' pe pe' sz n m torn xs ws) (B : Box h b c) (C : Ch b h h') (hb : b ≠ kn ∧ b ≠ dr ∧ b ≠ pe ∧ b ≠ pe') : Kn h' kn dr dk st st' pe pe' sz n m torn xs ws := by
  obtain ⟨b1, b2, b3, b4⟩ := hb
  exact K.fr (Fr.of_ch C) (box_mut B) (by simp; omega) (by simp; omega) (by simp; omega) (by simp; omega)
theorem Kn.okx (K : Kn h kn dr dk st st' pe pe' sz n m torn xs ws) : ∀ w ∈ ws, w.1 < xs.length := K.drv.okx
theorem Kn.get (K : Kn h kn dr dk st st' pe pe' sz n m torn xs ws) : seqAt h kn = some [.ref dr, .ref st, .ref pe, .ref sz, .bl torn] := seq_lst K.at_
theorem o_addL {p q : Nat} {xs ys : List W} (e1 : h[p]? = some (.lst xs)) (e2 : h[q]? = some (.lst ys)) (hl : xs.length + ys.length ≤ 10000000) : gAddX (.ref p) (.ref q) h = .ok (.ref h.length) (h ++ [.lst (xs ++ ys)]) := by
  have t1 : tupOf h (.ref p) = none := by unfold tupOf; simp only [tupAt, e1]
  unfold gAddX
  rw [t1]
  unfold gAdd
  simp only [e1, e2]
  rw [if_pos hl]
theorem sortU_same {xs ys : List Int} (q : ∀ k, k ∈ xs ↔ k ∈ ys) : sortU xs = sortU ys := Br.asc_eq Br.sortU_asc Br.sortU_asc fun k => by rw [Br.sortU_mem, Br.sortU_mem]; exact q k
/-! ### the law's own menu -/
def ofBlk (h : MH) (i : Nat) : W → Option W := fun w => match w with
  | .ref a => match h[a]? with
    | some (.tup [.int x, y]) => if x = (i : Int) then some y else none
    | _ => none
  | _ => none
theorem ofBlk_at {i a x y : Nat} (e : h[a]? = some (.tup [nW x, nW y])) : ofBlk h i (.ref a) = if x = i then some (nW y) else none := by
  unfold ofBlk
  simp only [e]
  by_cases q : x = i
  · rw [if_pos (by omega), if_pos q]
  · rw [if_neg (by omega), if_neg q]
theorem tups_blk {i : Nat} : ∀ {as : List Nat} {ws : List (Nat × Nat)}, Tups h as ws → (as.map W.ref).filterMap (ofBlk h i) = (pend ws i).map .int
  | [], [], _ => rfl
  | [], _ :: _, q => q.elim
  | _ :: _, [], q => q.elim
  | a :: as, w :: ws, q => by
    rw [List.map_cons, List.filterMap_cons, ofBlk_at q.1, tups_blk q.2]
    unfold pend
    by_cases c : w.1 = i
    · rw [if_pos c]; simp [c]
    · rw [if_neg c]; simp [c]
theorem menu_ {i : Nat} (K : Kn h kn dr dk st st' pe pe' sz n m torn xs ws) (hi : i < n) (hl : ws.length < 63) (q : ∀ z h', Old h h' → h'[z]? = some (.lst ((menu torn m xs ws i).map .int)) → h.length ≤ z → Q (.ref z) h') : (m__law_menu [.ref kn, .int i] h).wp Q X := by
  obtain ⟨as, e, T⟩ := K.wrs
  have S := K.drv.siz
  have lx := K.drv.fil.len
  have ei : (rowW xs)[i]? = some (nW (xs.getD i 0)) := by
    have : i < xs.length := by omega
    simp [rowW, List.getElem?_eq_getElem this, List.getD_eq_getElem?_getD]
  unfold m__law_menu
  rw [wp_fn]
  simp -implicitDefEqProofs [b__law_menu, o_ix K.get]
  refine wp_lc_fm e rfl (by rw [List.length_map, T.len]; omega) (ofBlk h i) (fun x hx h1 O => ?_) fun k O ek => ?_
  · obtain ⟨a, ha, rfl⟩ := List.mem_map.mp hx
    obtain ⟨j, ej⟩ := List.getElem?_of_mem ha
    obtain ⟨y, ey, et⟩ := T.get ej
    simp -implicitDefEqProofs [o_untup (O.at et), ofBlk_at et]
    by_cases c : y.1 = i
    · simp [c, Old.refl]
    · have : ¬ ((y.1 : Int) = i) := by omega
      simp [c, this, Old.refl]
  rw [tups_blk T] at ek
  have K1 := K.old (O.trans (Old.app k [Cell.lst []]))
  have en : (k ++ [Cell.lst []])[k.length]? = some (.lst (([] : List Int).map .int)) := new_at k _
  rw [eq_ints (app_at ek _) en]
  try simp -implicitDefEqProofs
  by_cases c : pend ws i = []
  · rw [if_pos c]
    simp -implicitDefEqProofs [o_ix K1.get, o_ix K1.row.seq, item_nn i ei]
    refine q _ _ (O.trans (Old.app _ _)) ?_ (by have := O.1; omega)
    have := at_new (h := k) (t := [Cell.lst [], Cell.lst [nW (xs.getD i 0)]]) (i := 1) (c := .lst [nW (xs.getD i 0)]) rfl
    unfold menu
    cases torn with
    | true => rw [if_pos rfl, if_pos c]; simpa using this
    | false =>
      rw [if_neg (by simp)]
      unfold row0
      rw [c]
      simpa [sortU, insU] using this
  · rw [if_neg c]
    cases torn with
    | true =>
      simp -implicitDefEqProofs [o_ix K1.get, siz_ix1 K1.siz]
      refine ⟨by have := S.m1; omega, q _ _ (O.trans (Old.app _ _)) ?_ (by have := O.1; omega)⟩
      unfold menu
      rw [if_pos rfl, if_neg c, List.map_map]
      have := at_new (h := k) (t := [Cell.lst [], Cell.lst ((List.range m).map fun (i : Nat) => W.int i)]) (i := 1) (c := .lst ((List.range m).map fun (i : Nat) => W.int i)) rfl
      simpa [Function.comp_def] using this
    | false =>
      simp -implicitDefEqProofs [o_ix K1.get, o_ix K1.row.seq, item_nn i ei]
      have ek2 : (k ++ [Cell.lst [], Cell.lst [nW (xs[i]?.getD 0)]])[h.length]? = some (.lst ((pend ws i).map .int)) := app_at ek _
      have ex : (k ++ [Cell.lst [], Cell.lst [nW (xs[i]?.getD 0)]])[k.length + 1]? = some (.lst [nW (xs[i]?.getD 0)]) := at_new (i := 1) rfl
      rw [o_addL ek2 ex (by rw [List.length_map]; have := pend_len (ws := ws) (i := i); simp; omega)]
      have em : (pend ws i).map W.int ++ [nW (xs[i]?.getD 0)] = (pend ws i ++ [((xs[i]?.getD 0 : Nat) : Int)]).map W.int := by rw [List.map_append]; rfl
      rw [em]
      try simp -implicitDefEqProofs only [wp_ok]
      rw [o_sortU (ns := pend ws i ++ [((xs[i]?.getD 0 : Nat) : Int)]) (lst_at (new_at _ _)) (by rw [List.length_append]; have := pend_len (ws := ws) (i := i); simp; omega)]
      try simp -implicitDefEqProofs only [wp_ok]
      refine q _ _ (O.trans ((Old.app _ _).trans ((Old.app _ _).trans (Old.app _ _)))) ?_ (by have := O.1; simp; omega)
      rw [new_at]
      unfold menu
      rw [if_neg (by simp)]
      rw [sortU_same (ys := row0 xs ws i) fun k => ?_]
      unfold row0
      rw [(List.getD_eq_getElem?_getD)]
      simp [or_comm]
end
end K03
set_option Elab.async false
set_option autoImplicit false
set_option linter.all false
set_option maxRecDepth 100000
namespace K03
open Mini Lb
open PySem (Str PyData)
section
variable {h : MH} {b : Nat} {c : Int} {Q : W → MH → Prop} {X : XQ} {w : W}
variable {kn dr dk st st' pe pe' sz n m : Nat} {torn : Bool} {xs : List Nat} {ws : List (Nat × Nat)}
theorem o_revM {p : Nat} {xs : List W} (e : h[p]? = some (.lst xs)) : gRevM (.ref p) h = .ok .non (h.set p (.lst xs.reverse)) := by
  unfold gRevM
  simp only [lstM_at e]
theorem none_fm (xs : List W) : xs.filterMap (fun _ => (none : Option W)) = [] := by
  induction xs with
  | nil => rfl
  | cons x xs ih => rw [List.filterMap_cons]; exact ih
structure StI (h : MH) (b : Nat) (c : Int) (kn dr st pe first : Nat) (r : Env) (k : MH) : Prop where
  ex : ∃ u6 u7 u8 u9 : Option W, r = [some (.ref b), some (.ref kn), some (.ref dr), some (.ref st), some (.ref pe), some (.int first), u6, u7, u8, u9]
  box : Box k b c
  ch : Ch b h k
theorem ch_set {k : MH} {p : Nat} {x : Cell} (C : Ch b h k) (hp : h.length ≤ p) : Ch b h (k.set p x) := ⟨by rw [List.length_set]; exact C.1, fun i hi hn => by rw [List.getElem?_set_ne (by omega)]; exact C.2 i hi hn⟩
theorem kt_row {p : Nat} {ys : List Nat} (R : RowAt h p ys) : gIsi .tTuple (.ref p) h = .ok (.bl true) h := by
  have R' : tupAt h p = some (rowW ys) := R
  unfold tupAt at R'
  unfold gIsi known kindOf isTy
  cases e1 : h[p]? with
  | none => rw [e1] at R'; cases R'
  | some cl => rw [e1] at R'; cases cl <;> first | (simp only [e1]; rfl) | (cases R'; done)
theorem stands_ (K : Kn h kn dr dk st st' pe pe' sz n m torn xs ws) (hl : ws.length < 1000) (B : Box h b c) (hc : c < 900000) (hb : b ≠ kn ∧ b ≠ dr ∧ b ≠ pe ∧ b ≠ pe') (q : ∀ h', Box h' b (c + 1) → Ch b h h' → Q (.bl true) h') : (m__law_stands [.ref b, .ref kn] h).wp Q X := by
  have S := K.drv.siz
  unfold m__law_stands
  rw [wp_fn]
  unfold b__law_stands
  rw [sSeq_assoc]
  refine ws_cut (fun r k => ∃ first, StI h b (c + 1) kn dr st pe first r k) ?_ ?_
  · simp -implicitDefEqProofs [o_ix K.get, setAll]
    refine tk B (by decide) (by decide) (by omega) fun first h1 d1 B1 C1 l1 => ?_
    try simp -implicitDefEqProofs
    exact ⟨first, ⟨_, _, _, _, rfl⟩, B1, C1⟩
  rintro r k ⟨first, I⟩
  have kk : ∀ {k : MH}, Ch b h k → Kn k kn dr dk st st' pe pe' sz n m torn xs ws := fun C => K.ch B C hb
  refine ws_cut (StI h b (c + 1) kn dr st pe first) ?_ ?_
  · rw [ws_for, o_rng1]
    simp -implicitDefEqProofs only [eC, wp_ok]
    refine ⟨by decide, ?_⟩
    refine ws_rng (n := 4) (fun i r k => StI h b (c + 1) kn dr st pe first r k) I ?_ (fun r k I => ⟨rfl, I⟩)
    rintro i r k hi ⟨⟨u6, u7, u8, u9, rfl⟩, B1, C1⟩
    have Kk := kk C1
    have lk := C1.1
    have m3 : (first + i) % 3 = 0 ∨ (first + i) % 3 = 1 ∨ (first + i) % 3 = 2 := by omega
    rcases m3 with e | e | e
    · have e' : ((first : Int) + i) % 3 = 0 := by omega
      simp -implicitDefEqProofs [e']
      refine ⟨hasM_ Kk.drv.at_ rfl, ?_⟩
      refine pending_ Kk.drv.at_ Kk.drv.wrs fun as T => ?_
      have eL : (k ++ [Cell.lst (as.map .ref)])[k.length]? = some (.lst (as.map .ref)) := new_at _ _
      have WL : Wrs (k ++ [Cell.lst (as.map .ref)]) k.length ws := ⟨as, eL, T.keep fun a _ cc ee => app_at ee _⟩
      simp -implicitDefEqProofs [k_lst .tList eL, ne_wrs WL (Kk.wrs.old (Old.app _ _))]
      refine wp_lc_fm eL rfl (by rw [List.length_map, T.len]; omega) (fun _ => none) (fun x hx k1 O1 => ?_) fun k1 O1 e1 => ?_
      · obtain ⟨a, ha, rfl⟩ := List.mem_map.mp hx
        obtain ⟨j, ej⟩ := List.getElem?_of_mem ha
        obtain ⟨y, ey, et⟩ := T.get ej
        simp -implicitDefEqProofs [k_tup .tTuple (O1.at (app_at et _)), Old.refl]
      rw [none_fm] at e1
      have e2 : (k1 ++ [Cell.lst []])[(k ++ [Cell.lst (as.map .ref)]).length]? = some (.lst []) := app_at e1 _
      have z := ne_nils (lst_at e2) (lst_at (new_at k1 (Cell.lst [])))
      simp -implicitDefEqProofs at z
      simp -implicitDefEqProofs [z]
      have eL2 : ∀ t : List Cell, ((k1 ++ [Cell.lst []]) ++ t)[k.length]? = some (.lst (as.map .ref)) := fun t => app_at (app_at (O1.at eL) _) t
      have eL3 := eL2 []
      have eL4 := eL2 [Cell.tup [.int 0, .int 0]]
      rw [List.append_nil] at eL3
      have eL5 : (k1 ++ [Cell.lst [], Cell.tup [.int 0, .int 0]])[k.length]? = some (.lst (as.map .ref)) := by simpa using eL4
      simp -implicitDefEqProofs [eApp, isLst_at eL3]
      unfold app
      simp only [eL5]
      rw [if_pos (by rw [List.length_map, T.len]; omega)]
      have e6 : ∀ x : List W, ((k1 ++ [Cell.lst [], Cell.tup [.int 0, .int 0]]).set k.length (.lst x))[k.length]? = some (.lst x) := fun x => set_at eL5
      simp -implicitDefEqProofs [isLst_at (e6 _), o_revM (e6 _)]
      have lb := B1.lt
      have O2 : Old k (k1 ++ [Cell.lst [], Cell.tup [.int 0, .int 0]]) := ((Old.app _ _).trans O1).trans (Old.app _ _)
      exact ⟨⟨_, _, _, _, rfl⟩, by first | exact ((B1.old O2).set _ (by omega)) | exact ((B1.old O2).set _ (by omega)).set _ (by omega), by first | exact ch_set (C1.trans (O2.ch b)) lk | exact ch_set (ch_set (C1.trans (O2.ch b)) lk) lk⟩
    · have e' : ((first : Int) + i) % 3 = 1 := by omega
      simp -implicitDefEqProofs [e']
      refine ⟨hasM_ Kk.drv.at_ rfl, ?_⟩
      refine settled_ Kk.drv.at_ ?_
      simp -implicitDefEqProofs [kt_row Kk.drv.row, ne_rows Kk.drv.row Kk.row]
      exact ⟨⟨_, _, _, _, rfl⟩, B1, C1⟩
    · have e' : ((first : Int) + i) % 3 = 2 := by omega
      simp -implicitDefEqProofs [e']
      refine ⟨hasM_ Kk.drv.at_ rfl, ?_⟩
      refine filling_ Kk.drv fun z k1 O1 R1 lz => ?_
      simp -implicitDefEqProofs [kt_row R1]
      refine lawput_spec (Kk.row.old O1) (Kk.wrs.old O1) K.okx fun z2 k2 O2 R2 lz2 => ?_
      simp -implicitDefEqProofs [ne_rows (R1.old O2) R2]
      exact ⟨⟨_, _, _, _, rfl⟩, B1.old (O1.trans O2), C1.trans ((O1.trans O2).ch b)⟩
  · rintro r k ⟨⟨u6, u7, u8, u9, rfl⟩, B1, C1⟩
    have Kk := kk C1
    simp -implicitDefEqProofs
    refine ⟨hasM_ Kk.drv.at_ rfl, ?_⟩
    refine pending_ Kk.drv.at_ Kk.drv.wrs fun as T => ?_
    have eL : (k ++ [Cell.lst (as.map .ref)])[k.length]? = some (.lst (as.map .ref)) := new_at _ _
    have WL : Wrs (k ++ [Cell.lst (as.map .ref)]) k.length ws := ⟨as, eL, T.keep fun a _ cc ee => app_at ee _⟩
    have K2 := Kk.old (Old.app k [Cell.lst (as.map .ref)])
    rw [eq_wrs WL K2.wrs]
    simp -implicitDefEqProofs [K2.drv.at_.trn, o_ix K2.get]
    exact q _ (B1.old (Old.app _ _)) (C1.app _)
end
end K03
set_option Elab.async false
set_option autoImplicit false
set_option linter.all false
set_option maxRecDepth 100000
namespace K03
open Mini Lb
open PySem (Str PyData)
section
variable {h : MH} {b : Nat} {c : Int} {Q : W → MH → Prop} {X : XQ} {d n m : Nat} {w : W}
theorem odd_spec {way at_ p more : Nat} {xs : List Nat} (S : Sizes n m) (hw : way < 18) (ha : at_ < n) (hm : more ≤ 1000) (F : Fil n m xs) (R : RowAt h p xs) (hb : p ≠ b) (lb : b < h.length)
    (q : ∀ w h', Old h h' → Items h' w → isCon h' w n m = false → Odd h.length b h' w → Q w h') : (m__law_odd_filling [.int way, .int at_, .ref p, .int m, .int more] h).wp Q X := by
  have n1 := S.n1
  have m1 := S.m1
  have m0 := S.m0
  have fl := F.len
  have rl : (rowW xs).length = n := by rw [List.length_map]; exact fl
  have pl := R.lt
  unfold m__law_odd_filling
  rw [wp_fn]
  unfold b__law_odd_filling
  by_cases c9 : way < 8
  · rw [ws_seq]
    have c9' : (way : Int) < 8 := by omega
    simp -implicitDefEqProofs [c9', ws_seq]
    rw [o_ix R.seq, item_nn (w := nW xs[at_]) at_ (by simp [rowW, fl, ha])]
    refine item_mem (by omega) (by simp; omega) fun w hw => ?_
    have oc : OddC (h ++ [Cell.tup [nW xs[at_]], Cell.lst [.int m, .int (-1), .int (m + more), .bl true, .bl false, .non, .str "0", .ref h.length]]) b m w := by
      have ft : xs[at_] < m := F.lt _ (List.getElem_mem _)
      simp only [List.mem_cons, List.not_mem_nil, or_false] at hw
      have nb : ∀ i : Int, (i < 0 ∨ (m : Int) - 1 < i) → btw (.int i) 0 (m - 1) = false := fun i hi => by
        simp only [btw, Bool.and_eq_false_iff, decide_eq_false_iff_not]
        omega
      rcases hw with rfl | rfl | rfl | rfl | rfl | rfl | rfl | rfl
      · exact ⟨rfl, nb _ (by omega), _, 0, Nat.zero_le _, .int _, nic_small (by omega) (by omega)⟩
      · exact ⟨rfl, nb _ (by omega), _, 0, Nat.zero_le _, .int _, nic_small (by omega) (by omega)⟩
      · exact ⟨rfl, nb _ (by omega), _, 0, Nat.zero_le _, .int _, nic_small (by omega) (by omega)⟩
      · exact ⟨rfl, rfl, _, 0, Nat.zero_le _, .bl _, (nic_bool _).mono (by omega) (by omega)⟩
      · exact ⟨rfl, rfl, _, 0, Nat.zero_le _, .bl _, (nic_bool _).mono (by omega) (by omega)⟩
      · exact ⟨rfl, rfl, _, 0, Nat.zero_le _, .non, nic_non.mono (by omega) (by omega)⟩
      · exact ⟨rfl, rfl, _, 0, Nat.zero_le _, .str _, ⟨by decide +kernel, by decide, by decide +kernel, by decide +kernel⟩⟩
      · have e0 := tup_at (at_new (h := h) (i := 0) (t := [Cell.tup [nW xs[at_]], Cell.lst [.int m, .int (-1), .int (m + more), .bl true, .bl false, .non, .str "0", .ref h.length]]) rfl)
        refine ⟨tup_known e0, rfl, .tuple [.int (xs[at_] : Int)], h.length + 1, by rw [List.length_append]; simp, .tup (by omega) (by omega) e0 (.cons (.int _) .nil), ?_⟩
        exact (nic_tuple (k := 6) (s := 8000) fun d hd => by rw [List.mem_singleton.mp hd]; exact (nic_int (by rw [Int.natAbs_natCast]; exact Nat.lt_of_lt_of_le (by omega : xs[at_] < 2 ^ 10) (Nat.pow_le_pow_right (by decide) (by decide)))).mono (by omega) (by omega)).mono (by omega) (by simp)
    have O1 : Old h (h ++ [Cell.tup [nW xs[at_]], Cell.lst [.int m, .int (-1), .int (m + more), .bl true, .bl false, .non, .str "0", .ref h.length]]) := Old.app _ _
    revert oc O1
    generalize (h ++ [Cell.tup [nW xs[at_]], Cell.lst [.int m, .int (-1), .int (m + more), .bl true, .bl false, .non, .str "0", .ref h.length]]) = h1
    intro oc O1
    have s1 : ∀ H, RowAt H p xs → slice (.ref p) none (some (at_ : Int)) H = .ok (.ref H.length) (H ++ [.tup (rowW (xs.take at_))]) := fun H RH => by
      rw [slice_tup RH (by rw [rl]; unfold sIx; simp only []; rw [if_neg (by omega)]; omega), cut_take (by omega), row_take]
    have s2 : ∀ H, RowAt H p xs → slice (.ref p) (some ((at_ : Int) + 1)) none H = .ok (.ref H.length) (H ++ [.tup (rowW (xs.drop (at_ + 1)))]) := fun H RH => by
      rw [show ((at_ : Int) + 1) = ((at_ + 1 : Nat) : Int) by omega]
      rw [slice_tup RH (by rw [rl]; unfold sIx; simp only []; rw [if_neg (by omega)]; omega), cut_drop (by omega), row_drop]
    simp -implicitDefEqProofs [eSl, s1 h1 (R.old O1)]
    rw [show List.take at_ (List.map nW xs) = rowW (xs.take at_) from row_take]
    refine cat_spec (xs := rowW (xs.take at_)) (ys := [w]) (tup_at (at_new (i := 0) rfl)) (tup_at (at_new (i := 1) rfl)) (by simp; omega) fun p3 h3 O3 e3 hp3 => ?_
    have O13 : Old h1 h3 := (Old.app h1 _).trans O3
    simp -implicitDefEqProofs [s2 h3 (R.old (O1.trans O13))]
    rw [show List.drop (at_ + 1) (List.map nW xs) = rowW (xs.drop (at_ + 1)) from row_drop]
    refine cat_spec (tupAt_old e3 (Old.app _ _)) (tup_at (new_at h3 _)) (by simp; omega) fun p5 h5 O5 e5 hp5 => ?_
    have O15 : Old h1 h5 := O13.trans ((Old.app h3 [.tup (rowW (xs.drop (at_ + 1)))]).trans O5)
    have oc5 := oc.old O15
    have l1 := O1.1
    have l3 := O13.1
    have l35 := O5.1
    simp at hp3 hp5 l35
    have wl : (rowW (xs.take at_) ++ [w] ++ rowW (xs.drop (at_ + 1))).length = n := by simp; omega
    have p5lt := tupAt_lt e5
    refine q _ h5 (O1.trans O15) (items_tup e5 (by omega) fun x hx => ?_) (con_tup e5 (.inr ⟨w, by simp, oc5.no⟩)) ?_
    · rcases (List.mem_append.mp hx : _) with hx | hx
      · rcases (List.mem_append.mp hx : _) with hx | hx
        · exact known_row x hx
        · rw [List.mem_singleton.mp hx]; exact oc5.kn
      · exact known_row x hx
    · obtain ⟨dw, k, hk, qd, N⟩ := oc5.dn
      refine odd_tup (k := h5.length) (ds := rowD (xs.take at_) ++ [dw] ++ rowD (xs.drop (at_ + 1))) e5 p5lt (Nat.le_refl _) (by omega) (((denA_row.append (.cons (qd.up hk) .nil))).append denA_row) (fun d hd => ?_) (by omega)
      rcases List.mem_append.mp hd with hd | hd
      · rcases List.mem_append.mp hd with hd | hd
        · exact nic_row (m := m) (by omega) (fun x hx => F.lt x (List.mem_of_mem_take hx)) d hd
        · rw [List.mem_singleton.mp hd]; exact N
      · exact nic_row (m := m) (by omega) (fun x hx => F.lt x (List.mem_of_mem_drop hx)) d hd
  · rw [ws_seq]
    have c9' : ¬ (way : Int) < 8 := by omega
    simp -implicitDefEqProofs [c9', o_list R.seq]
    have s3 : ∀ H, RowAt H p xs → slice (.ref p) none (some (-1)) H = .ok (.ref H.length) (H ++ [.tup (rowW (xs.take (n - 1)))]) := fun H RH => by
      have e : sIx (rowW xs).length (rowW xs).length (some (-1)) = n - 1 := by
        rw [rl]
        unfold sIx
        simp only []
        rw [if_pos (by omega)]
        omega
      rw [slice_tup RH (by rw [e, rl]; have := S.n0; omega)]
      unfold cut
      rw [e]
      show Mini.R.ok _ (H ++ [Cell.tup (((rowW xs).drop 0).take (n - 1 - 0))]) = _
      rw [List.drop_zero, Nat.sub_zero, row_take]
    have Oa := Old.app h [Cell.lst (rowW xs), .tup [.int 0]]
    refine cat_spec (tupAt_old R Oa) (tup_at (at_new (i := 1) rfl)) (by simp; omega) fun p1 h1 O1 e1 hp1 => ?_
    have O01 := Oa.trans O1
    have lst0 : h1[h.length]? = some (.lst (rowW xs)) := O1.at (at_new (i := 0) rfl)
    simp -implicitDefEqProofs [eSl, s3 h1 (R.old O01)]
    rw [show List.take (n - 1) (List.map nW xs) = rowW (xs.take (n - 1)) from row_take]
    have O13 := Old.refl h1
    have l1 := O01.1
    have la := O1.1
    simp at hp1 la
    have nic1 : ∀ d ∈ rowD xs, Nic 7 9000 d := nic_row (m := m) (by omega) F.lt
    generalize hH : (h1 ++ [Cell.tup (rowW (xs.take (n - 1))), Cell.tup [], Cell.lst [], Cell.dic [], Cell.tup [W.ref p],
            Cell.lst [W.ref h.length, W.ref p1, W.ref h1.length, W.ref (h1.length + 1), W.non, W.ref (h1.length + 1 + 1), W.str "01", W.ref (h1.length + 3), W.ref (h1.length + 3 + 1), W.int 0]]) = H
    have O3H : Old h1 H := by rw [← hH]; exact Old.app _ _
    have OH := O01.trans O3H
    have RH := R.old OH
    have gm : H[h1.length]? = some (.tup (rowW (xs.take (n - 1)))) := by rw [← hH]; exact at_new (i := 0) rfl
    have g0 : H[h1.length + 1]? = some (.tup []) := by rw [← hH]; exact at_new (i := 1) rfl
    have g1 : H[h1.length + 2]? = some (.lst []) := by rw [← hH]; exact at_new (i := 2) rfl
    have g2 : H[h1.length + 3]? = some (.dic []) := by rw [← hH]; exact at_new (i := 3) rfl
    have g3 : H[h1.length + 4]? = some (.tup [.ref p]) := by rw [← hH]; exact at_new (i := 4) rfl
    have g5 : H[h1.length + 3 + 1 + 1]? = some (.lst [W.ref h.length, W.ref p1, W.ref h1.length, W.ref (h1.length + 1), W.non, W.ref (h1.length + 1 + 1), W.str "01", W.ref (h1.length + 3), W.ref (h1.length + 3 + 1), W.int 0]) := by rw [← hH]; exact at_new (i := 5) rfl
    have gl := lt_of_at g5
    rw [o_ix (seq_lst g5)]
    have dp : Den (p + 1) b H (.ref p) (.tuple (rowD xs)) := .tup (by omega) hb RH denA_row
    have np : Nic 7 90000 (.tuple (rowD xs)) := by
      have rd : (rowD xs).length = n := by unfold rowD; rw [List.length_map]; exact fl
      refine (nic_tuple (k := 6) (s := 3000) fun d hd => ?_).mono (by omega) (by rw [rd]; have : n * 3002 ≤ 24 * 3002 := Nat.mul_le_mul_right _ n1; omega)
      obtain ⟨x, hx, rfl⟩ := List.mem_map.mp hd
      have := F.lt x hx
      exact (nic_int (by rw [Int.natAbs_natCast]; exact Nat.lt_of_lt_of_le (by omega : x < 2 ^ 10) (Nat.pow_le_pow_right (by decide) (by decide)))).mono (by omega) (by omega)
    refine item_mem (by omega) (by simp; omega) fun w hw => ?_
    simp only [List.mem_cons, List.not_mem_nil, or_false] at hw
    rcases hw with rfl | rfl | rfl | rfl | rfl | rfl | rfl | rfl | rfl | rfl
    · have e := O3H.at lst0
      obtain ⟨k1, k2⟩ := lst_known e
      exact q _ H OH (items_non k1 k2) (con_non k2) (.lst (Nat.le_refl _) (by omega) e denA_row (fun d hd => (nic1 d hd).mono (by omega) (by omega)) (by omega))
    · have e := tupAt_old e1 O3H
      have l : (rowW xs ++ [W.int 0]).length = n + 1 := by rw [List.length_append, rl]; rfl
      refine q _ H OH (items_tup e (by omega) fun x hx => ?_) (con_tup e (.inl (by omega))) (odd_tup (k := H.length) (ds := rowD xs ++ [.int 0]) e (tupAt_lt e) (Nat.le_refl _) (by omega) (denA_row.append (.cons (.int _) .nil)) (fun d hd => ?_) (by omega))
      · rcases (List.mem_append.mp hx : _) with hx | hx
        · exact known_row x hx
        · rw [List.mem_singleton.mp hx]; rfl
      · rcases List.mem_append.mp hd with hd | hd
        · exact nic1 d hd
        · rw [List.mem_singleton.mp hd]; exact nic_small (by decide) (by decide)
    · have e := tup_at gm
      have l : (rowW (xs.take (n - 1))).length = n - 1 := by rw [List.length_map, List.length_take]; omega
      exact q _ H OH (items_tup e (by omega) known_row) (con_tup e (.inl (by have := S.n0; omega))) (odd_tup (k := H.length) (ds := rowD (xs.take (n - 1))) e (tupAt_lt e) (Nat.le_refl _) (by omega) denA_row (nic_row (m := m) (by omega) fun x hx => F.lt x (List.mem_of_mem_take hx)) (by omega))
    · have e := tup_at g0
      exact q _ H OH (items_tup e (by simp) fun x hx => nomatch hx) (con_tup e (.inl (by have := S.n0; simp; omega))) (odd_tup (k := H.length) (ds := []) e (tupAt_lt e) (Nat.le_refl _) (by omega) .nil (fun d hd => nomatch hd) (by simp))
    · exact q _ H OH (items_non rfl rfl) (con_non rfl) (.dat (k := 0) (Nat.zero_le _) .non (nic_non.mono (by omega) (by omega)) fun _ z => nomatch z)
    · obtain ⟨k1, k2⟩ := lst_known g1
      exact q _ H OH (items_non k1 k2) (con_non k2) (.lst (by omega) (by omega) g1 .nil (fun d hd => nomatch hd) (by simp))
    · exact q _ H OH (items_non rfl rfl) (con_non rfl) (.dat (k := 0) (Nat.zero_le _) (.str _) ⟨by decide +kernel, by decide, by decide +kernel, by decide +kernel⟩ fun _ z => nomatch z)
    · obtain ⟨k1, k2⟩ := dic_known g2
      exact q _ H OH (items_non k1 k2) (con_non k2) (.dic (by omega) (by omega) g2)
    · have e := tup_at g3
      exact q _ H OH (items_tup e (by simp) fun x hx => by rw [List.mem_singleton.mp hx]; exact RH.known) (con_tup e (.inr ⟨_, List.mem_singleton.mpr rfl, rfl⟩)) (.dat (k := h1.length + 5) (by omega) (.tup (by omega) (by omega) e (.cons (dp.up (by omega)) .nil)) ((nic_tuple (k := 7) (s := 90000) fun d hd => by rw [List.mem_singleton.mp hd]; exact np).mono (by omega) (by simp)) fun _ z => nomatch z)
    · exact q _ H OH (items_non rfl rfl) (con_non rfl) (.dat (k := 0) (Nat.zero_le _) (.int _) ((nic_small (by decide) (by decide)).mono (by omega) (by omega)) fun _ z => nomatch z)
end
end K03
set_option Elab.async false
set_option autoImplicit false
set_option linter.all false
set_option maxRecDepth 100000
namespace K03
open Mini Lb
open PySem (Str PyData)
section
variable {h : MH} {b : Nat} {c : Int} {Q : W → MH → Prop} {X : XQ} {w : W}
variable {kn dr dk st st' pe pe' sz n m : Nat} {torn : Bool} {xs : List Nat} {ws : List (Nat × Nat)}
/-- a block or a content that is none -/
structure OddV (lo b : Nat) (h : MH) (lim : Nat) (w : W) : Prop where
  kn : known w h = true
  no : btw w 0 ((lim : Int) - 1) = false
  odd : Odd lo b h w
theorem known_ch {h' : MH} (B : Box h b c) (C : Ch b h h') (k : known w h = true) (hb : w ≠ .ref b) : known w h' = true := by
  cases w with
  | ref p =>
    have hp : p ≠ b := fun z => hb (by rw [z])
    unfold known at k ⊢
    cases e : h[p]? with
    | none => simp only [e] at k; cases k
    | some cl =>
      simp only [e] at k
      simp only [C.at e hp]
      cases cl with
      | exo cc d =>
        cases d with
        | none => rfl
        | some j =>
          unfold xdAt at k ⊢
          simp only [] at k ⊢
          cases e2 : h[j]? with
          | none => rw [e2] at k; cases k
          | some c2 =>
            have hj : j ≠ b := by
              rintro rfl
              obtain ⟨z, f, m, kk, eb, _⟩ := B
              rw [eb] at e2
              cases e2
              rw [eb] at k
              cases k
            rw [C.at e2 hj]
            rw [e2] at k
            exact k
      | _ => first | exact k | (cases k; done)
  | _ => rfl
theorem oddV_ch {lo lim : Nat} {h' : MH} (O : OddV lo b h lim w) (B : Box h b c) (C : Ch b h h') (hb : w ≠ .ref b) : OddV lo b h' lim w := ⟨known_ch B C O.kn hb, O.no, O.odd.up C.kp⟩
theorem oddV_ne {lo lim : Nat} (O : OddV lo b h lim w) : w ≠ .ref b := by
  rintro rfl
  cases O.odd with
  | dat hk q N nl => cases q <;> (rename_i z1 z2 z3; first | exact z2 rfl | exact z1 rfl | skip) <;> omega
  | lst hp hb e q N hl => exact hb rfl
  | dic hp hb e => exact hb rfl
theorem oddV_of {lo lim p : Nat} {more : Int} (hl : lim ≤ 1000) (m0 : 1 ≤ more) (m1 : more ≤ 1000) (e0 : h[p]? = some (.tup [.int 0])) (e1 : h[p + 1]? = some (.lst [.int 0])) (e2 : h[p + 2]? = some (.dic [])) (hp : lo ≤ p) (hb : b < lo)
    (hw : w ∈ [W.int (-1), .int lim, .int (lim + more), .int (-1 - more), .non, .bl true, .bl false, .str "0", .ref p, .ref (p + 1), .ref (p + 2), .int (10 ^ 20)]) : OddV lo b h lim w := by
  have nb : ∀ i : Int, (i < 0 ∨ (lim : Int) - 1 < i) → btw (.int i) 0 ((lim : Int) - 1) = false := fun i hi => by
    simp only [btw, Bool.and_eq_false_iff, decide_eq_false_iff_not]
    omega
  have dint : ∀ i : Int, -1000000000000 ≤ i → i ≤ 1000000000000 → Odd lo b h (.int i) := fun i h0 h1 => .dat (k := 0) (Nat.zero_le _) (.int _) ((nic_small h0 h1).mono (by omega) (by omega)) fun _ z => nomatch z
  simp only [List.mem_cons, List.not_mem_nil, or_false] at hw
  have n0 : ∀ d ∈ ([.int 0] : List PyData), Nic 7 9000 d := fun d hd => by rw [List.mem_singleton.mp hd]; exact nic_small (by decide) (by decide)
  rcases hw with rfl | rfl | rfl | rfl | rfl | rfl | rfl | rfl | rfl | rfl | rfl | rfl
  · exact ⟨rfl, nb _ (by omega), dint _ (by omega) (by omega)⟩
  · exact ⟨rfl, nb _ (by omega), dint _ (by omega) (by omega)⟩
  · exact ⟨rfl, nb _ (by omega), dint _ (by omega) (by omega)⟩
  · exact ⟨rfl, nb _ (by omega), dint _ (by omega) (by omega)⟩
  · exact ⟨rfl, rfl, .dat (k := 0) (Nat.zero_le _) .non (nic_non.mono (by omega) (by omega)) fun _ z => nomatch z⟩
  · exact ⟨rfl, rfl, .dat (k := 0) (Nat.zero_le _) (.bl _) ((nic_bool _).mono (by omega) (by omega)) fun _ z => nomatch z⟩
  · exact ⟨rfl, rfl, .dat (k := 0) (Nat.zero_le _) (.bl _) ((nic_bool _).mono (by omega) (by omega)) fun _ z => nomatch z⟩
  · exact ⟨rfl, rfl, .dat (k := 0) (Nat.zero_le _) (.str _) ⟨by decide +kernel, by decide, by decide +kernel, by decide +kernel⟩ fun _ z => nomatch z⟩
  · exact ⟨tup_known (tup_at e0), rfl, odd_tup (k := h.length) (ds := [.int 0]) (tup_at e0) (lt_of_at e0) (Nat.le_refl _) (by omega) (.cons (.int _) .nil) n0 (by simp)⟩
  · exact ⟨(lst_known e1).1, rfl, .lst (by omega) (by omega) e1 (.cons (.int _) .nil) (fun d hd => (n0 d hd).mono (by omega) (by omega)) (by simp)⟩
  · exact ⟨(dic_known e2).1, rfl, .dic (by omega) (by omega) e2⟩
  · exact ⟨rfl, nb _ (.inr (by have : (10 : Int) ^ 20 = 100000000000000000000 := by decide +kernel
                               omega)), .dat (k := 0) (Nat.zero_le _) (.int _) ((nic_int (Nat.lt_of_lt_of_le (by decide +kernel : ((10 : Int) ^ 20).natAbs < 2 ^ 70) (Nat.pow_le_pow_right (by decide) (by decide)))).mono (by omega) (by omega)) fun _ z => nomatch z⟩
/-! ### writes that are let -/
theorem row_get_ {i : Nat} {ys : List Nat} (hi : i < ys.length) : (rowW ys)[i]? = some (nW ys[i]) := by simp [rowW, List.getElem?_eq_getElem hi]
structure WrI (h : MH) (b : Nat) (c : Int) (kn n m : Nat) (r : Env) (k : MH) : Prop where
  ex : ∃ (i : Nat) (u5 : Option W), i < n ∧ r = [some (.ref b), some (.ref kn), some (.int n), some (.int m), some (.int i), u5]
  box : Box k b c
  ch : Ch b h k
theorem write_ (K : Kn h kn dr dk st st' pe pe' sz n m torn xs ws) (hl : ws.length < 1000) (B : Box h b c) (hc : c < 900000) (hb : b ≠ kn ∧ b ≠ dr ∧ b ≠ pe ∧ b ≠ pe')
    (q : ∀ z h' i x, Box h' b (c + 5) → Ch b h h' → h'[z]? = some (.tup [.str "write", .int (i : Nat), .int (x : Nat)]) → h.length ≤ z → i < n → x < m → Q (.ref z) h') : (m__law_write [.ref b, .ref kn] h).wp Q X := by
  have S := K.drv.siz
  have lx := K.drv.fil.len
  have fx := K.drv.fil.lt
  have kk : ∀ {k : MH}, Ch b h k → Kn k kn dr dk st st' pe pe' sz n m torn xs ws := fun C => K.ch B C hb
  unfold m__law_write
  rw [wp_fn]
  unfold b__law_write
  rw [sSeq_assoc, sSeq_assoc]
  refine ws_cut (WrI h b (c + 3) kn n m) ?_ ?_
  · simp -implicitDefEqProofs [o_ix K.get, o_unseq (seq_tup K.siz), ws_seq]
    refine tk B (by have := S.n0; omega) (by have := S.n1; omega) (by omega) fun i h1 d1 B1 C1 l1 => ?_
    have K1 := kk C1
    have e0 : Wrs (h1 ++ [Cell.lst []]) h1.length [] := wrs_nil (new_at _ _)
    simp -implicitDefEqProofs [o_ix K1.get, ne_wrs (K1.old (Old.app h1 [Cell.lst []])).wrs e0]
    split
    · exact ⟨⟨i, _, by omega, rfl⟩, (B1.app _).mono, C1.app _⟩
    · rename_i nn
      refine tk (B1.app _) (by decide) (by decide) (by omega) fun y h2 d2 B2 C2 l2 => ?_
      have C12 := C1.trans (((Old.app h1 [Cell.lst []]).ch b).trans C2)
      have K2 := kk C12
      obtain ⟨as, e2, T2⟩ := K2.wrs
      try simp -implicitDefEqProofs
      split
      · have lw : 0 < ws.length := by
          cases ws with
          | nil => exact absurd rfl nn
          | cons _ _ => exact Nat.succ_pos _
        simp -implicitDefEqProofs [o_ix K2.get, o_len (seq_lst e2)]
        refine tk B2 (by rw [T2.len]; omega) (by rw [T2.len]; omega) (by omega) fun j h3 d3 B3 C3 l3 => ?_
        have C13 := C12.trans C3
        have K3 := kk C13
        obtain ⟨as3, e3, T3⟩ := K3.wrs
        have lj : j < as3.length := by rw [T3.len, ← T2.len]; omega
        have ea : as3[j]? = some as3[j] := List.getElem?_eq_getElem lj
        obtain ⟨v, ev, et⟩ := T3.get ea
        have em : (as3.map W.ref)[j]? = some (.ref as3[j]) := by rw [List.getElem?_map, ea]; rfl
        rw [o_ix (seq_lst e3), item_nn j em]
        try simp -implicitDefEqProofs
        rw [o_ix (seq_tup et), item0]
        exact ⟨⟨v.1, _, (K.drv.okw v (List.mem_of_getElem? ev)).1, rfl⟩, B3.mono, C13⟩
      · exact ⟨⟨i, _, by omega, rfl⟩, B2.mono, C12⟩
  rintro r k ⟨⟨i, u5, hi, rfl⟩, B1, C1⟩
  have K1 := kk C1
  simp -implicitDefEqProofs [ws_seq]
  refine tk B1 (by decide) (by decide) (by omega) fun way h2 d2 B2 C2 l2 => ?_
  have C12 := C1.trans C2
  have K2 := kk C12
  have le := C12.1
  try simp -implicitDefEqProofs
  split
  · simp -implicitDefEqProofs [o_ix K2.get, o_ix K2.row.seq, item_nn i (row_get_ (by omega : i < xs.length))]
    exact q _ _ i xs[i] ((B2.app _).mono) (C12.app _) (new_at _ _) le hi (fx _ (List.getElem_mem _))
  · split
    · simp -implicitDefEqProofs [o_ix K2.get]
      refine lawput_spec K2.row K2.wrs K.okx fun z h3 O3 R3 lz => ?_
      have lp : i < (putA xs ws).length := by rw [putA_len]; omega
      rw [o_ix R3.seq, item_nn i (row_get_ lp)]
      try simp -implicitDefEqProofs
      have F := putA_fil K.drv.fil fun w hw => (K.drv.okw w hw).2
      exact q _ _ i (putA xs ws)[i] (((B2.old O3).app _).mono) ((C12.trans (O3.ch b)).app _) (new_at _ _) (by have := O3.1; omega) hi (F.lt _ (List.getElem_mem _))
    · refine tk B2 (by have := S.m0; omega) (by have := S.m1; omega) (by omega) fun x h3 d3 B3 C3 l3 => ?_
      try simp -implicitDefEqProofs
      exact q _ _ i x ((B3.app _).mono) ((C12.trans C3).app _) (new_at _ _) (by have := C3.1; omega) hi (by omega)
end
end K03
set_option Elab.async false
set_option autoImplicit false
set_option linter.all false
set_option maxRecDepth 100000
namespace K03
open Mini Lb
open PySem (Str PyData)
section
variable {h : MH} {b : Nat} {c : Int} {Q : W → MH → Prop} {X : XQ} {w : W}
variable {kn dr dk st st' pe pe' sz n m : Nat} {torn : Bool} {xs : List Nat} {ws : List (Nat × Nat)}
structure RwA (h : MH) (b : Nat) (c : Int) (kn n m : Nat) (r : Env) (k : MH) : Prop where
  ex : ∃ (sp mo : Int) (f1 f2 : Nat) (u8 u9 u10 u11 : Option W), 1 ≤ mo ∧ mo ≤ 1000 ∧ f1 < 12 ∧ f2 < 12 ∧ r = [some (.ref b), some (.ref kn), some (.int n), some (.int m), some (.int sp), some (.int f1), some (.int f2), some (.int mo), u8, u9, u10, u11]
  box : Box k b c
  ch : Ch b h k
structure RwB (h : MH) (b : Nat) (c : Int) (kn n m : Nat) (r : Env) (k : MH) : Prop where
  ex : ∃ (sp mo : Int) (f1 f2 : Nat) (w8 : W) (u9 u10 u11 : Option W), 1 ≤ mo ∧ mo ≤ 1000 ∧ f2 < 12 ∧ OddV h.length b k n w8 ∧ r = [some (.ref b), some (.ref kn), some (.int n), some (.int m), some (.int sp), some (.int f1), some (.int f2), some (.int mo), some w8, u9, u10, u11]
  box : Box k b c
  ch : Ch b h k
structure RwC (h : MH) (b : Nat) (c : Int) (kn n m : Nat) (r : Env) (k : MH) : Prop where
  ex : ∃ (sp mo : Int) (f1 f2 : Nat) (w8 w9 : W) (u10 u11 : Option W), OddV h.length b k n w8 ∧ OddV h.length b k m w9 ∧ r = [some (.ref b), some (.ref kn), some (.int n), some (.int m), some (.int sp), some (.int f1), some (.int f2), some (.int mo), some w8, some w9, u10, u11]
  box : Box k b c
  ch : Ch b h k
def RwOut (h h' : MH) (b n m t : Nat) (s : Str) (w : W) : Prop :=
  (s = "content" ∧ ∃ i : Nat, i < n ∧ h'[t]? = some (.tup [.str "write", .int i, w]) ∧ OddV h.length b h' m w) ∨ (s = "block" ∧ ∃ v, h'[t]? = some (.tup [.str "write", w, v]) ∧ OddV h.length b h' n w)
theorem refwrite_ (K : Kn h kn dr dk st st' pe pe' sz n m torn xs ws) (B : Box h b c) (hc : c < 900000)
    (q : ∀ z t s w h', Box h' b (c + 8) → Ch b h h' → h'[z]? = some (.tup [.ref t, .str s, w]) → RwOut h h' b n m t s w → Q (.ref z) h') : (m__law_refused_write [.ref b, .ref kn] h).wp Q X := by
  have S := K.drv.siz
  have lb := B.lt
  unfold m__law_refused_write
  rw [wp_fn]
  unfold b__law_refused_write
  rw [sSeq_assoc]
  refine ws_cut (RwA h b (c + 4) kn n m) ?_ ?_
  · simp -implicitDefEqProofs [o_ix K.get, o_unseq (seq_tup K.siz), ws_seq]
    refine tk B (by decide) (by decide) (by omega) fun sp h1 d1 B1 C1 l1 => ?_
    try simp -implicitDefEqProofs
    refine tk B1 (by decide) (by decide) (by omega) fun f1 h2 d2 B2 C2 l2 => ?_
    try simp -implicitDefEqProofs
    refine tk B2 (by decide) (by decide) (by omega) fun f2 h3 d3 B3 C3 l3 => ?_
    try simp -implicitDefEqProofs
    refine tk B3 (by decide) (by decide) (by omega) fun mo h4 d4 B4 C4 l4 => ?_
    simp -implicitDefEqProofs [o_unseq (seq_tup (new_at h4 _))]
    exact ⟨⟨_, _, f1, f2, _, _, _, _, by omega, by omega, by omega, by omega, rfl⟩, (B4.app _).mono, (((C1.trans C2).trans C3).trans C4).app _⟩
  rintro r k ⟨⟨sp, mo, f1, f2, u8, u9, u10, u11, m0, m1, lf1, lf2, rfl⟩, B1, C1⟩
  have p20 : powOk 10 20 = true := by decide
  refine ws_cut (RwB h b (c + 4) kn n m) ?_ ?_
  · simp -implicitDefEqProofs [p20]
    refine item_mem (by omega) (by simp; omega) fun w hw => ?_
    have hle := C1.1
    refine ⟨⟨sp, mo, f1, f2, w, u9, u10, u11, m0, m1, lf2, ?_, rfl⟩, B1.app _, C1.app _⟩
    exact oddV_of (p := k.length) (more := mo) (by have := S.n1; omega) m0 m1 (at_new (i := 0) rfl) (at_new (i := 1) rfl) (at_new (i := 2) rfl) hle lb (by simpa using hw)
  rintro r k ⟨⟨sp, mo, f1, f2, w8, u9, u10, u11, m0, m1, lf2, O8, rfl⟩, B1, C1⟩
  refine ws_cut (RwC h b (c + 4) kn n m) ?_ ?_
  · simp -implicitDefEqProofs [p20]
    refine item_mem (by omega) (by simp; omega) fun w hw => ?_
    have hle := C1.1
    refine ⟨⟨sp, mo, f1, f2, w8, w, u10, u11, oddV_ch O8 B1 ((Ch.refl b k).app _) (oddV_ne O8), ?_, rfl⟩, B1.app _, C1.app _⟩
    exact oddV_of (p := k.length) (more := mo) (by have := S.m1; omega) m0 m1 (at_new (i := 0) rfl) (at_new (i := 1) rfl) (at_new (i := 2) rfl) hle lb (by simpa using hw)
  rintro r k ⟨⟨sp, mo, f1, f2, w8, w9, u10, u11, O8, O9, rfl⟩, B1, C1⟩
  simp -implicitDefEqProofs [ws_seq]
  refine tk B1 (by have := S.n0; omega) (by have := S.n1; omega) (by omega) fun i h2 d2 B2 C2 l2 => ?_
  try simp -implicitDefEqProofs
  refine tk B2 (by have := S.m0; omega) (by have := S.m1; omega) (by omega) fun x h3 d3 B3 C3 l3 => ?_
  have C13 := C2.trans C3
  have O8' := oddV_ch O8 B1 C13 (oddV_ne O8)
  have O9' := oddV_ch O9 B1 C13 (oddV_ne O9)
  try simp -implicitDefEqProofs [setAll]
  split
  · exact q _ _ "content" w9 _ ((B3.app _).mono) ((C1.trans C13).app _) (at_new (i := 1) rfl) (.inl ⟨rfl, i, by omega, at_new (i := 0) rfl, oddV_ch O9' B3 ((Ch.refl b _).app _) (oddV_ne O9')⟩)
  · split
    · exact q _ _ "block" w8 _ ((B3.app _).mono) ((C1.trans C13).app _) (at_new (i := 1) rfl) (.inr ⟨rfl, _, at_new (i := 0) rfl, oddV_ch O8' B3 ((Ch.refl b _).app _) (oddV_ne O8')⟩)
    · exact q _ _ "block" w8 _ ((B3.app _).mono) ((C1.trans C13).app _) (at_new (i := 1) rfl) (.inr ⟨rfl, _, at_new (i := 0) rfl, oddV_ch O8' B3 ((Ch.refl b _).app _) (oddV_ne O8')⟩)
end
end K03
set_option Elab.async false
set_option autoImplicit false
set_option linter.all false
set_option maxRecDepth 100000
namespace K03
open Mini Lb
open PySem (Str PyData)
section
variable {h : MH} {b : Nat} {c : Int} {Q : W → MH → Prop} {X : XQ} {w : W}
variable {kn dr dk st st' pe pe' sz n m : Nat} {torn : Bool} {xs : List Nat} {ws : List (Nat × Nat)}
theorem known_lt {p : Nat} (k : known (.ref p) h = true) : p < h.length := by
  unfold known at k
  cases e : h[p]? with
  | none => simp only [e] at k; cases k
  | some cl => exact lt_of_at e
theorem tupOf_old {h' : MH} (O : Old h h') (k : known w h = true) : tupOf h' w = tupOf h w := by
  cases w with
  | ref p => exact tupAt_eq (O.2 p (known_lt k))
  | _ => rfl
theorem items_old {h' : MH} (O : Old h h') (I : Items h w) : Items h' w := ⟨known_old O I.1, fun xs e => by
  rw [tupOf_old O I.1] at e
  obtain ⟨z1, z2⟩ := I.2 xs e
  exact ⟨z1, fun x hx => known_old O (z2 x hx)⟩⟩
theorem con_old {h' : MH} {n m : Int} (O : Old h h') (k : known w h = true) : isCon h' w n m = isCon h w n m := by unfold isCon; rw [tupOf_old O k]
theorem odd_low {lo lo' : Nat} (O : Odd lo b h w) (hl : lo' ≤ lo) : Odd lo' b h w := by
  cases O with
  | dat hk q N nl => exact .dat hk q N nl
  | lst hp hb e q N l => exact .lst (by omega) hb e q N l
  | dic hp hb e => exact .dic (by omega) hb e
theorem pend_lt {i : Nat} (hw : ∀ w ∈ ws, w.2 < m) : ∀ k ∈ pend ws i, ∃ x : Nat, k = (x : Int) ∧ x < m := fun k hk => by
  unfold pend at hk
  obtain ⟨w, h1, rfl⟩ := List.mem_map.mp hk
  exact ⟨w.2, rfl, hw w (List.mem_filter.mp h1).1⟩
theorem menu_mem {i : Nat} (hi : i < xs.length) (hx : ∀ x ∈ xs, x < m) (hw : ∀ w ∈ ws, w.2 < m) : ∀ k ∈ menu torn m xs ws i, ∃ x : Nat, k = (x : Int) ∧ x < m := fun k hk => by
  have h0 : xs.getD i 0 < m := by rw [List.getD_eq_getElem?_getD, List.getElem?_eq_getElem hi]; exact hx _ (List.getElem_mem _)
  unfold menu at hk
  by_cases t : torn = true
  · rw [if_pos t] at hk
    by_cases p : pend ws i = []
    · rw [if_pos p] at hk
      exact ⟨_, List.mem_singleton.mp hk, h0⟩
    · rw [if_neg p] at hk
      obtain ⟨x, hx', rfl⟩ := List.mem_map.mp hk
      exact ⟨x, rfl, List.mem_range.mp hx'⟩
  · rw [if_neg t, Br.sortU_mem] at hk
    rcases List.mem_cons.mp hk with z | z
    · exact ⟨_, z, h0⟩
    · exact pend_lt hw k z
theorem menu_ne {i : Nat} (m0 : 0 < m) : menu torn m xs ws i ≠ [] := by
  unfold menu
  by_cases t : torn = true
  · rw [if_pos t]
    by_cases p : pend ws i = []
    · rw [if_pos p]; exact List.cons_ne_nil _ _
    · rw [if_neg p]
      intro z
      have : (List.range m).length = 0 := by rw [List.map_eq_nil_iff.mp z]; rfl
      rw [List.length_range] at this
      omega
  · rw [if_neg t]
    intro z
    have : ((xs.getD i 0 : Nat) : Int) ∈ sortU (row0 xs ws i) := Br.sortU_mem.mpr List.mem_cons_self
    rw [z] at this
    cases this
def Lefts (torn : Bool) (m : Nat) (xs : List Nat) (ws : List (Nat × Nat)) (ys : List Nat) : Prop := ∀ (j y : Nat), ys[j]? = some y → y < m ∧ (y : Int) ∈ menu torn m xs ws j
theorem lefts_fil {ys : List Nat} (L : Lefts torn m xs ws ys) (hl : ys.length = n) : Fil n m ys := ⟨hl, fun x hx => by
  obtain ⟨j, e⟩ := List.getElem?_of_mem hx
  exact (L j x e).1⟩
theorem lefts_all {ys : List Nat} (L : Lefts torn m xs ws ys) : (mayL torn m xs ws ys).all id = true := by
  unfold mayL
  rw [List.all_map, List.all_eq_true]
  intro j hj
  have lj := List.mem_range.mp hj
  have := (L j ys[j] (List.getElem?_eq_getElem lj)).2
  simp [List.getD_eq_getElem?_getD, List.getElem?_eq_getElem lj, this]
theorem lefts_snoc {ys : List Nat} {y i : Nat} (L : Lefts torn m xs ws ys) (hi : ys.length = i) (hy : y < m) (hm : (y : Int) ∈ menu torn m xs ws i) : Lefts torn m xs ws (ys ++ [y]) := fun j z e => by
  by_cases cc : j < ys.length
  · rw [List.getElem?_append_left cc] at e
    exact L j z e
  · rw [List.getElem?_append_right (by omega)] at e
    have : j = ys.length := by
      have := (List.getElem?_eq_some_iff.mp e).1
      simp at this; omega
    subst this
    simp at e
    subst e
    rw [hi]
    exact ⟨hy, hm⟩
/-- a list of contents of a menu: its i-th -/
theorem menu_ix {z i : Nat} {k : MH} (e : k[z]? = some (.lst ((menu torn m xs ws i).map .int))) (hi : i < xs.length) (hx : ∀ x ∈ xs, x < m) (hw : ∀ w ∈ ws, w.2 < m) {j : Int} (j0 : 0 ≤ j) (j1 : j < (menu torn m xs ws i).length)
    (q : ∀ y : Nat, y < m → (y : Int) ∈ menu torn m xs ws i → Q (.int y) k) : (gIx (.ref z) (.int j) k).wp Q X := by
  rw [o_ix (seq_lst e)]
  refine item_mem j0 (by rw [List.length_map]; exact j1) fun w hw' => ?_
  obtain ⟨v, hv, rfl⟩ := List.mem_map.mp hw'
  obtain ⟨y, rfl, hy⟩ := menu_mem hi hx hw v hv
  exact q y hy hv
structure LfI (h : MH) (torn : Bool) (m : Nat) (xs : List Nat) (ws : List (Nat × Nat)) (i : Nat) (acc : List W) (k : MH) : Prop where
  old : Old h k
  ex : ∃ ys : List Nat, acc = rowW ys ∧ ys.length = i ∧ Lefts torn m xs ws ys
def CutOut (h h' : MH) (b n m : Nat) (torn : Bool) (xs : List Nat) (ws : List (Nat × Nat)) (t : Nat) (s : Str) (w : W) : Prop :=
  h'[t]? = some (.tup [.str "cut", w]) ∧ Odd h.length b h' w ∧ known w h' = true ∧
    ((s = "filling" ∧ Items h' w ∧ isCon h' w n m = false) ∨ (s = "left" ∧ ∃ p zs, w = .ref p ∧ Fil n m zs ∧ RowAt h' p zs ∧ (mayL torn m xs ws zs).all id = false))
structure RcA (h : MH) (b : Nat) (c : Int) (kn n m : Nat) (torn : Bool) (xs : List Nat) (ws : List (Nat × Nat)) (r : Env) (k : MH) : Prop where
  ex : ∃ (a way : Nat) (mo : Nat) (p : Nat) (ys : List Nat) (u8 u9 u10 u11 u12 u13 : Option W), a < n ∧ way < 18 ∧ mo ≤ 1000 ∧ ys.length = n ∧ Lefts torn m xs ws ys ∧ RowAt k p ys ∧ p ≠ b ∧ h.length ≤ p ∧
    r = [some (.ref b), some (.ref kn), some (.int n), some (.int m), some (.int a), some (.int way), some (.int mo), some (.ref p), u8, u9, u10, u11, u12, u13]
  box : Box k b c
  ch : Ch b h k
theorem refcutA (K : Kn h kn dr dk st st' pe pe' sz n m torn xs ws) (hl : ws.length < 63) (B : Box h b c) (hc : c < 900000) (hb : b ≠ kn ∧ b ≠ dr ∧ b ≠ pe ∧ b ≠ pe') {XX : XS} {s4 : S}
    (q2 : ∀ r k, RcA h b (c + 3) kn n m torn xs ws r k → (s4 r k).wp (retS Q) XX) :
    (sSeq (sAsg (eBin gIx (eVar 1) (eC (.int 3))) (gSeqT [(gSet 2), (gSet 3)]))
    (sSeq (sPar [4, 5, 6] (aCons (Mini.eCall m__law_take (aCons (eVar 0) (aCons (eVar 2) aNil))) (aCons (Mini.eCall m__law_take (aCons (eVar 0) (aCons (eC (.int 18)) aNil))) (aCons (eBin gAddX (eC (.int 1)) (Mini.eCall m__law_take (aCons (eVar 0) (aCons (eC (.int 1000)) aNil)))) aNil))))
    (sSeq (sSet 7 (eFn fTuple (aCons (eLc [8] (Mini.iRng1 (eVar 2)) (gSet 8) Mini.tYes (eBin gIx (Mini.eCall m__law_menu (aCons (eVar 1) (aCons (eVar 8) aNil))) (eC (.int 0)))) aNil))) s4)) (begin_ 14 [.ref b, .ref kn]) h).wp (retS Q) XX := by
  have S := K.drv.siz
  have lb := B.lt
  have lx := K.drv.fil.len
  have fx := K.drv.fil.lt
  have fw : ∀ w ∈ ws, w.2 < m := fun w hw => (K.drv.okw w hw).2
  rw [sSeq_assoc, sSeq_assoc]
  refine ws_cut (RcA h b (c + 3) kn n m torn xs ws) ?_ q2
  simp -implicitDefEqProofs [o_ix K.get, o_unseq (seq_tup K.siz), ws_seq]
  refine tk B (by have := S.n0; omega) (by have := S.n1; omega) (by omega) fun a h1 d1 B1 C1 l1 => ?_
  try simp -implicitDefEqProofs
  refine tk B1 (by decide) (by decide) (by omega) fun way h2 d2 B2 C2 l2 => ?_
  try simp -implicitDefEqProofs
  refine tk B2 (by decide) (by decide) (by omega) fun mo h3 d3 B3 C3 l3 => ?_
  have C := (C1.trans C2).trans C3
  have K3 := K.ch B C hb
  simp -implicitDefEqProofs [setAll]
  refine wp_lc_n (by have := S.n1; omega) (LfI h3 torn m xs ws) ⟨Old.app _ _, [], rfl, rfl, fun j y e => nomatch e⟩ ?_ ?_
  · rintro i acc k hi eD ⟨O, ys, rfl, ly, L⟩
    simp -implicitDefEqProofs
    refine menu_ (K3.old O) hi hl fun z k2 O2 e2 lz => ?_
    have ne := menu_ne (torn := torn) (xs := xs) (ws := ws) (i := i) (show 0 < m by have := S.m0; omega)
    refine menu_ix e2 (by omega) fx fw (Int.le_refl 0) (by have := List.length_pos_iff.mpr ne; omega) fun y hy hm => ?_
    refine ⟨O2.at eD, ⟨by rw [List.length_set]; exact (O.trans O2).1, fun j hj => by rw [List.getElem?_set_ne (by omega)]; exact (O.trans O2).2 j hj⟩, ys ++ [y], by simp [rowW], by simp [ly], lefts_snoc L ly hy hm⟩
  · rintro acc k eD ⟨O, ys, rfl, ly, L⟩
    rw [o_tuple (lst_at eD)]
    try simp -implicitDefEqProofs
    have le := (C.trans (O.ch b)).1
    exact ⟨⟨a, way, 1 + mo, k.length, ys, none, none, none, none, none, none, by omega, by omega, by omega, ly, L, tup_at (new_at _ _), by omega, le, by simp⟩, ((B3.old O).app _).mono, (C.trans (O.ch b)).app _⟩
/-- the contents that a block may not be left with -/
def oth (m : Nat) (ms : List Int) (i : Nat) : List Nat := (List.range i).filter fun x => !decide ((x : Int) ∈ ms)
theorem oth_next {ms : List Int} {i : Nat} : oth m ms (i + 1) = oth m ms i ++ (if (i : Int) ∈ ms then [] else [i]) := by
  unfold oth
  rw [List.range_succ, List.filter_append]
  congr 1
  by_cases q : (i : Int) ∈ ms
  · simp [q]
  · simp [q]
structure OtI (h : MH) (m : Nat) (ms : List Int) (i : Nat) (acc : List W) (k : MH) : Prop where
  old : Old h k
  acc_ : acc = rowW (oth m ms i)
theorem mayL_bad {ys : List Nat} {a v : Nat} (ha : ys[a]? = some v) (hv : (v : Int) ∉ menu torn m xs ws a) : (mayL torn m xs ws ys).all id = false := by
  unfold mayL
  have la := (List.getElem?_eq_some_iff.mp ha).1
  rw [List.all_map, List.all_eq_false]
  refine ⟨a, List.mem_range.mpr la, ?_⟩
  simp [List.getD_eq_getElem?_getD, ha, hv]
theorem refcut_ (K : Kn h kn dr dk st st' pe pe' sz n m torn xs ws) (hl : ws.length < 63) (B : Box h b c) (hc : c < 900000) (hb : b ≠ kn ∧ b ≠ dr ∧ b ≠ pe ∧ b ≠ pe')
    (q0 : ∀ h', Box h' b (c + 6) → Ch b h h' → Q .non h')
    (q : ∀ z t s w h', Box h' b (c + 6) → Ch b h h' → h'[z]? = some (.tup [.ref t, .str s, w]) → CutOut h h' b n m torn xs ws t s w → Q (.ref z) h') : (m__law_refused_cut [.ref b, .ref kn] h).wp Q X := by
  have S := K.drv.siz
  have lb := B.lt
  have lx := K.drv.fil.len
  have fx := K.drv.fil.lt
  have fw : ∀ w ∈ ws, w.2 < m := fun w hw => (K.drv.okw w hw).2
  unfold m__law_refused_cut
  rw [wp_fn]
  unfold b__law_refused_cut
  refine refcutA K hl B hc hb ?_
  rintro r k ⟨⟨a, way, mo, p, ys, u8, u9, u10, u11, u12, u13, ha, hway, hmo, ly, L, R, pb, lp, rfl⟩, B1, C1⟩
  have F := lefts_fil L ly
  have K1 := K.ch B C1 hb
  have le1 := C1.1
  rw [ws_seq]
  simp -implicitDefEqProofs
  refine tk B1 (by decide) (by decide) (by omega) fun x h2 d2 B2 C2 l2 => ?_
  have C12 := C1.trans C2
  have R2 : RowAt h2 p ys := R.kp C2.kp R.lt pb
  have K2 := K.ch B C12 hb
  try simp -implicitDefEqProofs
  split
  · refine odd_spec S hway ha hmo F R2 pb B2.lt fun w h3 O3 I3 f3 Od => ?_
    try simp -implicitDefEqProofs
    have O4 := Old.app h3 [Cell.tup [.str "cut", w], Cell.tup [.ref h3.length, .str "filling", w]]
    exact q _ _ "filling" w _ (((B2.old O3).old O4).mono) ((C12.trans (O3.ch b)).trans (O4.ch b)) (at_new (i := 1) rfl)
      ⟨at_new (i := 0) rfl, odd_low (Od.up (O4.kp b)) (by have := C12.1; omega), known_old O4 I3.1, .inl ⟨rfl, items_old O4 I3, (con_old O4 I3.1).trans f3⟩⟩
  · refine menu_ K2 ha hl fun z h3 O3 e3 lz => ?_
    have R3 := R2.old O3
    try simp -implicitDefEqProofs [ws_seq]
    refine wp_lc_n (by have := S.m1; omega) (OtI h3 m (menu torn m xs ws a)) ⟨Old.app _ _, rfl⟩ ?_ ?_
    · rintro i acc k hi eD ⟨O, rfl⟩
      simp -implicitDefEqProofs [o_notin (lst_at (O.at e3))]
      by_cases cc : (i : Int) ∈ menu torn m xs ws a
      · simp -implicitDefEqProofs [cc]
        exact ⟨eD, O, by rw [oth_next, if_pos cc, List.append_nil]⟩
      · simp -implicitDefEqProofs [cc]
        refine ⟨eD, ⟨by rw [List.length_set]; exact O.1, fun j hj => by rw [List.getElem?_set_ne (by omega)]; exact O.2 j hj⟩, ?_⟩
        rw [oth_next, if_neg cc]
        simp [rowW]
    · rintro acc k eD ⟨O, rfl⟩
      have eo : (k ++ [Cell.lst []])[h3.length]? = some (.lst ((toI (oth m (menu torn m xs ws a) m)).map .int)) := by rw [← row_ints]; exact app_at eD _
      have en : (k ++ [Cell.lst []])[k.length]? = some (.lst (([] : List Int).map .int)) := new_at k _
      have O24 : Old h2 (k ++ [Cell.lst []]) := (O3.trans O).trans (Old.app _ _)
      simp -implicitDefEqProofs [eq_ints eo en]
      split
      · exact q0 _ ((B2.old O24).mono) (C12.trans (O24.ch b))
      · rename_i no
        have R4 := R2.old O24
        have rl : (rowW ys).length = n := by rw [List.length_map]; exact ly
        have n1 := S.n1
        have s1 : ∀ H, RowAt H p ys → slice (.ref p) none (some (a : Int)) H = .ok (.ref H.length) (H ++ [.tup (rowW (ys.take a))]) := fun H RH => by
          rw [slice_tup RH (by rw [rl]; unfold sIx; simp only []; rw [if_neg (by omega)]; omega), cut_take (by omega), row_take]
        have s2 : ∀ H, RowAt H p ys → slice (.ref p) (some ((a : Int) + 1)) none H = .ok (.ref H.length) (H ++ [.tup (rowW (ys.drop (a + 1)))]) := fun H RH => by
          rw [show ((a : Int) + 1) = ((a + 1 : Nat) : Int) by omega]
          rw [slice_tup RH (by rw [rl]; unfold sIx; simp only []; rw [if_neg (by omega)]; omega), cut_drop (by omega), row_drop]
        have lo : 0 < (oth m (menu torn m xs ws a) m).length := by
          cases e : oth m (menu torn m xs ws a) m with
          | nil => rw [e] at no; exact absurd rfl no
          | cons _ _ => exact Nat.succ_pos _
        have lo2 : (oth m (menu torn m xs ws a) m).length ≤ 64 := by
          have := List.length_filter_le (fun x : Nat => !decide ((x : Int) ∈ menu torn m xs ws a)) (List.range m)
          rw [List.length_range] at this
          have := S.m1
          unfold oth
          omega
        have l23 := O3.1
        have lb2 := B2.lt
        revert eo en O24 R4
        generalize (k ++ [Cell.lst []]) = H
        intro eo en O24 R4
        simp -implicitDefEqProofs [eSl, s1 H R4]
        rw [show List.take a (List.map nW ys) = rowW (ys.take a) from row_take]
        have e1 : tupAt (H ++ [Cell.tup (rowW (ys.take a))]) H.length = some (rowW (ys.take a)) := tup_at (new_at _ _)
        have eo1 := app_at eo [Cell.tup (rowW (ys.take a))]
        rw [o_len (seq_lst eo1)]
        try simp -implicitDefEqProofs only [wp_ok]
        have lm : ((toI (oth m (menu torn m xs ws a) m)).map W.int).length = (oth m (menu torn m xs ws a) m).length := by rw [List.length_map]; unfold toI; rw [List.length_map]
        rw [lm]
        refine tk ((B2.old O24).app _) (by omega) (by omega) (by omega) fun j h5 d5 B5 C5 l5 => ?_
        have e5 := C5.at eo1 (by omega)
        have lj : j < (oth m (menu torn m xs ws a) m).length := by omega
        have em : ((toI (oth m (menu torn m xs ws a) m)).map W.int)[j]? = some (nW (oth m (menu torn m xs ws a) m)[j]) := by rw [← row_ints]; exact row_get_ lj
        rw [o_ix (seq_lst e5), item_nn j em]
        have hv := List.getElem_mem lj
        generalize (oth m (menu torn m xs ws a) m)[j] = v at hv ⊢
        unfold oth at hv
        obtain ⟨v0, v1⟩ := List.mem_filter.mp hv
        have vm := List.mem_range.mp v0
        have vn : (v : Int) ∉ menu torn m xs ws a := by simpa using v1
        have lH := O24.1
        have e6 : tupAt h5 H.length = some (rowW (ys.take a)) := tupAt_kp e1 C5.kp (tupAt_lt e1) (by omega)
        refine cat_spec (xs := rowW (ys.take a)) (ys := [nW v]) (tupAt_old e6 (Old.app _ _)) (tup_at (new_at h5 _)) (by simp; omega) fun p3 h6 O6 e7 hp3 => ?_
        have O56 : Old h5 h6 := (Old.app h5 _).trans O6
        have R5 : RowAt h5 p ys := (R4.old (Old.app H [Cell.tup (rowW (ys.take a))])).kp C5.kp (R4.old (Old.app H [Cell.tup (rowW (ys.take a))])).lt pb
        simp -implicitDefEqProofs [s2 h6 (R5.old O56)]
        rw [show List.drop (a + 1) (List.map nW ys) = rowW (ys.drop (a + 1)) from row_drop]
        refine cat_spec (tupAt_old e7 (Old.app _ _)) (tup_at (new_at h6 _)) (by simp; omega) fun p5 h7 O7 e8 hp5 => ?_
        have O67 := (Old.app h6 [Cell.tup (rowW (ys.drop (a + 1)))]).trans O7
        have O57 := O56.trans O67
        have ez : rowW (ys.take a) ++ [nW v] ++ rowW (ys.drop (a + 1)) = rowW (ys.take a ++ [v] ++ ys.drop (a + 1)) := by simp [rowW]
        rw [ez] at e8
        have lz : (ys.take a ++ [v] ++ ys.drop (a + 1)).length = n := by simp; omega
        have Fz : Fil n m (ys.take a ++ [v] ++ ys.drop (a + 1)) := ⟨lz, fun y hy => by
          rcases (List.mem_append.mp hy : _) with hy | hy
          · rcases (List.mem_append.mp hy : _) with hy | hy
            · exact F.lt y (List.mem_of_mem_take hy)
            · rw [List.mem_singleton.mp hy]; exact vm
          · exact F.lt y (List.mem_of_mem_drop hy)⟩
        have av : (ys.take a ++ [v] ++ ys.drop (a + 1))[a]? = some v := by
          rw [List.getElem?_append_left (by simp; omega), List.getElem?_append_right (by simp; omega)]
          simp [List.length_take, show min a ys.length = a by omega]
        have C27 : Ch b h h7 := C12.trans ((O24.ch b).trans (((Old.app H [Cell.tup (rowW (ys.take a))]).ch b).trans (C5.trans (O57.ch b))))
        try simp -implicitDefEqProofs
        have O8 := Old.app h7 [Cell.tup [.str "cut", .ref p5], Cell.tup [.ref h7.length, .str "left", .ref p5]]
        have R8 : RowAt (h7 ++ [Cell.tup [.str "cut", .ref p5], Cell.tup [.ref h7.length, .str "left", .ref p5]]) p5 (ys.take a ++ [v] ++ ys.drop (a + 1)) := tupAt_old e8 O8
        have l8 := R8.lt
        have l56 := O56.1
        have l67 := O67.1
        have np5 : p5 ≠ b := by
          simp at hp3 hp5 l5
          omega
        refine q _ _ "left" (.ref p5) _ (((B5.old O57).old O8).mono) (C27.trans (O8.ch b)) (at_new (i := 1) rfl) ⟨at_new (i := 0) rfl, ?_, R8.known, .inr ⟨rfl, p5, _, rfl, Fz, R8, mayL_bad av vn⟩⟩
        exact odd_tup (k := (h7 ++ [Cell.tup [.str "cut", .ref p5], Cell.tup [.ref h7.length, .str "left", .ref p5]]).length) (ds := rowD (ys.take a ++ [v] ++ ys.drop (a + 1))) R8 l8 (Nat.le_refl _) np5 denA_row (nic_row (m := m) (by have := S.m1; omega) Fz.lt) (by rw [List.length_map]; omega)
end
end K03
set_option Elab.async false
set_option autoImplicit false
set_option linter.all false
set_option maxRecDepth 100000
namespace K03
open Mini Lb
open PySem (Str PyData)
section
variable {h : MH} {b : Nat} {c : Int} {Q : W → MH → Prop} {X : XQ} {w : W}
variable {kn dr dk st st' pe pe' sz n m : Nat} {torn : Bool} {xs : List Nat} {ws : List (Nat × Nat)}
/-- the drive as the law knows it, some way -/
structure KnE (h : MH) (M : List Nat) (kn dr n m : Nat) (torn : Bool) (L : Nat) : Prop where
  ex : ∃ dk st st' pe pe' sz xs ws, Kn h kn dr dk st st' pe pe' sz n m torn xs ws ∧ M = [kn, dr, pe, pe'] ∧ ws.length ≤ L
/-- what a turn leaves -/
structure TurnQ (h : MH) (b : Nat) (c : Int) (M : List Nat) (kn dr n m : Nat) (torn : Bool) (L : Nat) (h' : MH) : Prop where
  kn : ∃ M', KnE h' M' kn dr n m torn L ∧ ∀ i ∈ M', i ∈ M ∨ h.length ≤ i
  fr : Fr (b :: M) h h'
  box : Box h' b c
theorem turnQ_ch {h' : MH} {L : Nat} (K : Kn h kn dr dk st st' pe pe' sz n m torn xs ws) (hl : ws.length ≤ L) (B : Box h b c) (hb : b ≠ kn ∧ b ≠ dr ∧ b ≠ pe ∧ b ≠ pe') (C : Ch b h h') (c' : Int) (B' : Box h' b c') : TurnQ h b c' [kn, dr, pe, pe'] kn dr n m torn L h' :=
  ⟨⟨_, ⟨dk, st, st', pe, pe', sz, xs, ws, K.ch B C hb, rfl, hl⟩, fun i hi => .inl hi⟩, (Fr.of_ch C).mono fun i hi _ => by rw [List.mem_singleton.mp hi]; exact List.mem_cons_self, B'⟩
theorem row_nb {h : MH} {p : Nat} (B : Box h b c) (R : RowAt h p xs) : p ≠ b := by
  rintro rfl
  exact (box_mut B).tup R (List.mem_singleton.mpr rfl)
structure TuA (h : MH) (b : Nat) (c : Int) (kn dr : Nat) (r : Env) (k : MH) : Prop where
  ex : ∃ (way : Nat) (nd : Bool) (u5 u6 u7 u8 u9 u10 u11 : Option W), way < 12 ∧ r = [some (.ref b), some (.ref kn), some (.int way), some (.bl nd), some (.ref dr), u5, u6, u7, u8, u9, u10, u11]
  box : Box k b c
  ch : Ch b h k
theorem told_known {H : MH} {t : Nat} {xs : List W} (e : H[t]? = some (.lst xs)) : known (.ref t) H = true := (lst_known e).1
/-- the end of a refused deed -/
theorem refused_end {h2 : MH} {e : Nat} {f s : Str} {L : Nat} (K : Kn h kn dr dk st st' pe pe' sz n m torn xs ws) (hl : ws.length ≤ L) (B : Box h b c) (hb : b ≠ kn ∧ b ≠ dr ∧ b ≠ pe ∧ b ≠ pe') {c2 : Int} (B2 : Box h2 b c2) (C2 : Ch b h h2) (O : Odd h.length b h2 w) (k : known w h2 = true)
    (q : ∀ h', TurnQ h b c2 [kn, dr, pe, pe'] kn dr n m torn L h' → Q (.bl true) h') : (m__law_same [.ref (h2.length + 2), .str s, w] (toldH h2 e f s w)).wp Q X := by
  have O3 : Old h2 (toldH h2 e f s w) := Old.app _ _
  have B3 := B2.old O3
  refine same_spec (lo := h.length) (b := b) (O.up (O3.kp b)) toldH_at (fun p hp => ?_) fun h' C3 hB => ?_
  · subst hp
    have := known_lt k
    omega
  · have C' : Ch b h h' := (((C2.trans (O3.ch b)).kp).trans C3 (Nat.le_refl _)).ch
    exact q h' (turnQ_ch K hl B hb C' c2 (hB _ B3))
theorem turn_ref {way : Nat} {nd : Bool} {u5 u6 u7 u8 u9 u10 u11 : Option W} {L : Nat} (hw : way = 10 ∨ way = 11) (K : Kn h kn dr dk st st' pe pe' sz n m torn xs ws) (hL : ws.length ≤ L) (hl : L < 60) (B : Box h b c) (hc : c < 900000) (hb : b ≠ kn ∧ b ≠ dr ∧ b ≠ pe ∧ b ≠ pe')
    (q : ∀ h', TurnQ h b (c + 8) [kn, dr, pe, pe'] kn dr n m torn L h' → Q (.bl true) h') {s1 s2 : S} :
    (sSeq (Mini.sIf (tBl (eBin gGt (eVar 2) (eC (.int 9))))
    (sSeq (sSet 5 (eIf (tBl (eBin gEq (eVar 2) (eC (.int 10)))) (Mini.eCall m__law_refused_write (aCons (eVar 0) (aCons (eVar 1) aNil))) (Mini.eCall m__law_refused_cut (aCons (eVar 0) (aCons (eVar 1) aNil)))))
    (sSeq (Mini.sIf (tBl (eBin gIs (eVar 5) (eC .non)))
    (sRet (eC (.bl true)))
    sNx)
    (sRet (Mini.eCall m__law_same (aCons (Mini.eCall m__law_told (aCons (eVar 4) (aCons (eBin gIx (eVar 5) (eC (.int 0))) (aCons (eVar 3) aNil)))) (aCons (eBin gIx (eVar 5) (eC (.int 1))) (aCons (eBin gIx (eVar 5) (eC (.int 2))) aNil)))))))
    sNx) s2 [some (.ref b), some (.ref kn), some (.int way), some (.bl nd), some (.ref dr), u5, u6, u7, u8, u9, u10, u11] h).wp (retS Q) (fun c d _ h1 => X c d h1) := by
  have S := K.drv.siz
  rcases hw with rfl | rfl
  · simp -implicitDefEqProofs
    refine refwrite_ K B hc fun z t s w h2 B2 C2 ez out => ?_
    have K2 := K.ch B C2 hb
    simp -implicitDefEqProofs [o_ix (seq_tup ez)]
    rcases out with ⟨rfl, i, hi, et, O⟩ | ⟨rfl, v, et, O⟩
    · refine told_badC K2.drv et hi O.kn O.no ?_
      have e3 := app_at ez [Cell.xd [("given", w)], .exo 4 (some h2.length), .lst [.str "content", w]]
      rw [o_ix (seq_tup e3), item1]
      try simp -implicitDefEqProofs
      rw [o_ix (seq_tup e3), item2]
      exact refused_end K hL B hb B2 C2 O.odd O.kn q
    · refine told_badB K2.drv et O.kn O.no ?_
      have e3 := app_at ez [Cell.xd [("given", w)], .exo 3 (some h2.length), .lst [.str "block", w]]
      rw [o_ix (seq_tup e3), item1]
      try simp -implicitDefEqProofs
      rw [o_ix (seq_tup e3), item2]
      exact refused_end K hL B hb B2 C2 O.odd O.kn q
  · simp -implicitDefEqProofs
    refine refcut_ K (by omega) B hc hb (fun h2 B2 C2 => ?_) fun z t s w h2 B2 C2 ez ⟨et, Od, kw, out⟩ => ?_
    · simp -implicitDefEqProofs
      exact q _ (turnQ_ch K hL B hb C2 _ B2.mono)
    have K2 := K.ch B C2 hb
    simp -implicitDefEqProofs [o_ix (seq_tup ez)]
    have q' : ∀ h', TurnQ h b (c + 6) [kn, dr, pe, pe'] kn dr n m torn L h' → Q (.bl true) h' := fun h' T => q h' ⟨T.kn, T.fr, T.box.mono (by omega)⟩
    rcases out with ⟨rfl, I, f⟩ | ⟨rfl, p, zs, rfl, Fz, R, bad⟩
    · refine told_cutbad K2.drv et I f fun h3 O3 => ?_
      have e3 := app_at (O3.at ez) [Cell.xd [("given", w)], .exo 2 (some h3.length), .lst [.str "filling", w]]
      rw [o_ix (seq_tup e3), item1]
      try simp -implicitDefEqProofs
      rw [o_ix (seq_tup e3), item2]
      exact refused_end K hL B hb (B2.old O3) (C2.trans (O3.ch b)) (Od.up (O3.kp b)) (known_old O3 kw) q'
    · refine told_cutleft K2.drv et (by omega) Fz R bad fun h3 O3 => ?_
      have e3 := app_at (O3.at ez) [Cell.xd [("filling", .ref p)], .exo 6 (some h3.length), .lst [.str "left", .ref p]]
      rw [o_ix (seq_tup e3), item1]
      try simp -implicitDefEqProofs
      rw [o_ix (seq_tup e3), item2]
      exact refused_end K hL B hb (B2.old O3) (C2.trans (O3.ch b)) (Od.up (O3.kp b)) (known_old O3 kw) q'
end
end K03
set_option Elab.async false
set_option autoImplicit false
set_option linter.all false
set_option maxRecDepth 100000
namespace K03
open Mini Lb
open PySem (Str PyData)
section
variable {h : MH} {b : Nat} {c : Int} {Q : W → MH → Prop} {X : XQ} {w : W}
variable {kn dr dk st st' pe pe' sz n m : Nat} {torn : Bool} {xs ys : List Nat} {ws : List (Nat × Nat)}
theorem box_fr {N : List Nat} {h' : MH} (B : Box h b c) (F : Fr N h h') (hb : b ∉ N) : Box h' b c := by
  obtain ⟨z, f, m, k, e, r⟩ := B
  exact ⟨z, f, m, k, F.at e hb, r⟩
theorem Kn.lts (K : Kn h kn dr dk st st' pe pe' sz n m torn xs ws) : kn < h.length ∧ dr < h.length ∧ pe < h.length ∧ pe' < h.length ∧ kn ≠ dr ∧ pe ≠ dr ∧ pe' ≠ dr := by
  obtain ⟨as, e1, _⟩ := K.wrs
  obtain ⟨as2, e2, _⟩ := K.drv.wrs
  have d : h[dr]? = _ := K.drv.at_
  refine ⟨lt_of_at K.at_, lt_of_at d, lt_of_at e1, lt_of_at e2, ?_, ?_, ?_⟩
  · rintro rfl; have := K.at_; rw [d] at this; cases this
  · rintro rfl; rw [d] at e1; cases e1
  · rintro rfl; rw [d] at e2; cases e2
theorem mut_kn (K : Kn h kn dr dk st st' pe pe' sz n m torn xs ws) (B : Box h b c) : Mut [b, kn, dr, pe, pe'] h := fun i hi => by
  obtain ⟨as, e1, _⟩ := K.wrs
  obtain ⟨as2, e2, _⟩ := K.drv.wrs
  simp only [List.mem_cons, List.not_mem_nil, or_false] at hi
  rcases hi with rfl | rfl | rfl | rfl | rfl
  · exact box_mut B _ (List.mem_singleton.mpr rfl)
  · exact .inl ⟨_, K.at_⟩
  · exact .inr ⟨_, K.drv.at_⟩
  · exact .inl ⟨_, e1⟩
  · exact .inl ⟨_, e2⟩
theorem mut_sub {M N : List Nat} (q : Mut M h) (s : ∀ i ∈ N, i ∈ M) : Mut N h := fun i hi => q i (s i hi)
/-- a drive settled anew, and so the law's list -/
theorem settled_turn {H4 h5 : MH} {z pn st2 pe2 : Nat} {c' : Int} (K : Kn h kn dr dk st st' pe pe' sz n m torn xs ws) (B : Box h b c) (hb : b ≠ kn ∧ b ≠ dr ∧ b ≠ pe ∧ b ≠ pe') (F4 : Fr [b, kn] h H4) (e4 : H4[kn]? = some (.lst [.ref dr, .ref z, .ref pn, .ref sz, .bl torn])) (Rz : RowAt H4 z ys) (ep : H4[pn]? = some (.lst [])) (hpn : h.length ≤ pn)
    (A : Anew H4 h5 dr dk st2 pe2 torn) (R5 : RowAt h5 st2 ys) (F : Fil n m ys) (B4 : Box H4 b c') (t : List Cell) (L : Nat) : TurnQ h b c' [kn, dr, pe, pe'] kn dr n m torn L (h5 ++ t) := by
  obtain ⟨l1, l2, l3, l4, n1, n2, n3⟩ := K.lts
  obtain ⟨b1, b2, b3, b4⟩ := hb
  have D4 : h[dr]? = _ := K.drv.at_
  have lp := lt_of_at ep
  have M0 := mut_sub (N := [b, kn]) (mut_kn K B) (by simp)
  have d4 := F4.at D4 (by simp; omega)
  have Mdr : Mut [dr] H4 := fun i hi => by rw [List.mem_singleton.mp hi]; exact .inr ⟨_, d4⟩
  have lA := A.lt
  have dk4 : DiskAt H4 dk 7 n m := F4.at K.drv.disk (M0.disk K.drv.disk)
  have dk5 : DiskAt h5 dk 7 n m := A.fr.at dk4 (Mdr.disk dk4)
  have sz4 : SizAt H4 sz n m := F4.at K.siz (M0.tup' K.siz)
  have l54 := F4.le
  have pnd : pn ≠ dr := by omega
  have K5 : Kn h5 kn dr dk z st2 pn pe2 sz n m torn ys [] := by
    refine ⟨A.fr.at e4 (by simp; omega), ⟨A.at_, dk5, R5, wrs_nil A.pe0, F, K.drv.siz, fun w hw => nomatch hw⟩, row_fr Rz A.fr Mdr, wrs_nil (A.fr.at ep (by simp; omega)), A.fr.at sz4 (Mdr.tup' sz4), by omega, by omega, by omega⟩
  have O := Old.app h5 t
  refine ⟨⟨_, ⟨dk, z, st2, pn, pe2, sz, ys, [], K5.old O, rfl, Nat.zero_le _⟩, fun i hi => ?_⟩, ?_, (box_fr B4 A.fr (by simp; omega)).old O⟩
  · simp only [List.mem_cons, List.not_mem_nil, or_false] at hi ⊢
    omega
  · have f1 : Fr (b :: [kn, dr, pe, pe']) h H4 := F4.mono fun i hi _ => by simp at hi ⊢; omega
    have f2 : Fr (b :: [kn, dr, pe, pe']) H4 h5 := A.fr.mono fun i hi _ => by simp at hi ⊢; omega
    exact (f1.trans f2).trans (Fr.of_old O)
def s_sync : S :=
    (sSeq (sSet 9 (eFn fLen (aCons (eBin gIx (eVar 1) (eC (.int 2))) aNil)))
    (sSeq (sAsg (eTup (aCons (Mini.eCall m__law_put (aCons (eBin gIx (eVar 1) (eC (.int 1))) (aCons (eBin gIx (eVar 1) (eC (.int 2))) aNil))) (aCons (eLst aNil) aNil))) (gSeqT [(gSubL (eVar 1) (eC (.int 1))), (gSubL (eVar 1) (eC (.int 2)))]))
    (sSeq (sSet 10 (Mini.eCall m__law_told (aCons (eVar 4) (aCons (eTup (aCons (eC (.str ("sync" : PySem.Str))) aNil)) (aCons (eVar 3) aNil)))))
    (sRet (eAnd (eBin gEq (eVar 10) (eLst (aCons (eC (.str ("done" : PySem.Str))) (aCons (eVar 9) aNil)))) (eNot (eUn (gIsi .tBool) (eBin gIx (eVar 10) (eC (.int 1))))))))))
theorem eq_done {p q : Nat} {v : W} {d : PyData} (e1 : h[p]? = some (.lst [.str "done", v])) (e2 : h[q]? = some (.lst [.str "done", v])) (hv : ∀ N, Den N N h v d) (hl : d.canLay0 = true) (hd : d.depth = 0) (he : PyData.eqv d d = true) : gEq (.ref p) (.ref q) h = .ok (.bl true) h := by
  have l1 := lt_of_at e1
  have l2 := lt_of_at e2
  have d1 : Den h.length h.length h (.ref p) (.list [.str "done", d]) := .lst l1 (by omega) (lst_at e1) (.cons (.str _) (.cons (hv _) .nil))
  have d2 : Den h.length h.length h (.ref q) (.list [.str "done", d]) := .lst l2 (by omega) (lst_at e2) (.cons (.str _) (.cons (hv _) .nil))
  have y1 : PyData.canLay0 (.list [.str "done", d]) = true := by simp only [PyData.canLay0, PyData.canLayAll0, hl]; decide +kernel
  have y2 : PyData.depth (.list [.str "done", d]) ≤ 11 := by simp only [PyData.depth, PyData.depthAll, hd]; omega
  rw [eq_den d1 d2 y1 y1 y2 y2]
  simp only [PyData.eqv, PyData.eqvAll, he]
  simp
theorem put2 {k : MH} {a b2 c2 d2 e2 x y : W} (e : k[kn]? = some (.lst [a, b2, c2, d2, e2])) {r : Env} {q : Nat} (hr : r[1]? = some (some (.ref kn))) (eq : k[q]? = some (.tup [x, y])) {R' : Env → MH → Prop} {X' : XQ} (hq : R' r (k.set kn (.lst [a, x, y, d2, e2]))) :
    (gSeqT [(gSubL (eVar 1) (eC (.int 1))), (gSubL (eVar 1) (eC (.int 2)))] (.ref q) r k).wp R' X' := by
  rw [o_unseq (seq_tup eq)]
  simp -implicitDefEqProofs [hr]
  rw [o_put e (by decide) (by simp)]
  try simp -implicitDefEqProofs [hr]
  rw [o_put (set_at e) (by decide) (by simp)]
  try simp -implicitDefEqProofs
  simpa using hq
theorem turn_sync {way : Nat} {nd : Bool} {u5 u6 u7 u8 u9 u10 u11 : Option W} {L : Nat} (K : Kn h kn dr dk st st' pe pe' sz n m torn xs ws) (B : Box h b c) (hb : b ≠ kn ∧ b ≠ dr ∧ b ≠ pe ∧ b ≠ pe')
    (q : ∀ h', TurnQ h b c [kn, dr, pe, pe'] kn dr n m torn L h' → Q (.bl true) h') :
    (s_sync [some (.ref b), some (.ref kn), some (.int way), some (.bl nd), some (.ref dr), u5, u6, u7, u8, u9, u10, u11] h).wp (retS Q) (fun c d _ h1 => X c d h1) := by
  obtain ⟨l1, l2, l3, l4, n1, n2, n3⟩ := K.lts
  obtain ⟨as, e, T⟩ := K.wrs
  simp -implicitDefEqProofs [s_sync, o_ix K.get, o_len (seq_lst e)]
  refine lawput_spec K.row K.wrs K.okx fun z h1 O1 Rz lz => ?_
  try simp -implicitDefEqProofs
  have lo := O1.1
  have ek := app_at (O1.at K.at_) [Cell.lst [], Cell.tup [.ref z, .ref h1.length]]
  refine put2 ek rfl (at_new (i := 1) rfl) ?_
  try simp -implicitDefEqProofs
  generalize hH : ((h1 ++ [Cell.lst [], Cell.tup [.ref z, .ref h1.length]]).set kn (.lst [.ref dr, .ref z, .ref h1.length, .ref sz, .bl torn])) = H3
  have lH : H3.length = h1.length + 2 := by rw [← hH]; simp
  have F3 : Fr [b, kn] h H3 := by rw [← hH]; exact ((Fr.of_old (M := [b, kn]) O1).app _).set _ (.inl (by simp))
  have F4 := F3.app [Cell.tup [.str "sync"]]
  have M0 := mut_sub (N := [b, kn]) (mut_kn K B) (by simp)
  have ek3 : H3[kn]? = some (.lst [.ref dr, .ref z, .ref h1.length, .ref sz, .bl torn]) := by rw [← hH]; exact set_at ek
  have ep3 : H3[h1.length]? = some (.lst []) := by rw [← hH, List.getElem?_set_ne (by omega)]; exact at_new (i := 0) rfl
  have F13 : Fr [kn] h1 H3 := by rw [← hH]; exact ((Fr.refl [kn] h1).app _).set _ (.inl (by simp))
  have Rz3 : RowAt H3 z (putA xs ws) := row_fr Rz F13 (fun i hi => by rw [List.mem_singleton.mp hi]; exact .inl ⟨_, O1.at K.at_⟩)
  have D4 := K.drv.fr F4 M0 (by simp; omega) (by simp; have := K.n2; omega)
  refine told_sync D4 (by rw [← lH]; exact new_at H3 _) fun st2 pe2 h5 A R5 => ?_
  have e6 : (h5 ++ [Cell.lst [.str "done", .int (ws.length : Nat)], Cell.lst [.str "done", .int (ws.length : Nat)]])[h5.length]? = some (.lst [.str "done", .int (ws.length : Nat)]) := at_new (i := 0) rfl
  have e7 : (h5 ++ [Cell.lst [.str "done", .int (ws.length : Nat)], Cell.lst [.str "done", .int (ws.length : Nat)]])[h5.length + 1]? = some (.lst [.str "done", .int (ws.length : Nat)]) := at_new (i := 1) rfl
  have ed := eq_done e6 e7 (d := .int (ws.length : Nat)) (fun _ => .int _) rfl rfl (by simp [PyData.eqv])
  have la : as.length = ws.length := T.len
  try simp -implicitDefEqProofs [la]
  rw [ed]
  try simp -implicitDefEqProofs
  rw [o_ix (seq_lst e6), item1]
  try simp -implicitDefEqProofs
  exact q _ (settled_turn K B hb F4 (app_at ek3 _) (Rz3.old (Old.app _ _)) (app_at ep3 _) lo A R5 (putA_fil K.drv.fil fun w hw => (K.drv.okw w hw).2) ((box_fr (B.old O1) F13 (by simp; omega)).app _) _ L)
end
end K03
set_option Elab.async false
set_option autoImplicit false
set_option linter.all false
set_option maxRecDepth 100000
namespace K03
open Mini Lb
open PySem (Str PyData)
section
variable {h : MH} {b : Nat} {c : Int} {Q : W → MH → Prop} {X : XQ} {w : W}
variable {kn dr dk st st' pe pe' sz n m : Nat} {torn : Bool} {xs ys : List Nat} {ws : List (Nat × Nat)}
def s_write : S :=
    (sSeq (sSet 11 (Mini.eCall m__law_write (aCons (eVar 0) (aCons (eVar 1) aNil))))
    (sSeq (sExpr (eApp (eBin gIx (eVar 1) (eC (.int 2))) (eTup (aCons (eBin gIx (eVar 11) (eC (.int 1))) (aCons (eBin gIx (eVar 11) (eC (.int 2))) aNil)))))
    (sRet (eBin gEq (Mini.eCall m__law_told (aCons (eVar 4) (aCons (eVar 11) (aCons (eVar 3) aNil)))) (eLst (aCons (eC (.str ("done" : PySem.Str))) (aCons (eC .non) aNil)))))))
theorem turn_write {way : Nat} {nd : Bool} {u5 u6 u7 u8 u9 u10 u11 : Option W} {L : Nat} (K : Kn h kn dr dk st st' pe pe' sz n m torn xs ws) (hL : ws.length < L) (hl : L < 60) (B : Box h b c) (hc : c < 900000) (hb : b ≠ kn ∧ b ≠ dr ∧ b ≠ pe ∧ b ≠ pe')
    (q : ∀ h', TurnQ h b (c + 5) [kn, dr, pe, pe'] kn dr n m torn L h' → Q (.bl true) h') :
    (s_write [some (.ref b), some (.ref kn), some (.int way), some (.bl nd), some (.ref dr), u5, u6, u7, u8, u9, u10, u11] h).wp (retS Q) (fun c d _ h1 => X c d h1) := by
  simp -implicitDefEqProofs [s_write]
  refine write_ K (by omega) B hc hb fun z h1 i x B1 C1 ez lz hi hx => ?_
  have K1 := K.ch B C1 hb
  obtain ⟨l1, l2, l3, l4, n1, n2, n3⟩ := K1.lts
  obtain ⟨as, e1, T1⟩ := K1.wrs
  obtain ⟨b1, b2, b3, b4⟩ := hb
  have mk := mut_kn K1 B1
  have Mpe : Mut [pe] h1 := mut_sub mk (by simp)
  have np := K1.n1
  have np' := K1.n2
  have npp := K1.n3
  simp -implicitDefEqProofs [o_ix K1.get, eApp, isLst_at e1, o_ix (seq_tup ez)]
  unfold app
  simp only [app_at e1]
  rw [if_pos (by rw [List.length_map, T1.len]; omega)]
  try simp -implicitDefEqProofs only [wp_ok]
  have F1 : Fr [pe] h1 ((h1 ++ [Cell.tup [nW i, nW x]]).set pe (.lst (as.map .ref ++ [.ref h1.length]))) := ((Fr.refl [pe] h1).app _).set _ (.inl (by simp))
  have g1 : ((h1 ++ [Cell.tup [nW i, nW x]]).set pe (.lst (as.map .ref ++ [.ref h1.length])))[pe]? = some (.lst ((as ++ [h1.length]).map .ref)) := by rw [List.map_append]; exact set_at (app_at e1 _)
  have g2 : ((h1 ++ [Cell.tup [nW i, nW x]]).set pe (.lst (as.map .ref ++ [.ref h1.length])))[h1.length]? = some (.tup [nW i, nW x]) := by rw [List.getElem?_set_ne (by omega)]; exact new_at _ _
  revert F1 g1 g2
  generalize ((h1 ++ [Cell.tup [nW i, nW x]]).set pe (.lst (as.map .ref ++ [.ref h1.length]))) = H2
  intro F1 g1 g2
  have D2 := K1.drv.fr F1 Mpe (by simp; omega) (by simp; omega)
  have ez2 := F1.at ez (Mpe.tup' ez)
  refine told_write D2 ez2 hi hx (by omega) fun as' h' T2 e2 hH => ?_
  have ld := lt_of_at g1
  have F2 : Fr [pe'] H2 h' := by rw [hH]; exact ((Fr.refl [pe'] H2).app _).set _ (.inl (by simp))
  have Mpe' : Mut [pe'] H2 := fun j hj => by rw [List.mem_singleton.mp hj]; exact .inl ⟨_, e2⟩
  have Tn : Tups H2 (as ++ [h1.length]) (ws ++ [(i, x)]) := (T1.keep fun a _ cc ee => F1.at ee (Mpe.tup' ee)).snoc g2
  have g3 : h'[H2.length]? = some (.tup [nW i, nW x]) := by
    rw [hH, List.getElem?_set_ne (by have := lt_of_at e2; omega)]
    exact new_at _ _
  have g4 : h'[pe']? = some (.lst ((as' ++ [H2.length]).map .ref)) := by rw [hH]; exact set_at (app_at e2 _)
  have Tn' : Tups h' (as' ++ [H2.length]) (ws ++ [(i, x)]) := (T2.keep fun a _ cc ee => F2.at ee (Mpe'.tup' ee)).snoc g3
  have lf := F1.le
  have Kn' : Kn h' kn dr dk st st' pe pe' sz n m torn xs (ws ++ [(i, x)]) := by
    have kn2 := F1.at K1.at_ (by simp; omega)
    have sz2 : SizAt H2 sz n m := F1.at K1.siz (Mpe.tup' K1.siz)
    refine ⟨F2.at kn2 (by simp; omega), ⟨F2.at D2.at_ (by simp; omega), F2.at D2.disk (Mpe'.disk D2.disk), row_fr D2.row F2 Mpe', ⟨_, g4, Tn'⟩, K1.drv.fil, K1.drv.siz, fun w hw => ?_⟩, row_fr (row_fr K1.row F1 Mpe) F2 Mpe', ⟨_, F2.at g1 (by simp; omega), Tn.keep fun a _ cc ee => F2.at ee (Mpe'.tup' ee)⟩, F2.at sz2 (Mpe'.tup' sz2), np, np', npp⟩
    rcases List.mem_append.mp hw with z | z
    · exact K1.drv.okw w z
    · rw [List.mem_singleton.mp z]; exact ⟨hi, hx⟩
  have O := Old.app h' [Cell.lst [.str "done", .non], Cell.lst [.str "done", .non]]
  have ed := eq_done (p := h'.length) (q := h'.length + 1) (h := h' ++ [Cell.lst [.str "done", .non], Cell.lst [.str "done", .non]]) (at_new (i := 0) rfl) (at_new (i := 1) rfl) (d := .none) (fun _ => .non) rfl rfl (by simp [PyData.eqv])
  try simp -implicitDefEqProofs
  rw [ed]
  try simp -implicitDefEqProofs
  refine q _ ⟨⟨_, ⟨dk, st, st', pe, pe', sz, xs, ws ++ [(i, x)], Kn'.old O, rfl, by simp; omega⟩, fun j hj => .inl hj⟩, ?_, ((box_fr (box_fr B1 F1 (by simp; omega)) F2 (by simp; omega)).old O)⟩
  have f0 : Fr (b :: [kn, dr, pe, pe']) h h1 := (Fr.of_ch C1).mono fun j hj _ => by simp at hj ⊢; omega
  have f1 : Fr (b :: [kn, dr, pe, pe']) h1 H2 := F1.mono fun j hj _ => by simp at hj ⊢; omega
  have f2 : Fr (b :: [kn, dr, pe, pe']) H2 h' := F2.mono fun j hj _ => by simp at hj ⊢; omega
  exact ((f0.trans f1).trans f2).trans (Fr.of_old O)
def s_cut : S :=
    (sSeq (sSet 6 (eLst aNil))
    (sSeq (Mini.sFor (Mini.iRng1 (eBin gIx (eBin gIx (eVar 1) (eC (.int 3))) (eC (.int 0)))) (gSet 7)
    (sSeq (sSet 8 (Mini.eCall m__law_menu (aCons (eVar 1) (aCons (eVar 7) aNil))))
    (sExpr (eApp (eVar 6) (eBin gIx (eVar 8) (Mini.eCall m__law_take (aCons (eVar 0) (aCons (eFn fLen (aCons (eVar 8) aNil)) aNil))))))))
    (sSeq (sAsg (eTup (aCons (eFn fTuple (aCons (eVar 6) aNil)) (aCons (eLst aNil) aNil))) (gSeqT [(gSubL (eVar 1) (eC (.int 1))), (gSubL (eVar 1) (eC (.int 2)))]))
    (sRet (eBin gEq (Mini.eCall m__law_told (aCons (eVar 4) (aCons (eTup (aCons (eC (.str ("cut" : PySem.Str))) (aCons (eFn fTuple (aCons (eVar 6) aNil)) aNil))) (aCons (eVar 3) aNil)))) (eLst (aCons (eC (.str ("done" : PySem.Str))) (aCons (eC .non) aNil))))))))
structure CutI (h : MH) (b : Nat) (c : Int) (kn dr way m : Nat) (nd torn : Bool) (u5 u9 u10 u11 : Option W) (xs : List Nat) (ws : List (Nat × Nat)) (i : Nat) (r : Env) (k : MH) : Prop where
  ex : ∃ (u7 u8 : Option W), r = [some (.ref b), some (.ref kn), some (.int way), some (.bl nd), some (.ref dr), u5, some (.ref h.length), u7, u8, u9, u10, u11]
  box : Box k b (c + i)
  ch : Ch b h k
  row : ∃ ys, ys.length = i ∧ Lefts torn m xs ws ys ∧ k[h.length]? = some (.lst (rowW ys))
theorem menu_le {i : Nat} (hm : m ≤ 64) (hl : ws.length < 60) : (menu torn m xs ws i).length ≤ 64 := by
  unfold menu
  split
  · split
    · simp
    · simp; omega
  · have := Br.sortU_len (xs := row0 xs ws i)
    unfold row0 at this ⊢
    rw [List.length_cons] at this
    have := pend_len (ws := ws) (i := i)
    omega
theorem turn_cut {way : Nat} {nd : Bool} {u5 u6 u7 u8 u9 u10 u11 : Option W} {L : Nat} (K : Kn h kn dr dk st st' pe pe' sz n m torn xs ws) (hl : ws.length < 60) (B : Box h b c) (hc : c < 900000) (hb : b ≠ kn ∧ b ≠ dr ∧ b ≠ pe ∧ b ≠ pe')
    (q : ∀ h', TurnQ h b (c + 24) [kn, dr, pe, pe'] kn dr n m torn L h' → Q (.bl true) h') :
    (s_cut [some (.ref b), some (.ref kn), some (.int way), some (.bl nd), some (.ref dr), u5, u6, u7, u8, u9, u10, u11] h).wp (retS Q) (fun c d _ h1 => X c d h1) := by
  have S := K.drv.siz
  have lb := B.lt
  have lx := K.drv.fil.len
  have fx := K.drv.fil.lt
  have fw : ∀ w ∈ ws, w.2 < m := fun w hw => (K.drv.okw w hw).2
  unfold s_cut
  rw [sSeq_assoc]
  refine ws_cut (CutI h b c kn dr way m nd torn u5 u9 u10 u11 xs ws n) ?_ ?_
  · simp -implicitDefEqProofs
    rw [ws_for, o_rng1]
    have K1 := K.old (Old.app h [Cell.lst []])
    simp -implicitDefEqProofs [o_ix K1.get, siz_ix0 K1.siz, rOkN (show n ≤ 1000000000000 by have := S.n1; omega)]
    refine ws_rng (n := n) (CutI h b c kn dr way m nd torn u5 u9 u10 u11 xs ws) ⟨⟨_, _, rfl⟩, (B.app _).mono (by omega), (Ch.refl b h).app _, [], rfl, (fun j y e => nomatch e), new_at _ _⟩ ?_ (fun r k I => ⟨rfl, I⟩)
    rintro i r k hi ⟨⟨v7, v8, rfl⟩, B1, C1, ys, ly, Lf, eE⟩
    have K2 := K.ch B C1 hb
    have lk := C1.1
    simp -implicitDefEqProofs
    refine menu_ K2 hi (by omega) fun z k2 O2 e2 lz => ?_
    have ml : 0 < (menu torn m xs ws i).length := List.length_pos_iff.mpr (menu_ne (by have := S.m0; omega))
    have ml2 := menu_le (torn := torn) (xs := xs) (ws := ws) (i := i) S.m1 hl
    have eE2 := O2.at eE
    simp -implicitDefEqProofs [eApp, isLst_at eE2, o_len (seq_lst e2)]
    refine tk (B1.old O2) (by omega) (by omega) (by have := S.n1; omega) fun j k3 d3 B3 C3 l3 => ?_
    have e3 := C3.at e2 (by omega)
    have eE3 := C3.at eE2 (by omega)
    refine menu_ix e3 (by omega) fx fw (by omega) (by omega) fun y hy hm => ?_
    unfold app
    simp only [eE3]
    rw [if_pos (by rw [List.length_map]; have := S.n1; omega)]
    try simp -implicitDefEqProofs
    refine ⟨⟨_, _, rfl⟩, (B3.set _ (by omega)).mono (by omega), ch_set ((C1.trans (O2.ch b)).trans C3) (Nat.le_refl _), ys ++ [y], by simp [ly], lefts_snoc Lf ly hy hm, ?_⟩
    rw [set_at eE3]
    simp [rowW]
  rintro r k ⟨⟨v7, v8, rfl⟩, B1, C1, ys, ly, Lf, eE⟩
  have K2 := K.ch B C1 hb
  have lk := C1.1
  obtain ⟨l1, l2, l3, l4, n1, n2, n3⟩ := K.lts
  have F := lefts_fil Lf ly
  simp -implicitDefEqProofs [o_tuple (lst_at eE)]
  have ek := app_at K2.at_ [Cell.tup (rowW ys), Cell.lst [], Cell.tup [.ref k.length, .ref (k.length + 1)]]
  refine put2 ek rfl (at_new (i := 2) rfl) ?_
  try simp -implicitDefEqProofs
  generalize hH : ((k ++ [Cell.tup (rowW ys), Cell.lst [], Cell.tup [.ref k.length, .ref (k.length + 1)]]).set kn (.lst [.ref dr, .ref k.length, .ref (k.length + 1), .ref sz, .bl torn])) = H3
  have lH : H3.length = k.length + 3 := by rw [← hH]; simp
  have FK3 : Fr [kn] k H3 := by rw [← hH]; exact ((Fr.refl [kn] k).app _).set _ (.inl (by simp))
  have F3 : Fr [b, kn] h H3 := ((Fr.of_ch C1).mono fun j hj _ => by simp at hj ⊢; omega).trans (FK3.mono fun j hj _ => by simp at hj ⊢; omega)
  have ek3 : H3[kn]? = some (.lst [.ref dr, .ref k.length, .ref (k.length + 1), .ref sz, .bl torn]) := by rw [← hH]; exact set_at ek
  have er3 : H3[k.length]? = some (.tup (rowW ys)) := by rw [← hH, List.getElem?_set_ne (by omega)]; exact at_new (i := 0) rfl
  have ep3 : H3[k.length + 1]? = some (.lst []) := by rw [← hH, List.getElem?_set_ne (by omega)]; exact at_new (i := 1) rfl
  have eE3 : H3[h.length]? = some (.lst (rowW ys)) := FK3.at eE (by simp; omega)
  have B3 : Box H3 b (c + n) := box_fr B1 FK3 (by simp; omega)
  rw [o_tuple (lst_at eE3)]
  try simp -implicitDefEqProofs
  have O4 := Old.app H3 [Cell.tup (rowW ys), Cell.tup [.str "cut", .ref H3.length]]
  have F4 := F3.app [Cell.tup (rowW ys), Cell.tup [.str "cut", .ref H3.length]]
  have M0 := mut_sub (N := [b, kn]) (mut_kn K B) (by simp)
  have D4 := K.drv.fr F4 M0 (by simp; omega) (by simp; have := K.n2; omega)
  have e5 : (H3 ++ [Cell.tup (rowW ys), Cell.tup [.str "cut", .ref H3.length]])[H3.length + 1]? = some (.tup [.str "cut", .ref H3.length]) := at_new (i := 1) rfl
  have R5 : RowAt (H3 ++ [Cell.tup (rowW ys), Cell.tup [.str "cut", .ref H3.length]]) H3.length ys := tup_at (at_new (i := 0) rfl)
  refine told_cut (p := H3.length) D4 (by first | exact e5 | (rw [lH] at e5 ⊢; exact e5)) (by omega) F R5 (lefts_all Lf) fun pe2 h5 A R6 => ?_
  have e6 : (h5 ++ [Cell.lst [.str "done", .non], Cell.lst [.str "done", .non]])[h5.length]? = some (.lst [.str "done", .non]) := at_new (i := 0) rfl
  have e7 : (h5 ++ [Cell.lst [.str "done", .non], Cell.lst [.str "done", .non]])[h5.length + 1]? = some (.lst [.str "done", .non]) := at_new (i := 1) rfl
  have ed := eq_done e6 e7 (d := .none) (fun _ => .non) rfl rfl (by simp [PyData.eqv])
  try simp -implicitDefEqProofs
  rw [ed]
  try simp -implicitDefEqProofs
  exact q _ (settled_turn K B hb F4 (app_at ek3 _) (tup_at (app_at er3 _)) (app_at ep3 _) (by omega) A R6 F ((B3.old O4).mono (by have := S.n1; omega)) _ L)
end
end K03
set_option Elab.async false
set_option autoImplicit false
set_option linter.all false
set_option maxRecDepth 100000
namespace K03
open Mini Lb
open PySem (Str PyData)
section
variable {h : MH} {b : Nat} {c : Int} {Q : W → MH → Prop} {X : XQ} {w : W}
variable {kn dr dk st st' pe pe' sz n m : Nat} {torn : Bool} {xs ys : List Nat} {ws : List (Nat × Nat)}
def s_ref : S :=
    (sSeq (sSet 5 (eIf (tBl (eBin gEq (eVar 2) (eC (.int 10)))) (Mini.eCall m__law_refused_write (aCons (eVar 0) (aCons (eVar 1) aNil))) (Mini.eCall m__law_refused_cut (aCons (eVar 0) (aCons (eVar 1) aNil)))))
    (sSeq (Mini.sIf (tBl (eBin gIs (eVar 5) (eC .non)))
    (sRet (eC (.bl true)))
    sNx)
    (sRet (Mini.eCall m__law_same (aCons (Mini.eCall m__law_told (aCons (eVar 4) (aCons (eBin gIx (eVar 5) (eC (.int 0))) (aCons (eVar 3) aNil)))) (aCons (eBin gIx (eVar 5) (eC (.int 1))) (aCons (eBin gIx (eVar 5) (eC (.int 2))) aNil)))))))
theorem turn_eq : b__law_turn = sSeq (sPar [2, 3, 4] (aCons (Mini.eCall m__law_take (aCons (eVar 0) (aCons (eC (.int 12)) aNil))) (aCons (eBin gEq (Mini.eCall m__law_take (aCons (eVar 0) (aCons (eC (.int 2)) aNil))) (eC (.int 0))) (aCons (eBin gIx (eVar 1) (eC (.int 0))) aNil))))
    (sSeq (Mini.sIf (tBl (eBin gGt (eVar 2) (eC (.int 9)))) s_ref sNx)
    (sSeq (Mini.sIf (tBl (eBin gEq (eVar 2) (eC (.int 9)))) s_cut sNx)
    (sSeq (Mini.sIf (tBl (eBin gGt (eVar 2) (eC (.int 6)))) s_sync sNx) s_write))) := rfl
theorem ret_then {QS : Fl → Env → MH → Prop} {XX : XS} {s : S} {r : Env} {P : MH → Prop} (z : (s r h).wp (retS fun w h' => w = .bl true ∧ P h') XX) (q : ∀ r h', P h' → QS (.rt (.bl true)) r h') : (s r h).wp QS XX := by
  refine z.imp (fun f r' h' y => ?_) fun _ _ _ _ x => x
  cases f with
  | nx => exact nomatch y.1
  | rt w => obtain ⟨rfl, p⟩ := (show w = .bl true ∧ P h' from y); exact q r' h' p
  | bk => exact y.elim
  | ct => exact y.elim
theorem turnQ_from {M : List Nat} {h1 h' : MH} {L : Nat} {c' : Int} (C : Ch b h h1) (T : TurnQ h1 b c' M kn dr n m torn L h') : TurnQ h b c' M kn dr n m torn L h' := by
  obtain ⟨⟨M', E, s⟩, f, B⟩ := T
  have := C.1
  exact ⟨⟨M', E, fun i hi => (s i hi).imp id fun z => by omega⟩, ((Fr.of_ch C).mono fun i hi _ => by rw [List.mem_singleton.mp hi]; exact List.mem_cons_self).trans f, B⟩
theorem KnE.mono {M : List Nat} {L L' : Nat} (E : KnE h M kn dr n m torn L) (hl : L ≤ L') : KnE h M kn dr n m torn L' := by
  obtain ⟨dk, st, st', pe, pe', sz, xs, ws, K, e, l⟩ := E
  exact ⟨dk, st, st', pe, pe', sz, xs, ws, K, e, by omega⟩
theorem TurnQ.mono {M : List Nat} {h' : MH} {L L' : Nat} {c c' : Int} (T : TurnQ h b c M kn dr n m torn L h') (hl : L ≤ L') (hc : c ≤ c') : TurnQ h b c' M kn dr n m torn L' h' := by
  obtain ⟨⟨M', E, s⟩, f, B⟩ := T
  exact ⟨⟨M', E.mono hl, s⟩, f, B.mono hc⟩
theorem turn_ {M : List Nat} {L : Nat} (E : KnE h M kn dr n m torn L) (hL : L < 50) (B : Box h b c) (hc : c < 800000) (hb : b ∉ M) (q : ∀ h', TurnQ h b (c + 40) M kn dr n m torn (L + 1) h' → Q (.bl true) h') : (m__law_turn [.ref b, .ref kn] h).wp Q X := by
  obtain ⟨dk, st, st', pe, pe', sz, xs, ws, K, rfl, lw⟩ := E
  have hb' : b ≠ kn ∧ b ≠ dr ∧ b ≠ pe ∧ b ≠ pe' := by simp at hb; omega
  unfold m__law_turn
  rw [wp_fn, turn_eq]
  refine ws_cut (TuA h b (c + 2) kn dr) ?_ ?_
  · simp -implicitDefEqProofs
    refine tk B (by decide) (by decide) (by omega) fun way h1 d1 B1 C1 l1 => ?_
    try simp -implicitDefEqProofs
    refine tk B1 (by decide) (by decide) (by omega) fun nd h2 d2 B2 C2 l2 => ?_
    have K2 := K.ch B (C1.trans C2) hb'
    simp -implicitDefEqProofs [o_ix K2.get, setAll]
    exact ⟨⟨way, _, _, _, _, _, _, _, _, by omega, rfl⟩, B2.mono, C1.trans C2⟩
  rintro r k ⟨⟨way, nd, u5, u6, u7, u8, u9, u10, u11, hw, rfl⟩, B1, C1⟩
  have K1 := K.ch B C1 hb'
  have fin : ∀ {L' : Nat} {c' : Int} {h' : MH}, TurnQ k b c' [kn, dr, pe, pe'] kn dr n m torn L' h' → L' ≤ L + 1 → c' ≤ c + 40 → Q (.bl true) h' := fun {L' c' h'} T l1 l2 => q h' ((turnQ_from C1 T).mono l1 l2)
  by_cases c9 : way = 10 ∨ way = 11
  · exact turn_ref (s1 := sNx) (L := L) c9 K1 lw (by omega) B1 (by omega) hb' fun h' T => fin T (by omega) (by omega)
  have n9 : ¬ ((9 : Int) < way) := by omega
  by_cases e9 : way = 9
  · subst e9
    have z := turn_cut (Q := fun w h' => w = .bl true ∧ TurnQ k b (c + 2 + 24) [kn, dr, pe, pe'] kn dr n m torn L h') (X := X) (way := 9) (nd := nd) (u5 := u5) (u6 := u6) (u7 := u7) (u8 := u8) (u9 := u9) (u10 := u10) (u11 := u11) K1 (by omega) B1 (by omega) hb' (fun h' T => ⟨rfl, T⟩)
    simp -implicitDefEqProofs
    exact ret_then z fun r' h' T => by simpa using fin T (by omega) (by omega)
  have n9' : ¬ ((way : Int) = 9) := by omega
  by_cases e7 : 6 < way
  · have e7' : (6 : Int) < way := by omega
    have z := turn_sync (Q := fun w h' => w = .bl true ∧ TurnQ k b (c + 2) [kn, dr, pe, pe'] kn dr n m torn L h') (X := X) (way := way) (nd := nd) (u5 := u5) (u6 := u6) (u7 := u7) (u8 := u8) (u9 := u9) (u10 := u10) (u11 := u11) K1 B1 hb' (fun h' T => ⟨rfl, T⟩)
    simp -implicitDefEqProofs [n9, n9', e7', e9, e7]
    exact ret_then z fun r' h' T => by simpa using fin T (by omega) (by omega)
  · have e7' : ¬ (6 : Int) < way := by omega
    have z := turn_write (L := L + 1) (Q := fun w h' => w = .bl true ∧ TurnQ k b (c + 2 + 5) [kn, dr, pe, pe'] kn dr n m torn (L + 1) h') (X := X) (way := way) (nd := nd) (u5 := u5) (u6 := u6) (u7 := u7) (u8 := u8) (u9 := u9) (u10 := u10) (u11 := u11) K1 (by omega) (by omega) B1 (by omega) hb' (fun h' T => ⟨rfl, T⟩)
    simp -implicitDefEqProofs [n9, n9', e7', e9, e7]
    exact ret_then z fun r' h' T => by simpa using fin T (by omega) (by omega)
end
end K03
set_option Elab.async false
set_option autoImplicit false
set_option linter.all false
set_option maxRecDepth 100000
namespace K03
open Mini Lb
open PySem (Str PyData)
section
variable {h : MH} {b : Nat} {c : Int} {Q : W → MH → Prop} {X : XQ} {w : W}
variable {kn dr dk st st' pe pe' sz n m : Nat} {torn : Bool} {xs ys : List Nat} {ws : List (Nat × Nat)}
theorem make_ {n m : Nat} (S : Sizes n m) (q : Q (.ref h.length) (h ++ [.ins 7 [("blocks", .int n), ("contents", .int m)]])) : (newIns 7 m_Disk___init__ [.int n, .int m] h).wp Q X := disk_ok (okB := okD) (okC := okD) (xB := 0) (xC := 1) S rfl rfl q
theorem neO_ {x y : W} (e : insOf x h = none) : neO eqFs x y h = gNe x y h := by unfold neO; rw [e]
theorem eqO_ {x y : W} (e : insOf x h = none) : eqO eqFs x y h = gEq x y h := by unfold eqO; rw [e]
theorem ins_disk {z n m : Nat} (D : DiskAt h z 7 n m) : insOf (.ref z) h = some 7 ∧ known (.ref z) h = true := by
  have D' : h[z]? = some (.ins 7 [("blocks", .int n), ("contents", .int m)]) := D
  unfold insOf Mini.known
  simp only [D']
  exact ⟨trivial, trivial⟩
theorem eqO_disk {z1 z2 n1 m1 n2 m2 : Nat} (D1 : DiskAt h z1 7 n1 m1) (D2 : DiskAt h z2 7 n2 m2) : eqO eqFs (.ref z1) (.ref z2) h = .ok (.bl (decide (n1 = n2) && decide (m1 = m2))) h := by
  have z := disk_eq (okB := okD) (okC := okD) (Q := fun w h' => w = .bl (decide (n1 = n2) && decide (m1 = m2)) ∧ h' = h) (X := fun _ _ _ => False) D1 D2 rfl rfl ⟨rfl, rfl⟩
  obtain ⟨a, h', e, rfl, rfl⟩ := z.toOk
  have e' : m_Disk___eq__ [.ref z1, .ref z2] h' = .ok (.bl (decide (n1 = n2) && decide (m1 = m2))) h' := e
  unfold eqO
  rw [(ins_disk D1).1]
  have ef : eqFs 7 = some m_Disk___eq__ := rfl
  simp only [ef, (ins_disk D2).2, if_true, e', R.quiet, R.bind]
structure BgA (h : MH) (b : Nat) (c : Int) (sz dk n m : Nat) (r : Env) (k : MH) : Prop where
  ex : ∃ (torn : Bool) (way p : Nat) (ys : List Nat) (u8 u9 u10 : Option W), way < 3 ∧ Fil n m ys ∧ RowAt k p ys ∧ h.length ≤ p ∧ r = [some (.ref b), some (.ref sz), some (.ref dk), some (.int n), some (.int m), some (.bl torn), some (.int way), some (.ref p), u8, u9, u10]
  box : Box k b c
  ch : Ch b h k
theorem begun_ (S : Sizes n m) (Z : SizAt h sz n m) (D : DiskAt h dk 7 n m) (B : Box h b c) (hc : c < 800000) (q : ∀ kn dr torn M h', KnE h' M kn dr n m torn 0 → (∀ i ∈ M, h.length ≤ i) → h.length ≤ kn → Ch b h h' → Box h' b (c + 40) → Q (.ref kn) h') : (m__law_begun [.ref b, .ref sz, .ref dk] h).wp Q X := by
  have lb := B.lt
  have nz : sz ≠ b := fun z => (box_mut B).tup' Z (by rw [z]; exact List.mem_singleton.mpr rfl)
  have nd : dk ≠ b := fun z => (box_mut B).disk D (by rw [z]; exact List.mem_singleton.mpr rfl)
  have e0 : ∀ (k : MH) (i : Int), eqO eqFs (.int i) (.int 0) k = .ok (.bl (decide (i = 0))) k := fun k i => by rw [eqO_ rfl, o_eqI]
  unfold m__law_begun
  rw [wp_fn]
  unfold b__law_begun
  rw [sSeq_assoc, sSeq_assoc]
  refine ws_cut (BgA h b (c + 2 + n) sz dk n m) ?_ ?_
  · simp -implicitDefEqProofs [o_unseq (seq_tup Z), ws_seq]
    refine tk B (by decide) (by decide) (by omega) fun x h1 d1 B1 C1 l1 => ?_
    simp -implicitDefEqProofs [e0]
    refine tk B1 (by decide) (by decide) (by omega) fun way h2 d2 B2 C2 l2 => ?_
    try simp -implicitDefEqProofs [setAll]
    have C12 := C1.trans C2
    refine wp_lc_n (by have := S.n1; omega) (fun i acc k => ∃ xs : List Nat, acc = rowW xs ∧ xs.length = i ∧ (∀ x ∈ xs, x < m) ∧ Box k b (c + 2 + i) ∧ Ch b h k ∧ h2.length < k.length) ⟨[], rfl, rfl, (by intro x hx; cases hx), (B2.app _).mono (by omega), C12.app _, by rw [List.length_append]; exact Nat.lt_succ_self _⟩ ?_ ?_
    · rintro i acc k hi e ⟨xs, rfl, lx, hx, B3, C3, ll⟩
      try simp -implicitDefEqProofs
      refine tk B3 (by have := S.m0; omega) (by have := S.m1; omega) (by have := S.n1; omega) fun x k4 d4 B4 C4 l4 => ?_
      have lc := C12.1
      have hb1 : h2.length ≠ b := by omega
      refine ⟨C4.at e hb1, xs ++ [x], by simp [rowW], by simp [lx], fun y hy => ?_, ?_, ?_, by first | omega | (rw [List.length_set]; omega)⟩
      · rcases List.mem_append.mp hy with z | z
        · exact hx y z
        · rw [List.mem_singleton.mp z]; omega
      · exact (B4.set _ hb1).mono (by omega)
      · exact ch_set (C3.trans C4) lc
    · rintro acc k e ⟨xs, rfl, lx, hx, B3, C3, ll⟩
      rw [o_tuple (lst_at e)]
      try simp -implicitDefEqProofs
      exact ⟨⟨decide (x = 0), way, k.length, xs, none, none, none, by omega, ⟨lx, hx⟩, tup_at (new_at _ _), C3.1, by simp⟩, B3.app _, C3.app _⟩
  rintro r k ⟨⟨torn, way, p, ys, u8, u9, u10, hw, F, R, lp, rfl⟩, B1, C1⟩
  have n1 := S.n1
  have n0 := S.n0
  have le1 := C1.1
  rw [ws_seq]
  simp -implicitDefEqProofs
  refine tk B1 (by decide) (by decide) (by omega) fun ow h2 d2 B2 C2 l2 => ?_
  try simp -implicitDefEqProofs
  refine tk B2 (by omega) (by omega) (by omega) fun at_ h3 d3 B3 C3 l3 => ?_
  try simp -implicitDefEqProofs
  refine tk B3 (by decide) (by decide) (by omega) fun mo h4 d4 B4 C4 l4 => ?_
  have C14 := C1.trans ((C2.trans C3).trans C4)
  have pb := row_nb B1 R
  have R4 : RowAt h4 p ys := R.kp ((C2.trans C3).trans C4).kp R.lt pb
  have lb4 := B4.lt
  try simp -implicitDefEqProofs
  rw [show (1 : Int) + (mo : Int) = ((1 + mo : Nat) : Int) by omega]
  refine odd_spec (way := ow) (at_ := at_) (more := 1 + mo) S (by omega) (by omega) (by omega) F R4 pb lb4 fun w h5 O5 I5 f5 Od => ?_
  have le4 := C14.1
  have D5 : DiskAt h5 dk 7 n m := (C14.at D nd |> fun (x : DiskAt h4 dk 7 n m) => x.old O5)
  try simp -implicitDefEqProofs
  have O5a := Old.app h5 [Cell.ins 8 []]
  refine opened_bad hw D5 (items_old O5a I5) ((con_old O5a I5.1).trans f5) fun t h6 lt O6 e6 => ?_
  try simp -implicitDefEqProofs
  have wk := I5.1
  refine same_spec (lo := h4.length) (b := b) (Od.up (O6.kp b)) e6 (fun p' hp' => ?_) fun h7 C7 hB => ?_
  · subst hp'
    have := known_lt wk
    omega
  have C47 : Ch b h4 h7 := ((((O5.trans O6).ch b).kp).trans C7 (Nat.le_refl _)).ch
  have B7 := hB _ (B4.old (O5.trans O6))
  have C17 := C14.trans C47
  have D7 : DiskAt h7 dk 7 n m := C17.at D nd
  have R7 : RowAt h7 p ys := R4.kp C47.kp R4.lt pb
  try simp -implicitDefEqProofs
  have O7a := Old.app h7 [Cell.ins 8 []]
  have R7a := R7.old O7a
  refine opened_ok hw D7 (R7a.items (by have := F.len; omega)) (F.con R7a) fun z pe t h8 O8 A8 ep lz lzp et => ?_
  have le7 := C17.1
  have D8 := D7.old O8
  have ns : neO eqFs (.str "made") (.str "made") h8 = .ok (.bl false) h8 := by rw [neO_ rfl, o_neS]; simp
  simp -implicitDefEqProofs [o_ix (seq_lst et), ns, A8.disk]
  refine make_ S ?_
  have O9 := Old.app h8 [Cell.ins 7 [("blocks", .int n), ("contents", .int m)]]
  rw [eqO_disk (D8.old O9) (show DiskAt _ h8.length 7 n m from new_at _ _)]
  simp -implicitDefEqProofs [o_ix (seq_lst (O9.at et))]
  have O10 := O9.trans (Old.app (h8 ++ [Cell.ins 7 [("blocks", .int n), ("contents", .int m)]]) [Cell.lst [], Cell.lst [.ref z, .ref p, .ref (h8.length + 1), .ref sz, .bl torn]])
  have O710 := O8.trans O10
  have lpe := lt_of_at ep
  have l78 := O8.1
  have Z8 : SizAt h8 sz n m := O8.at (C17.at Z nz)
  have g0 : ((h8 ++ [Cell.ins 7 [("blocks", .int n), ("contents", .int m)]]) ++ [Cell.lst [], Cell.lst [.ref z, .ref p, .ref (h8.length + 1), .ref sz, .bl torn]])[h8.length + 1]? = some (.lst []) := by
    have := at_new (h := h8) (t := [Cell.ins 7 [("blocks", .int n), ("contents", .int m)], Cell.lst [], Cell.lst [.ref z, .ref p, .ref (h8.length + 1), .ref sz, .bl torn]]) (i := 1) rfl
    simpa using this
  have g1 : ((h8 ++ [Cell.ins 7 [("blocks", .int n), ("contents", .int m)]]) ++ [Cell.lst [], Cell.lst [.ref z, .ref p, .ref (h8.length + 1), .ref sz, .bl torn]])[h8.length + 2]? = some (.lst [.ref z, .ref p, .ref (h8.length + 1), .ref sz, .bl torn]) := by
    have := at_new (h := h8) (t := [Cell.ins 7 [("blocks", .int n), ("contents", .int m)], Cell.lst [], Cell.lst [.ref z, .ref p, .ref (h8.length + 1), .ref sz, .bl torn]]) (i := 2) rfl
    simpa using this
  have KK : Kn ((h8 ++ [Cell.ins 7 [("blocks", .int n), ("contents", .int m)]]) ++ [Cell.lst [], Cell.lst [.ref z, .ref p, .ref (h8.length + 1), .ref sz, .bl torn]]) (h8.length + 2) z dk p p (h8.length + 1) pe sz n m torn ys [] :=
    ⟨g1, ⟨A8.old O10, D8.old O10, R7.old O710, wrs_nil (O10.at ep), F, S, fun w hw => nomatch hw⟩, R7.old O710, wrs_nil g0, Z8.old O10, by omega, by omega, by omega⟩
  have fin := q (h8.length + 2) z torn [h8.length + 2, z, h8.length + 1, pe] _ ⟨dk, p, p, h8.length + 1, pe, sz, ys, [], KK, rfl, Nat.le_refl _⟩ (fun i hi => by simp at hi; omega) (by omega) (C17.trans (O710.ch b)) ((B7.old O710).mono (by omega))
  simpa using fin
end
end K03
set_option Elab.async false
set_option autoImplicit false
set_option linter.all false
set_option maxRecDepth 100000
namespace K03
open Mini Lb
open PySem (Str PyData)
section
variable {h h0 : MH} {b : Nat} {c : Int} {Q : W → MH → Prop} {X : XQ} {w : W}
variable {kn dr n m L : Nat} {torn : Bool} {M : List Nat}
theorem KnE.fr {N : List Nat} {h' : MH} (E : KnE h M kn dr n m torn L) (F : Fr N h h') (Mt : Mut N h) (s : ∀ x ∈ M, x ∉ N) : KnE h' M kn dr n m torn L := by
  obtain ⟨dk, st, st', pe, pe', sz, xs, ws, K, rfl, l⟩ := E
  exact ⟨dk, st, st', pe, pe', sz, xs, ws, K.fr F Mt (s _ (by simp)) (s _ (by simp)) (s _ (by simp)) (s _ (by simp)), rfl, l⟩
theorem KnE.old {h' : MH} (E : KnE h M kn dr n m torn L) (O : Old h h') : KnE h' M kn dr n m torn L := E.fr (N := []) (Fr.of_old O) (fun _ hi => nomatch hi) (fun _ _ hx => nomatch hx)
theorem KnE.ch {h' : MH} (E : KnE h M kn dr n m torn L) (B : Box h b c) (C : Ch b h h') (hb : b ∉ M) : KnE h' M kn dr n m torn L := E.fr (Fr.of_ch C) (box_mut B) fun x hx z => hb (by rw [← List.mem_singleton.mp z]; exact hx)
theorem KnE.lts (E : KnE h M kn dr n m torn L) : ∀ x ∈ M, x < h.length := fun x hx => by
  obtain ⟨dk, st, st', pe, pe', sz, xs, ws, K, rfl, l⟩ := E
  obtain ⟨l1, l2, l3, l4, _⟩ := K.lts
  simp at hx
  omega
theorem KnE.mut (E : KnE h M kn dr n m torn L) (B : Box h b c) : Mut (b :: M) h := by
  obtain ⟨dk, st, st', pe, pe', sz, xs, ws, K, rfl, l⟩ := E
  exact mut_kn K B
structure Duo (h0 : MH) (b L D k1 k2 : Nat) (k : MH) : Prop where
  ex : ∃ M1 d1 n1 m1 t1 M2 d2 n2 m2 t2, KnE k M1 k1 d1 n1 m1 t1 L ∧ KnE k M2 k2 d2 n2 m2 t2 L ∧ (∀ x ∈ M1, x ∉ M2) ∧ D ∉ M1 ∧ D ∉ M2 ∧ b ∉ M1 ∧ b ∉ M2 ∧ (∀ x ∈ M1, h0.length ≤ x) ∧ ∀ x ∈ M2, h0.length ≤ x
theorem Duo.symm {D k1 k2 : Nat} {k : MH} (U : Duo h0 b L D k1 k2 k) : Duo h0 b L D k2 k1 k := by
  obtain ⟨M1, d1, n1, m1, t1, M2, d2, n2, m2, t2, a1, a2, a3, a4, a5, a6, a7, a8, a9⟩ := U
  exact ⟨M2, d2, n2, m2, t2, M1, d1, n1, m1, t1, a2, a1, fun x hx z => a3 x z hx, a5, a4, a7, a6, a9, a8⟩
structure RtQ (h0 : MH) (b : Nat) (c : Int) (L D k1 k2 : Nat) (h1 : MH) : Prop where
  duo : Duo h0 b L D k1 k2 h1
  box : Box h1 b c
  ls : h1[D]? = some (.lst [.ref k1, .ref k2])
  ch : Ch b h0 h1
def s_body : S :=
    (sSeq (sPar [8, 9] (aCons (eMethN 8 "pending" m_Drive_pending [] [] 0 0 (eBin gIx (eVar 7) (eC (.int 0))) aNil aNil) (aCons (eFn fList (aCons (eBin gIx (eVar 7) (eC (.int 2))) aNil)) aNil)))
    (Mini.sIf (Mini.tOr (Mini.tNot (tTru (Mini.eCall m__law_turn (aCons (eVar 0) (aCons (eVar 7) aNil))))) (Mini.tOr (Mini.tNot (tTru (Mini.eCall m__law_stands (aCons (eVar 0) (aCons (eVar 7) aNil))))) (tBl (eBin gNe (eVar 8) (eVar 9)))))
    (sRet (eC (.bl false)))
    sNx))
theorem body_ {D k1 k2 : Nat} {k : MH} {r1 r2 r3 r4 u6 u8 u9 : Option W} {XX : XS} {QS : Fl → Env → MH → Prop} {lsv : Cell} (U : Duo h0 b L D k1 k2 k) (hL : L < 40) (B : Box k b c) (hc : c < 700000) (ls : k[D]? = some lsv) (C0 : Ch b h0 k) (hD : D ≠ b) (hD0 : h0.length ≤ D) (lb0 : b < h0.length)
    (q : ∀ h1 v8 v9, Duo h0 b (L + 1) D k1 k2 h1 → Box h1 b (c + 42) → h1[D]? = some lsv → Ch b h0 h1 → QS .nx [some (.ref b), r1, r2, r3, r4, some (.ref D), u6, some (.ref k1), v8, v9] h1) :
    (s_body [some (.ref b), r1, r2, r3, r4, some (.ref D), u6, some (.ref k1), u8, u9] k).wp QS XX := by
  obtain ⟨M1, d1, n1, m1, t1, M2, d2, n2, m2, t2, E1, E2, a3, a4, a5, a6, a7, a8, a9⟩ := U
  have E1' := E1
  have lD := lt_of_at ls
  have lbk := B.lt
  have lc0 := C0.1
  obtain ⟨dk, st, st', pe, pe', sz, xs, ws, K, rfl, lw⟩ := E1'
  simp -implicitDefEqProofs [s_body, o_ix K.get]
  refine ⟨hasM_ K.drv.at_ rfl, ?_⟩
  refine pending_ K.drv.at_ K.drv.wrs fun as T => ?_
  have OA := Old.app k [Cell.lst (as.map .ref)]
  have KA := K.old OA
  obtain ⟨as2, e2, T2⟩ := KA.wrs
  simp -implicitDefEqProofs [o_ix KA.get, o_list (seq_lst e2), setAll]
  have OB := Old.app k [Cell.lst (as.map .ref), Cell.lst (as2.map .ref)]
  have W1 : Wrs (k ++ [Cell.lst (as.map .ref), Cell.lst (as2.map .ref)]) k.length ws := ⟨as, at_new (i := 0) rfl, T.keep fun a _ cc ee => app_at ee _⟩
  have W2 : Wrs (k ++ [Cell.lst (as.map .ref), Cell.lst (as2.map .ref)]) (k.length + 1) ws := ⟨as2, at_new (i := 1) rfl, T2.keep fun a _ cc ee => by have := app_at ee [Cell.lst (as2.map .ref)]; simpa using this⟩
  have EB := E1.old OB
  have BB := B.old OB
  have MB := EB.mut BB
  have E2B := E2.old OB
  have ls2 := OB.at ls
  have lts := E1.lts
  have lts2 := E2.lts
  have lB : (k ++ [Cell.lst (as.map .ref), Cell.lst (as2.map .ref)]).length = k.length + 2 := by simp
  revert W1 W2 EB BB MB E2B ls2 OB lB
  generalize (k ++ [Cell.lst (as.map .ref), Cell.lst (as2.map .ref)]) = kB
  intro OB W1 W2 EB BB MB E2B ls2 lB
  refine turn_ EB (by omega) BB (by omega) a6 fun h1 TQ => ?_
  try simp -implicitDefEqProofs
  obtain ⟨⟨M', E', sub⟩, fr, B1⟩ := TQ
  have lM : ∀ x ∈ [k1, d1, pe, pe'], x < k.length := lts
  have bM' : b ∉ M' := fun z => by
    rcases sub b z with y | y
    · exact a6 y
    · omega
  have E'' := E'
  obtain ⟨dk', st2, st2', pe2, pe2', sz', xs', ws', K', eM, lw'⟩ := E''
  subst eM
  have hb' : b ≠ k1 ∧ b ≠ d1 ∧ b ≠ pe2 ∧ b ≠ pe2' := by simp at bM'; omega
  refine stands_ K' (by omega) B1 (by omega) hb' fun h2 B2 C2 => ?_
  have nk : ∀ j, k.length ≤ j → j ∉ b :: [k1, d1, pe, pe'] := fun j hj z => by
    rcases List.mem_cons.mp z with y | y
    · omega
    · have := lM j y; omega
  have nb1 : k.length ∉ [b] := by simp; omega
  have nb2 : k.length + 1 ∉ [b] := by simp; omega
  have W1' := (W1.fr fr MB (nk _ (Nat.le_refl _))).fr (Fr.of_ch C2) (box_mut B1) nb1
  have W2' := (W2.fr fr MB (nk _ (Nat.le_succ _))).fr (Fr.of_ch C2) (box_mut B1) nb2
  simp -implicitDefEqProofs [ne_wrs W1' W2']
  have dj : ∀ x ∈ M2, x ∉ b :: [k1, d1, pe, pe'] := fun x hx z => by
    rcases List.mem_cons.mp z with y | y
    · exact a7 (by rw [← y]; exact hx)
    · exact a3 x y hx
  have E2' := (E2B.fr fr MB dj).ch B1 C2 a7
  have lsB := (C2.at (fr.at ls2 (fun z => by
    rcases List.mem_cons.mp z with y | y
    · exact hD y
    · exact a4 y)) hD)
  have lfr := fr.le
  have ch0 : Ch b h0 h2 := ⟨by have := C2.1; omega, fun i hi hn => by
    have o1 : i ∉ b :: [k1, d1, pe, pe'] := fun z => by
      rcases List.mem_cons.mp z with y | y
      · exact hn y
      · have := a8 i y; omega
    rw [C2.2 i (by omega) hn, fr.eq i (by omega) o1, OB.2 i (by omega), C0.2 i hi hn]⟩
  refine q h2 _ _ ⟨_, d1, n1, m1, t1, M2, d2, n2, m2, t2, E'.ch B1 C2 bM', KnE.mono E2' (Nat.le_succ _), fun x hx z => ?_, fun z => ?_, a5, bM', a7, fun x hx => ?_, a9⟩ (B2.mono (by omega)) lsB ch0
  · rcases sub x hx with y | y
    · exact a3 x y z
    · have := lts2 x z; omega
  · rcases sub D z with y | y
    · exact a4 y
    · omega
  · rcases sub x hx with y | y
    · exact a8 x y
    · omega
end
end K03
set_option Elab.async false
set_option autoImplicit false
set_option linter.all false
set_option maxRecDepth 100000
namespace K03
open Mini Lb
open PySem (Str PyData)
section
variable {h h0 : MH} {b : Nat} {c : Int} {Q : W → MH → Prop} {X : XQ} {w : W}
theorem right_eq : b__law_right = (sSeq (sPar [1, 2, 3] (aCons (Mini.eCall m__law_take (aCons (eVar 0) (aCons (eC (.int 2)) aNil))) (aCons (Mini.eCall m__law_sizes (aCons (eVar 0) aNil)) (aCons (Mini.eCall m__law_sizes (aCons (eVar 0) aNil)) aNil))))
    (sSeq (sSet 4 (eMake 7 m_Disk___init__ (aCons (eBin gIx (eVar 2) (eC (.int 0))) (aCons (eBin gIx (eVar 2) (eC (.int 1))) aNil))))
    (sSeq (sSet 5 (eLst (aCons (Mini.eCall m__law_begun (aCons (eVar 0) (aCons (eVar 2) (aCons (eVar 4) aNil)))) (aCons (eIf (tBl (eBin gEq (eVar 1) (eC (.int 0)))) (Mini.eCall m__law_begun (aCons (eVar 0) (aCons (eVar 2) (aCons (eVar 4) aNil)))) (Mini.eCall m__law_begun (aCons (eVar 0) (aCons (eVar 3) (aCons (eMake 7 m_Disk___init__ (aCons (eBin gIx (eVar 3) (eC (.int 0))) (aCons (eBin gIx (eVar 3) (eC (.int 1))) aNil))) aNil))))) aNil))))
    (sSeq (Mini.sIf (Mini.tOr (tBl (eBin gIs (eBin gIx (eVar 5) (eC (.int 0))) (eC .non))) (tBl (eBin gIs (eBin gIx (eVar 5) (eC (.int 1))) (eC .non))))
    (sRet (eC (.bl false)))
    sNx)
    (sSeq (Mini.sFor (Mini.iRng1 (eC (.int 20))) (gSet 6)
    (sSeq (sSet 7 (eBin gIx (eVar 5) (Mini.eCall m__law_take (aCons (eVar 0) (aCons (eC (.int 2)) aNil))))) s_body))
    (sRet (eAnd (Mini.eCall m__law_stands (aCons (eVar 0) (aCons (eBin gIx (eVar 5) (eC (.int 0))) aNil))) (Mini.eCall m__law_stands (aCons (eVar 0) (aCons (eBin gIx (eVar 5) (eC (.int 1))) aNil)))))))))) := rfl
structure RgI (h : MH) (b : Nat) (c : Int) (D k1 k2 : Nat) (r1 r2 r3 r4 : Option W) (L : Nat) (r : Env) (k : MH) : Prop where
  ex : ∃ u6 u7 u8 u9 : Option W, r = [some (.ref b), r1, r2, r3, r4, some (.ref D), u6, u7, u8, u9]
  rt : RtQ h b c L D k1 k2 k
  dne : D ≠ b
  dlo : h.length ≤ D
theorem duo_stands {D k1 k2 L : Nat} (U : Duo h0 b L D k1 k2 h) (hL : L < 100) (B : Box h b c) (hc : c < 900000) (q : ∀ h', Duo h0 b L D k1 k2 h' → Box h' b (c + 1) → Ch b h h' → Q (.bl true) h') : (m__law_stands [.ref b, .ref k1] h).wp Q X := by
  obtain ⟨M1, d1, n1, m1, t1, M2, d2, n2, m2, t2, E1, E2, a3, a4, a5, a6, a7, a8, a9⟩ := U
  have E1' := E1
  obtain ⟨dk, st, st', pe, pe', sz, xs, ws, K, rfl, lw⟩ := E1'
  have hb' : b ≠ k1 ∧ b ≠ d1 ∧ b ≠ pe ∧ b ≠ pe' := by simp at a6; omega
  refine stands_ K (by omega) B hc hb' fun h2 B2 C2 => ?_
  exact q h2 ⟨_, d1, n1, m1, t1, M2, d2, n2, m2, t2, E1.ch B C2 a6, E2.ch B C2 a7, a3, a4, a5, a6, a7, a8, a9⟩ B2 C2
theorem right_ (B : Box h b c) (hc : c < 100000) (q : ∀ h', Box h' b (c + 2000) → Ch b h h' → Q (.bl true) h') : (m__law_right [.ref b] h).wp Q X := by
  have lb := B.lt
  unfold m__law_right
  rw [wp_fn, right_eq]
  rw [sSeq_assoc, sSeq_assoc, sSeq_assoc]
  refine ws_cut (fun r k => ∃ D k1 k2 r1 r2 r3 r4, RgI h b (c + 200) D k1 k2 r1 r2 r3 r4 0 r k) ?_ ?_
  · simp -implicitDefEqProofs
    refine tk B (by decide) (by decide) (by omega) fun alike h1 d1 B1 C1 l1 => ?_
    try simp -implicitDefEqProofs
    refine sizes_spec B1 (by omega) fun z1 h2 n1 m1 S1 Z1 lz1 B2 C2 => ?_
    try simp -implicitDefEqProofs
    refine sizes_spec B2 (by omega) fun z2 h3 n2 m2 S2 Z2 lz2 B3 C3 => ?_
    have lb2 := B2.lt
    have lc1 := C1.1
    have lc2 := C2.1
    have lc3 := C3.1
    have Z13 := Z1.ch C3 (by omega)
    simp -implicitDefEqProofs [setAll, siz_ix0 Z13, siz_ix1 Z13]
    refine make_ S1 ?_
    have O4 := Old.app h3 [Cell.ins 7 [("blocks", .int n1), ("contents", .int m1)]]
    have D4 : DiskAt (h3 ++ [Cell.ins 7 [("blocks", .int n1), ("contents", .int m1)]]) h3.length 7 n1 m1 := new_at _ _
    have B4 := B3.old O4
    have C14 := ((C1.trans C2).trans C3).trans (O4.ch b)
    have Z14 := Z13.old O4
    have Z24 := Z2.old O4
    have l4 : (h3 ++ [Cell.ins 7 [("blocks", .int n1), ("contents", .int m1)]]).length = h3.length + 1 := by simp
    try simp -implicitDefEqProofs
    revert D4 B4 C14 Z14 Z24 l4
    generalize (h3 ++ [Cell.ins 7 [("blocks", .int n1), ("contents", .int m1)]]) = h4
    intro D4 B4 C14 Z14 Z24 l4
    refine begun_ S1 Z14 D4 B4 (by omega) fun k1 e1 t1 M1 h5 E1 s1 lk1 C5 B5 => ?_
    have lb4 := B4.lt
    have bM1 : b ∉ M1 := fun z => by have := s1 b z; omega
    have lc5 := C5.1
    have ltE1 := E1.lts
    have fin : ∀ {k2 e2 n3 m3 : Nat} {t2 : Bool} {M2 : List Nat} {h5' h6 : MH} {c6 : Int}, KnE h6 M2 k2 e2 n3 m3 t2 0 → (∀ x ∈ M2, h5.length ≤ x) → Ch b h5 h6 → Box h6 b c6 → c6 ≤ c + 200 → RtQ h b (c + 200) 0 h6.length k1 k2 (h6 ++ [Cell.lst [.ref k1, .ref k2]]) ∧ h6.length ≠ b ∧ h.length ≤ h6.length := fun {k2 e2 n3 m3 t2 M2 _ h6 c6} E2 s2 C6 B6 hc6 => by
      have lt2 := E2.lts
      have lc6 := C6.1
      have E16 := E1.ch B5 C6 bM1
      have O := Old.app h6 [Cell.lst [.ref k1, .ref k2]]
      have lb6 := B6.lt
      refine ⟨⟨⟨M1, e1, n1, m1, t1, M2, e2, n3, m3, t2, E16.old O, E2.old O, fun x hx z => ?_, fun z => ?_, fun z => ?_, bM1, fun z => ?_, fun x hx => ?_, fun x hx => ?_⟩, (B6.old O).mono hc6, new_at _ _, (C14.trans C5).trans (C6.trans (O.ch b))⟩, by omega, by omega⟩
      · have := ltE1 x hx; have := s2 x z; omega
      · have := ltE1 _ z; omega
      · have := lt2 _ z; omega
      · have := s2 b z; omega
      · have := s1 x hx; omega
      · have := s2 x hx; omega
    have D5 : DiskAt h5 h3.length 7 n1 m1 := C5.at D4 (by omega)
    have Z15 : SizAt h5 z1 n1 m1 := C5.at Z14 (by omega)
    have Z25 : SizAt h5 z2 n2 m2 := C5.at Z24 (by omega)
    try simp -implicitDefEqProofs
    split
    · refine begun_ S1 Z15 D5 B5 (by omega) fun k2 e2 t2 M2 h6 E2 s2 lk2 C6 B6 => ?_
      try simp -implicitDefEqProofs
      obtain ⟨f1, f2, f3⟩ := fin (h5' := h5) E2 s2 C6 B6 (by omega)
      exact ⟨_, k1, k2, _, _, _, _, ⟨⟨_, _, _, _, rfl⟩, f1, f2, f3⟩⟩
    · simp -implicitDefEqProofs [siz_ix0 Z25, siz_ix1 Z25]
      refine make_ S2 ?_
      have O6 := Old.app h5 [Cell.ins 7 [("blocks", .int n2), ("contents", .int m2)]]
      refine begun_ S2 (Z25.old O6) (show DiskAt _ h5.length 7 n2 m2 from new_at _ _) (B5.old O6) (by omega) fun k2 e2 t2 M2 h6 E2 s2 lk2 C6 B6 => ?_
      try simp -implicitDefEqProofs
      obtain ⟨f1, f2, f3⟩ := fin (h5' := h5) E2 (fun x hx => by have := s2 x hx; simp at this; omega) ((O6.ch b).trans C6) B6 (by omega)
      exact ⟨_, k1, k2, _, _, _, _, ⟨⟨_, _, _, _, rfl⟩, f1, f2, f3⟩⟩
  rintro r k ⟨D, k1, k2, r1, r2, r3, r4, ⟨u6, u7, u8, u9, rfl⟩, R, dne, dlo⟩
  rw [ws_seq]
  simp -implicitDefEqProofs [o_ix (seq_lst R.ls), ws_seq]
  rw [ws_for, o_rng1]
  simp -implicitDefEqProofs only [eC, wp_ok]
  refine ⟨by decide, ?_⟩
  refine ws_rng (n := 20) (fun i r k => RgI h b (c + 200 + 43 * i) D k1 k2 r1 r2 r3 r4 i r k) ⟨⟨_, _, _, _, rfl⟩, ⟨R.duo, R.box.mono (by omega), R.ls, R.ch⟩, dne, dlo⟩ ?_ ?_
  · rintro i r k hi ⟨⟨u6, u7, u8, u9, rfl⟩, R, dne, dlo⟩
    simp -implicitDefEqProofs
    refine tk R.box (by decide) (by decide) (by omega) fun j h2 d2 B2 C2 l2 => ?_
    have ls2 := C2.at R.ls dne
    have U2 : Duo h b i D k1 k2 h2 := by
      obtain ⟨M1, d1, n1, m1, t1, M2, d2', n2, m2, t2, E1, E2, a3, a4, a5, a6, a7, a8, a9⟩ := R.duo
      exact ⟨M1, d1, n1, m1, t1, M2, d2', n2, m2, t2, E1.ch R.box C2 a6, E2.ch R.box C2 a7, a3, a4, a5, a6, a7, a8, a9⟩
    have Ch2 := R.ch.trans C2
    rw [o_ix (seq_lst ls2)]
    have j2 : j = 0 ∨ j = 1 := by omega
    rcases j2 with rfl | rfl
    · rw [show ((0 : Nat) : Int) = 0 from rfl, item0]
      refine body_ U2 (by omega) B2 (by omega) ls2 Ch2 dne dlo lb fun h3 v8 v9 U3 B3 ls3 C3 => ?_
      exact ⟨⟨_, _, _, _, rfl⟩, ⟨U3, B3.mono (by omega), ls3, C3⟩, dne, dlo⟩
    · rw [show ((1 : Nat) : Int) = 1 from rfl, item1]
      refine body_ U2.symm (by omega) B2 (by omega) ls2 Ch2 dne dlo lb fun h3 v8 v9 U3 B3 ls3 C3 => ?_
      exact ⟨⟨_, _, _, _, rfl⟩, ⟨U3.symm, B3.mono (by omega), ls3, C3⟩, dne, dlo⟩
  · rintro r k ⟨⟨u6, u7, u8, u9, rfl⟩, R, dne, dlo⟩
    simp -implicitDefEqProofs [o_ix (seq_lst R.ls)]
    refine duo_stands R.duo (by omega) R.box (by omega) fun h2 U2 B2 C2 => ?_
    have ls2 := C2.at R.ls dne
    simp -implicitDefEqProofs [o_ix (seq_lst ls2)]
    refine duo_stands U2.symm (by omega) B2 (by omega) fun h3 U3 B3 C3 => ?_
    exact q h3 (B3.mono (by omega)) ((R.ch.trans C2).trans C3)
end
end K03
set_option Elab.async false
set_option autoImplicit false
set_option linter.all false
set_option maxRecDepth 100000
namespace K03
open Mini Lb
open PySem (Str PyData)
section
variable {h h0 : MH} {b : Nat} {c : Int} {Q : W → MH → Prop} {X : XQ} {w : W}
def wsOf (s i : Nat) : List (Nat × Nat) := (List.range i).map fun j => (j % 2, j * s % 64)
theorem wsOf_next {s i : Nat} : wsOf s (i + 1) = wsOf s i ++ [(i % 2, i * s % 64)] := by unfold wsOf; rw [List.range_succ, List.map_append]; rfl
theorem wsOf_len {s i : Nat} : (wsOf s i).length = i := by unfold wsOf; simp
theorem putA_two {xs : List Nat} {ws : List (Nat × Nat)} {x y : Nat} (hl : xs.length = 2) : putA xs (ws ++ [(0, x), (1, y)]) = [x, y] := by
  have e : putA xs (ws ++ [(0, x), (1, y)]) = ((putA xs ws).set 0 x).set 1 y := by unfold putA; rw [List.foldl_append]; rfl
  rw [e]
  have l : (putA xs ws).length = 2 := by rw [putA_len]; exact hl
  match putA xs ws, l with
  | [p, q], _ => rfl
theorem put_many {s : Nat} : putA [0, 0] (wsOf s 10000) = [9998 * s % 64, 9999 * s % 64] := by
  have e : wsOf s 10000 = wsOf s 9998 ++ [(0, 9998 * s % 64), (1, 9999 * s % 64)] := by
    rw [show (10000 : Nat) = 9998 + 1 + 1 from rfl, wsOf_next, wsOf_next, List.append_assoc]
    rfl
  rw [e]
  exact putA_two rfl
structure MyI (h : MH) (z dk st pe s : Nat) (r1 : Option W) (i : Nat) (r : Env) (k : MH) : Prop where
  ex : ∃ u3 u4 : Option W, r = [r1, some (.ref z), some (.int (s : Nat)), u3, u4]
  drv : Drv k z dk st pe 2 64 true [0, 0] (wsOf s i)
theorem many_loop {z dk st pe s : Nat} {r0 u3 u4 : Option W} {k : MH} {XX : XS} (hs : s < 64) (D : Drv k z dk st pe 2 64 true [0, 0] (wsOf s 0)) :
    ((Mini.sFor (Mini.iRng1 (eC (.int 10000))) (gSet 3)
    (sExpr (eMethN 8 "write" m_Drive_write [0, 1] [] 2 0 (eVar 1) (aCons (eBin gMod (eFn fInt (aCons (eVar 3) aNil)) (eC (.int 2))) (aCons (eBin gMod (eFn fInt (aCons (eBin gMulX (eVar 3) (eVar 2)) aNil)) (eC (.int 64))) aNil)) aNil))) [r0, some (.ref z), some (.int (s : Nat)), u3, u4] k).wp (fun f r1 h1 => f = .nx ∧ MyI h z dk st pe s r0 10000 r1 h1) XX := by
  have S : Sizes 2 64 := ⟨by decide, by decide, by decide, by decide⟩
  have F : Fil 2 64 [0, 0] := ⟨rfl, fun x hx => by simp at hx; omega⟩
  rw [ws_for, o_rng1]
  simp -implicitDefEqProofs only [eC, wp_ok]
  refine ⟨by decide, ?_⟩
  refine ws_rng (n := 10000) (MyI h z dk st pe s r0) ⟨⟨u3, u4, rfl⟩, D⟩ ?_ (fun r k I => ⟨rfl, I⟩)
  rintro i r k hi ⟨⟨u3, u4, rfl⟩, D⟩
  simp -implicitDefEqProofs
  refine ⟨hasM_ D.at_ rfl, mul_ok (small64 (by omega) (by omega)), ?_⟩
  have e1 : ((i : Int) % 2) = ((i % 2 : Nat) : Int) := by omega
  have e2 : ((i : Int) * s % 64) = ((i * s % 64 : Nat) : Int) := by
    rw [← Int.natCast_mul]
    omega
  rw [e1, e2]
  refine write_ok D (by omega) (by omega) (by rw [wsOf_len]; omega) fun as T e => ?_
  have Fp : Fr [pe] k ((k ++ [Cell.tup [nW (i % 2), nW (i * s % 64)]]).set pe (.lst ((as ++ [k.length]).map .ref))) := ((Fr.refl [pe] k).app _).set _ (.inl (by simp))
  have g1 : ((k ++ [Cell.tup [nW (i % 2), nW (i * s % 64)]]).set pe (.lst ((as ++ [k.length]).map .ref)))[pe]? = some (.lst ((as ++ [k.length]).map .ref)) := set_at (app_at e _)
  have g2 : ((k ++ [Cell.tup [nW (i % 2), nW (i * s % 64)]]).set pe (.lst ((as ++ [k.length]).map .ref)))[k.length]? = some (.tup [nW (i % 2), nW (i * s % 64)]) := by rw [List.getElem?_set_ne (by have := lt_of_at e; omega)]; exact new_at _ _
  have Mp : Mut [pe] k := fun j hj => by rw [List.mem_singleton.mp hj]; exact .inl ⟨_, e⟩
  have nz : z ≠ pe := by
    rintro rfl
    have := D.at_
    unfold DrvAt at this
    rw [this] at e
    cases e
  refine ⟨⟨_, _, rfl⟩, ⟨Fp.at D.at_ (by simp; omega), Fp.at D.disk (Mp.disk D.disk), row_fr D.row Fp Mp, ⟨_, g1, ?_⟩, F, S, fun w hw => ?_⟩⟩
  · rw [wsOf_next]
    exact (T.keep fun a _ cc ee => Fp.at ee (Mp.tup' ee)).snoc g2
  · rw [wsOf_next] at hw
    rcases List.mem_append.mp hw with y | y
    · exact D.okw w y
    · rw [List.mem_singleton.mp y]; exact ⟨by show i % 2 < 2; omega, by show i * s % 64 < 64; omega⟩
theorem many_make (B : Box h b c) (hc : c < 100000) {XX : XS} :
    ((sPar [1, 2] (aCons (eMakeN 8 m_Drive___init__ [0, 1, 2] [(.bl true)] 2 0 (aCons (eMake 7 m_Disk___init__ (aCons (eC (.int 2)) (aCons (eC (.int 64)) aNil))) (aCons (eTup (aCons (eC (.int 0)) (aCons (eC (.int 0)) aNil))) aNil)) aNil) (aCons (eBin gAddX (eC (.int 1)) (eBin gMulX (eC (.int 2)) (Mini.eCall m__law_take (aCons (eVar 0) (aCons (eC (.int 32)) aNil))))) aNil))) (begin_ 5 [.ref b]) h).wp (fun f r k => f = .nx ∧ ∃ z dk st pe s, s < 64 ∧ MyI h z dk st pe s (some (.ref b)) 0 r k) XX := by
  have lb := B.lt
  have S : Sizes 2 64 := ⟨by decide, by decide, by decide, by decide⟩
  have F : Fil 2 64 [0, 0] := ⟨rfl, fun x hx => by simp at hx; omega⟩
  simp -implicitDefEqProofs
  refine make_ S ?_
  have O1 := Old.app h [Cell.ins 7 [("blocks", .int 2), ("contents", .int 64)], Cell.tup [.int 0, .int 0]]
  have D1 : DiskAt (h ++ [Cell.ins 7 [("blocks", .int 2), ("contents", .int 64)], Cell.tup [.int 0, .int 0]]) h.length 7 2 64 := at_new (i := 0) rfl
  have R1 : RowAt (h ++ [Cell.ins 7 [("blocks", .int 2), ("contents", .int 64)], Cell.tup [.int 0, .int 0]]) (h.length + 1) [0, 0] := tup_at (at_new (i := 1) rfl)
  have l1 : (h ++ [Cell.ins 7 [("blocks", .int 2), ("contents", .int 64)], Cell.tup [.int 0, .int 0]]).length = h.length + 2 := by simp
  have B1 := B.old O1
  try simp -implicitDefEqProofs
  revert O1 D1 R1 l1 B1
  generalize (h ++ [Cell.ins 7 [("blocks", .int 2), ("contents", .int 64)], Cell.tup [.int 0, .int 0]]) = h1
  intro O1 D1 R1 l1 B1
  have Oa := Old.app h1 [Cell.ins 8 []]
  have Ra := R1.old Oa
  refine drive_ok D1 (Ra.items (by decide)) (F.con Ra) fun pe h2 O2 A2 ep lp => ?_
  refine tk (B1.old O2) (by decide) (by decide) (by omega) fun d h3 d3 B3 C3 l3 => ?_
  have nb : h1.length ≠ b := by have := B1.lt; omega
  have A3 : DrvAt h3 h1.length h.length (h.length + 1) pe true := C3.at A2 nb
  have ep3 := C3.at ep (by have := B1.lt; omega)
  have D3 : DiskAt h3 h.length 7 2 64 := C3.at (D1.old O2) (by omega)
  have R2 := R1.old O2
  have R3 : RowAt h3 (h.length + 1) [0, 0] := R2.kp C3.kp R2.lt (by omega)
  try simp -implicitDefEqProofs
  have DD : Drv h3 h1.length h.length (h.length + 1) pe 2 64 true [0, 0] [] := ⟨A3, D3, R3, wrs_nil ep3, F, S, fun w hw => nomatch hw⟩
  refine ⟨mul_ok (by decide), h1.length, h.length, h.length + 1, pe, 1 + 2 * d, by omega, ⟨⟨none, none, ?_⟩, DD⟩⟩
  rw [show ((1 + 2 * d : Nat) : Int) = 1 + 2 * (d : Int) by omega]
theorem many_end {z dk st pe s : Nat} {ws : List (Nat × Nat)} {u3 u4 : Option W} {k : MH} (D : Drv k z dk st pe 2 64 true [0, 0] ws) (hs : s < 64) (hw : putA [0, 0] ws = [9998 * s % 64, 9999 * s % 64]) (hl : ws.length = 10000) (q : ∀ h', Q (.bl true) h') :
    ((sSeq (sSet 4 (eTup (aCons (eBin gMod (eFn fInt (aCons (eBin gMulX (eC (.int 9998)) (eVar 2)) aNil)) (eC (.int 64))) (aCons (eBin gMod (eFn fInt (aCons (eBin gMulX (eC (.int 9999)) (eVar 2)) aNil)) (eC (.int 64))) aNil))))
    (sSeq (Mini.sIf (Mini.tOr (tBl (eBin gNe (eMethN 8 "filling" m_Drive_filling [] [] 0 0 (eVar 1) aNil aNil) (eVar 4))) (Mini.tOr (tBl (eBin gNe (eFn fLen (aCons (eMethN 8 "pending" m_Drive_pending [] [] 0 0 (eVar 1) aNil aNil) aNil)) (eC (.int 10000)))) (tBl (eBin gNe (eMethN 8 "settled" m_Drive_settled [] [] 0 0 (eVar 1) aNil aNil) (eTup (aCons (eC (.int 0)) (aCons (eC (.int 0)) aNil)))))))
    (sRet (eC (.bl false)))
    sNx)
    (sRet (eAnd (eBin gEq (eMethN 8 "sync" m_Drive_sync [] [] 0 0 (eVar 1) aNil aNil) (eC (.int 10000))) (eAnd (eBin gEq (eMethN 8 "settled" m_Drive_settled [] [] 0 0 (eVar 1) aNil aNil) (eVar 4)) (eBin gEq (eMethN 8 "pending" m_Drive_pending [] [] 0 0 (eVar 1) aNil aNil) (eLst aNil))))))) [some (.ref b), some (.ref z), some (.int (s : Nat)), u3, u4] k).wp (retS Q) (fun c d _ h1 => X c d h1) := by
  have m1 : mulOk 9998 s = true := mul_ok (by decide)
  have m2 : mulOk 9999 s = true := mul_ok (by decide)
  have v1 : ((9998 : Int) * s % 64) = ((9998 * s % 64 : Nat) : Int) := by omega
  have v2 : ((9999 : Int) * s % 64) = ((9999 * s % 64 : Nat) : Int) := by omega
  generalize hx : 9998 * s % 64 = x at hw v1
  generalize hy : 9999 * s % 64 = y at hw v2
  simp -implicitDefEqProofs [m1, m2, v1, v2, ws_seq]
  have O1 := Old.app k [Cell.tup [.int (x : Nat), .int (y : Nat)]]
  have RL : RowAt (k ++ [Cell.tup [.int (x : Nat), .int (y : Nat)]]) k.length [x, y] := tup_at (new_at _ _)
  have D1 := D.old O1
  refine ⟨hasM_ D1.at_ rfl, ?_⟩
  refine filling_ D1 fun z2 h2 O2 R2 lz => ?_
  rw [hw] at R2
  have D2 := D1.old O2
  have RL2 := RL.old O2
  simp -implicitDefEqProofs [ne_rows R2 RL2]
  refine ⟨hasM_ D2.at_ rfl, ?_⟩
  refine pending_ D2.at_ D2.wrs fun as T => ?_
  have eL : (h2 ++ [Cell.lst (as.map .ref)])[h2.length]? = some (.lst (as.map .ref)) := new_at _ _
  have la : ((as.map W.ref).length : Int) = 10000 := by rw [List.length_map, T.len, hl]; rfl
  rw [o_len (seq_lst eL), la]
  have D3 := D2.old (Old.app h2 [Cell.lst (as.map .ref)])
  have RL3 := RL2.old (Old.app h2 [Cell.lst (as.map .ref)])
  revert D3 RL3
  generalize (h2 ++ [Cell.lst (as.map .ref)]) = h3
  intro D3 RL3
  try simp -implicitDefEqProofs
  refine ⟨hasM_ D3.at_ rfl, ?_⟩
  refine settled_ D3.at_ ?_
  have O4 := Old.app h3 [Cell.tup [.int 0, .int 0]]
  have R0 : RowAt (h3 ++ [Cell.tup [.int 0, .int 0]]) h3.length [0, 0] := tup_at (new_at _ _)
  have D4 := D3.old O4
  have RL4 := RL3.old O4
  have n4 := ne_rows D4.row R0
  try simp -implicitDefEqProofs
  rw [n4]
  revert D4 RL4
  generalize (h3 ++ [Cell.tup [.int 0, .int 0]]) = h4
  intro D4 RL4
  try simp -implicitDefEqProofs
  refine ⟨hasM_ D4.at_ rfl, ?_⟩
  refine sync_ D4 fun st2 pe2 h5 A R5 => ?_
  rw [hw] at R5
  have Mz : Mut [z] h4 := fun j hj => by rw [List.mem_singleton.mp hj]; exact .inr ⟨_, D4.at_⟩
  have RL5 := row_fr RL4 A.fr Mz
  have lw : ((ws.length : Nat) : Int) = 10000 := by rw [hl]; rfl
  rw [lw]
  try simp -implicitDefEqProofs
  refine ⟨hasM_ A.at_ rfl, ?_⟩
  refine settled_ A.at_ ?_
  simp -implicitDefEqProofs [eq_rows R5 RL5]
  refine ⟨hasM_ A.at_ rfl, ?_⟩
  refine pending_ A.at_ (wrs_nil A.pe0) fun as2 T2 => ?_
  have W1 : Wrs (h5 ++ [Cell.lst (as2.map .ref), Cell.lst []]) h5.length [] := ⟨as2, at_new (i := 0) rfl, T2.keep fun a _ cc ee => app_at ee _⟩
  have W2 : Wrs (h5 ++ [Cell.lst (as2.map .ref), Cell.lst []]) (h5.length + 1) [] := wrs_nil (at_new (i := 1) rfl)
  have ee := eq_wrs W1 W2
  try simp -implicitDefEqProofs
  rw [ee]
  try simp -implicitDefEqProofs
  exact q _
theorem many_ (B : Box h b c) (hc : c < 100000) (q : ∀ h', Q (.bl true) h') : (m__law_many_right [.ref b] h).wp Q X := by
  unfold m__law_many_right
  rw [wp_fn]
  unfold b__law_many_right
  refine ws_cut (fun r k => ∃ z dk st pe s, s < 64 ∧ MyI h z dk st pe s (some (.ref b)) 0 r k) (many_make B hc) ?_
  rintro r k ⟨z, dk, st, pe, s, hs, ⟨u3, u4, rfl⟩, D⟩
  refine ws_cut (MyI h z dk st pe s (some (.ref b)) 10000) (many_loop hs D) ?_
  rintro r k ⟨⟨u3, u4, rfl⟩, D⟩
  exact many_end D hs put_many wsOf_len q
end
end K03
set_option Elab.async false
set_option autoImplicit false
set_option linter.all false
set_option maxRecDepth 100000
namespace K03
open Mini Lb
structure LawI (ns : List Int) (g : W) (r : Env) (h : MH) : Prop where
  ex : ∃ u : Option W, r = [some (.ref 0), some g, u] ∧ Scr h 0 ns
structure LawG (ns : List Int) (r : Env) (h : MH) : Prop where
  ex : ∃ (g : Bool) (u : Option W), r = [some (.ref 0), some (.bl g), u] ∧ Scr h 0 ns
theorem law_right (ns : List Int) (c : Cell) (hl : ns.length ≤ 63) (hc : Br.Script ns c) : ∃ h, m_law [.ref 0] [c] = .ok (.bl true) h := by
  have main : (m_law [.ref 0] [c]).wp (fun w _ => w = .bl true) (fun _ _ _ => False) := by
    have S0 : Scr [c] 0 ns := by
      rcases hc with rfl | rfl
      · exact .inl rfl
      · exact .inr rfl
    unfold m_law
    rw [wp_fn]
    unfold b_law
    refine ws_cut (LawG ns) ?_ ?_
    · simp -implicitDefEqProofs
      refine cell_spec (k := 0) (k0 := 3) S0 (by decide) fun v h1 O1 => ?_
      have l1 := O1.1
      have S1 : Scr h1 0 ns := S0.kp (O1.kp [c].length) (by simp) (by simp)
      have dv : divOk v 11 = true := div_ok (by decide) (div9000 (by decide))
      simp -implicitDefEqProofs [dv]
      refine box_spec fun h2 B2 O2 l2 => ?_
      have s1 := S1.lt
      have S2 : Scr h2 0 ns := S1.kp (O2.kp h1.length) s1 (by omega)
      try simp -implicitDefEqProofs
      refine take_spec (k0 := 49979687) B2 (by decide) (by decide) (by decide) (by decide) (by decide) fun d h3 d3 B3 C3 l3 => ?_
      try simp -implicitDefEqProofs
      exact ⟨decide ((d : Int) = 7), none, by simp, S2.kp C3.kp (by omega) (by omega)⟩
    rintro r h ⟨g, u, rfl, S⟩
    rw [ws_seq, ws_for]
    simp -implicitDefEqProofs [o_rng1, o_len S.seq]
    have ln : ∃ n : Nat, (if (1 : Int) < (if (ns.length : Int) < 4 then (ns.length : Int) else 4) then (if (ns.length : Int) < 4 then (ns.length : Int) else 4) else 1) = (n : Int) ∧ n ≤ 4 := by
      refine ⟨if 1 < (if ns.length < 4 then ns.length else 4) then (if ns.length < 4 then ns.length else 4) else 1, ?_, ?_⟩
      · split <;> split <;> (try split) <;> (try split) <;> omega
      · split <;> (try split) <;> omega
    obtain ⟨n, en, n6⟩ := ln
    rw [en]
    refine ⟨by simp [rOk]; omega, ?_⟩
    refine ws_rng (fun _ r h => LawI ns (.bl g) r h) ⟨_, rfl, S⟩ ?_ ?_
    · rintro i r h hi ⟨u, rfl, S⟩
      have s0 := S.lt
      simp -implicitDefEqProofs
      refine cell_spec (k0 := 3) S (by simp at hi; omega) fun v h1 O1 => ?_
      refine box_spec fun h2 B2 O2 l2 => ?_
      have l1 := O1.1
      have S2 : Scr h2 0 ns := S.kp ((O1.trans O2).kp h1.length) s0 (by omega)
      refine right_ B2 (by decide) fun h3 B3 C3 => ?_
      simp -implicitDefEqProofs
      exact ⟨_, rfl, S2.kp C3.kp (by have := B2.lt; omega) (by omega)⟩
    · rintro r h ⟨u, rfl, S⟩
      simp -implicitDefEqProofs
      cases g with
      | false => simp -implicitDefEqProofs
      | true =>
        simp -implicitDefEqProofs
        refine cell_spec (k := 1) (k0 := 3) S (by decide) fun v h1 O1 => ?_
        refine box_spec fun h2 B2 O2 l2 => ?_
        exact many_ B2 (by decide) fun h3 => rfl
  obtain ⟨w, h, e, rfl⟩ := main.toOk
  exact ⟨h, e⟩
end K03
set_option Elab.async false
set_option linter.all false
set_option autoImplicit false
set_option maxRecDepth 100000
set_option maxHeartbeats 2100000
namespace K03
open PySem PySem.Spec PyProof.Rows L2 Mini Br
def top (i : Nat) : Stmt := PySem.Challenge.pw_leastspare_k03_drives.main.body.getD i (.Pass ⟨0, 0, 0, 0⟩)
abbrev s_is_whole : Stmt := top 11
theorem sc_is_whole : FnScope ["value"] ["value"] (defScope s_is_whole) := ⟨rfl, rfl, rfl, by decide +kernel, rfl, by decide +kernel, by decide +kernel⟩
abbrev s_is_between : Stmt := top 12
theorem sc_is_between : FnScope ["value", "least", "most"] ["value", "least", "most"] (defScope s_is_between) := ⟨rfl, rfl, rfl, by decide +kernel, rfl, by decide +kernel, by decide +kernel⟩
abbrev s_is_tuple_of : Stmt := top 13
theorem sc_is_tuple_of : FnScope ["value", "many"] ["value", "many"] (defScope s_is_tuple_of) := ⟨rfl, rfl, rfl, by decide +kernel, rfl, by decide +kernel, by decide +kernel⟩
abbrev s_is_contents : Stmt := top 14
theorem sc_is_contents : FnScope ["value", "many", "contents", "one"] ["value", "many", "contents"] (defScope s_is_contents) := ⟨rfl, rfl, rfl, by decide +kernel, rfl, by decide +kernel, by decide +kernel⟩
abbrev s_Disk___init__ : Stmt := inClass (top 18) 0
theorem sc_Disk___init__ : FnScope ["self", "blocks", "contents"] ["self", "blocks", "contents"] (defScope s_Disk___init__) := ⟨rfl, rfl, rfl, by decide +kernel, rfl, by decide +kernel, by decide +kernel⟩
abbrev s_Disk___eq__ : Stmt := inClass (top 18) 1
theorem sc_Disk___eq__ : FnScope ["self", "other"] ["self", "other"] (defScope s_Disk___eq__) := ⟨rfl, rfl, rfl, by decide +kernel, rfl, by decide +kernel, by decide +kernel⟩
abbrev s_figures : Stmt := top 19
theorem sc_figures : FnScope ["number", "base", "many", "found", "_"] ["number", "base", "many"] (defScope s_figures) := ⟨rfl, rfl, rfl, by decide +kernel, rfl, by decide +kernel, by decide +kernel⟩
abbrev s_is_block : Stmt := top 20
theorem sc_is_block : FnScope ["disk", "value"] ["disk", "value"] (defScope s_is_block) := ⟨rfl, rfl, rfl, by decide +kernel, rfl, by decide +kernel, by decide +kernel⟩
abbrev s_is_content : Stmt := top 21
theorem sc_is_content : FnScope ["disk", "value"] ["disk", "value"] (defScope s_is_content) := ⟨rfl, rfl, rfl, by decide +kernel, rfl, by decide +kernel, by decide +kernel⟩
abbrev s_is_filling : Stmt := top 22
theorem sc_is_filling : FnScope ["disk", "value"] ["disk", "value"] (defScope s_is_filling) := ⟨rfl, rfl, rfl, by decide +kernel, rfl, by decide +kernel, by decide +kernel⟩
abbrev s_check_filling : Stmt := top 23
theorem sc_check_filling : FnScope ["disk", "filling"] ["disk", "filling"] (defScope s_check_filling) := ⟨rfl, rfl, rfl, by decide +kernel, rfl, by decide +kernel, by decide +kernel⟩
abbrev s_after : Stmt := top 25
theorem sc_after : FnScope ["filling", "writes", "found", "block", "content"] ["filling", "writes"] (defScope s_after) := ⟨rfl, rfl, rfl, by decide +kernel, rfl, by decide +kernel, by decide +kernel⟩
abbrev s_menus : Stmt := top 26
theorem sc_menus : FnScope ["disk", "filling", "writes", "torn", "found", "content", "block", "row"] ["disk", "filling", "writes", "torn"] (defScope s_menus) := ⟨rfl, rfl, rfl, by decide +kernel, rfl, by decide +kernel, by decide +kernel⟩
abbrev s_left_count : Stmt := top 27
theorem sc_left_count : FnScope ["disk", "filling", "writes", "torn", "found", "row"] ["disk", "filling", "writes", "torn"] (defScope s_left_count) := ⟨rfl, rfl, rfl, by decide +kernel, rfl, by decide +kernel, by decide +kernel⟩
abbrev s_left_numbers : Stmt := top 28
theorem sc_left_numbers : FnScope ["disk", "filling", "writes", "torn", "found", "row", "number", "content"] ["disk", "filling", "writes", "torn"] (defScope s_left_numbers) := ⟨rfl, rfl, rfl, by decide +kernel, rfl, by decide +kernel, by decide +kernel⟩
abbrev s_Drive___init__ : Stmt := inClass (top 29) 0
theorem sc_Drive___init__ : FnScope ["self", "disk", "filling", "torn"] ["self", "disk", "filling", "torn"] (defScope s_Drive___init__) := ⟨rfl, rfl, rfl, by decide +kernel, rfl, by decide +kernel, by decide +kernel⟩
abbrev s_Drive_write : Stmt := inClass (top 29) 1
theorem sc_Drive_write : FnScope ["self", "block", "content"] ["self", "block", "content"] (defScope s_Drive_write) := ⟨rfl, rfl, rfl, by decide +kernel, rfl, by decide +kernel, by decide +kernel⟩
abbrev s_Drive_pending : Stmt := inClass (top 29) 3
theorem sc_Drive_pending : FnScope ["self"] ["self"] (defScope s_Drive_pending) := ⟨rfl, rfl, rfl, by decide +kernel, rfl, by decide +kernel, by decide +kernel⟩
abbrev s_Drive_settled : Stmt := inClass (top 29) 4
theorem sc_Drive_settled : FnScope ["self"] ["self"] (defScope s_Drive_settled) := ⟨rfl, rfl, rfl, by decide +kernel, rfl, by decide +kernel, by decide +kernel⟩
abbrev s_Drive_filling : Stmt := inClass (top 29) 5
theorem sc_Drive_filling : FnScope ["self"] ["self"] (defScope s_Drive_filling) := ⟨rfl, rfl, rfl, by decide +kernel, rfl, by decide +kernel, by decide +kernel⟩
abbrev s_Drive_sync : Stmt := inClass (top 29) 2
theorem sc_Drive_sync : FnScope ["self", "done"] ["self"] (defScope s_Drive_sync) := ⟨rfl, rfl, rfl, by decide +kernel, rfl, by decide +kernel, by decide +kernel⟩
abbrev s_Drive_left : Stmt := inClass (top 29) 6
theorem sc_Drive_left : FnScope ["self", "many", "numbers", "number"] ["self"] (defScope s_Drive_left) := ⟨rfl, rfl, rfl, by decide +kernel, rfl, by decide +kernel, by decide +kernel⟩
abbrev s_Drive_may_leave : Stmt := inClass (top 29) 7
theorem sc_Drive_may_leave : FnScope ["self", "value", "rows", "content", "row"] ["self", "value"] (defScope s_Drive_may_leave) := ⟨rfl, rfl, rfl, by decide +kernel, rfl, by decide +kernel, by decide +kernel⟩
abbrev s_Drive_cut : Stmt := inClass (top 29) 8
theorem sc_Drive_cut : FnScope ["self", "filling"] ["self", "filling"] (defScope s_Drive_cut) := ⟨rfl, rfl, rfl, by decide +kernel, rfl, by decide +kernel, by decide +kernel⟩
abbrev s__law_cell : Stmt := top 31
theorem sc__law_cell : FnScope ["script", "k"] ["script", "k"] (defScope s__law_cell) := ⟨rfl, rfl, rfl, by decide +kernel, rfl, by decide +kernel, by decide +kernel⟩
abbrev s__law_box : Stmt := top 32
theorem sc__law_box : FnScope ["great"] ["great"] (defScope s__law_box) := ⟨rfl, rfl, rfl, by decide +kernel, rfl, by decide +kernel, by decide +kernel⟩
abbrev s__law_take : Stmt := top 33
theorem sc__law_take : FnScope ["box", "many", "digit", "mixed"] ["box", "many"] (defScope s__law_take) := ⟨rfl, rfl, rfl, by decide +kernel, rfl, by decide +kernel, by decide +kernel⟩
abbrev s__law_sizes : Stmt := top 34
theorem sc__law_sizes : FnScope ["box", "way", "contents"] ["box"] (defScope s__law_sizes) := ⟨rfl, rfl, rfl, by decide +kernel, rfl, by decide +kernel, by decide +kernel⟩
abbrev s__law_odd_filling : Stmt := top 35
theorem sc__law_odd_filling : FnScope ["way", "at", "filling", "contents", "more", "odd"] ["way", "at", "filling", "contents", "more"] (defScope s__law_odd_filling) := ⟨rfl, rfl, rfl, by decide +kernel, rfl, by decide +kernel, by decide +kernel⟩
abbrev s__law_same : Stmt := top 36
theorem sc__law_same : FnScope ["told", "word", "passed"] ["told", "word", "passed"] (defScope s__law_same) := ⟨rfl, rfl, rfl, by decide +kernel, rfl, by decide +kernel, by decide +kernel⟩
abbrev s__law_put : Stmt := top 37
theorem sc__law_put : FnScope ["filling", "writes", "found", "block", "content"] ["filling", "writes"] (defScope s__law_put) := ⟨rfl, rfl, rfl, by decide +kernel, rfl, by decide +kernel, by decide +kernel⟩
abbrev s__law_opened : Stmt := top 38
theorem sc__law_opened : FnScope ["way", "disk", "filling", "torn", "e"] ["way", "disk", "filling", "torn"] (defScope s__law_opened) := ⟨rfl, rfl, rfl, by decide +kernel, rfl, by decide +kernel, by decide +kernel⟩
abbrev s__law_told : Stmt := top 39
theorem sc__law_told : FnScope ["drive", "deed", "named", "e"] ["drive", "deed", "named"] (defScope s__law_told) := ⟨rfl, rfl, rfl, by decide +kernel, rfl, by decide +kernel, by decide +kernel⟩
abbrev s__law_stands : Stmt := top 40
theorem sc__law_stands : FnScope ["box", "known", "drive", "settled", "pending", "first", "turn", "which", "told", "one"] ["box", "known"] (defScope s__law_stands) := ⟨rfl, rfl, rfl, by decide +kernel, rfl, by decide +kernel, by decide +kernel⟩
abbrev s__law_menu : Stmt := top 41
theorem sc__law_menu : FnScope ["known", "block", "mine", "at", "content"] ["known", "block"] (defScope s__law_menu) := ⟨rfl, rfl, rfl, by decide +kernel, rfl, by decide +kernel, by decide +kernel⟩
abbrev s__law_write : Stmt := top 42
theorem sc__law_write : FnScope ["box", "known", "blocks", "contents", "block", "way"] ["box", "known"] (defScope s__law_write) := ⟨rfl, rfl, rfl, by decide +kernel, rfl, by decide +kernel, by decide +kernel⟩
abbrev s__law_refused_write : Stmt := top 43
theorem sc__law_refused_write : FnScope ["box", "known", "blocks", "contents", "spoilt", "first", "second", "more", "odd", "other", "block", "content"] ["box", "known"] (defScope s__law_refused_write) := ⟨rfl, rfl, rfl, by decide +kernel, rfl, by decide +kernel, by decide +kernel⟩
abbrev s__law_refused_cut : Stmt := top 44
theorem sc__law_refused_cut : FnScope ["box", "known", "blocks", "contents", "at", "way", "more", "left", "block", "odd", "menu", "others", "content", "value"] ["box", "known"] (defScope s__law_refused_cut) := ⟨rfl, rfl, rfl, by decide +kernel, rfl, by decide +kernel, by decide +kernel⟩
abbrev s__law_turn : Stmt := top 45
theorem sc__law_turn : FnScope ["box", "known", "way", "named", "drive", "row", "leaves", "block", "menu", "due", "told", "deed"] ["box", "known"] (defScope s__law_turn) := ⟨rfl, rfl, rfl, by decide +kernel, rfl, by decide +kernel, by decide +kernel⟩
abbrev s__law_begun : Stmt := top 46
theorem sc__law_begun : FnScope ["box", "sizes", "disk", "blocks", "contents", "torn", "way", "filling", "k", "odd", "told"] ["box", "sizes", "disk"] (defScope s__law_begun) := ⟨rfl, rfl, rfl, by decide +kernel, rfl, by decide +kernel, by decide +kernel⟩
abbrev s__law_right : Stmt := top 47
theorem sc__law_right : FnScope ["box", "alike", "one", "other", "disk", "drives", "turn", "known", "held", "kept"] ["box"] (defScope s__law_right) := ⟨rfl, rfl, rfl, by decide +kernel, rfl, by decide +kernel, by decide +kernel⟩
abbrev s__law_many_right : Stmt := top 48
theorem sc__law_many_right : FnScope ["box", "drive", "step", "k", "last"] ["box"] (defScope s__law_many_right) := ⟨rfl, rfl, rfl, by decide +kernel, rfl, by decide +kernel, by decide +kernel⟩
abbrev s_law : Stmt := top 49
theorem sc_law : FnScope ["script", "great", "k"] ["script"] (defScope s_law) := ⟨rfl, rfl, rfl, by decide +kernel, rfl, by decide +kernel, by decide +kernel⟩
abbrev s_InvalidBlocks : Stmt := inClass (top 2) 0
theorem sc_InvalidBlocks : FnScope ["self", "given"] ["self", "given"] (defScope s_InvalidBlocks) := ⟨rfl, rfl, rfl, by decide +kernel, rfl, by decide +kernel, by decide +kernel⟩
abbrev s_InvalidContents : Stmt := inClass (top 3) 0
theorem sc_InvalidContents : FnScope ["self", "given"] ["self", "given"] (defScope s_InvalidContents) := ⟨rfl, rfl, rfl, by decide +kernel, rfl, by decide +kernel, by decide +kernel⟩
abbrev s_InvalidFilling : Stmt := inClass (top 4) 0
theorem sc_InvalidFilling : FnScope ["self", "given"] ["self", "given"] (defScope s_InvalidFilling) := ⟨rfl, rfl, rfl, by decide +kernel, rfl, by decide +kernel, by decide +kernel⟩
abbrev s_InvalidBlock : Stmt := inClass (top 5) 0
theorem sc_InvalidBlock : FnScope ["self", "given"] ["self", "given"] (defScope s_InvalidBlock) := ⟨rfl, rfl, rfl, by decide +kernel, rfl, by decide +kernel, by decide +kernel⟩
abbrev s_InvalidContent : Stmt := inClass (top 6) 0
theorem sc_InvalidContent : FnScope ["self", "given"] ["self", "given"] (defScope s_InvalidContent) := ⟨rfl, rfl, rfl, by decide +kernel, rfl, by decide +kernel, by decide +kernel⟩
abbrev s_TooMany : Stmt := inClass (top 7) 0
theorem sc_TooMany : FnScope ["self", "count"] ["self", "count"] (defScope s_TooMany) := ⟨rfl, rfl, rfl, by decide +kernel, rfl, by decide +kernel, by decide +kernel⟩
abbrev s_NotLeft : Stmt := inClass (top 8) 0
theorem sc_NotLeft : FnScope ["self", "filling"] ["self", "filling"] (defScope s_NotLeft) := ⟨rfl, rfl, rfl, by decide +kernel, rfl, by decide +kernel, by decide +kernel⟩
structure Txt (P : Program) (w : World) (K : PySem.W.Frag) (mg : Str → Option Value) (base : Heap) (Ga : Nat → Addr) : Prop where
  b_abs : mg "abs" = none
  b_all : mg "all" = none
  b_bool : mg "bool" = none
  b_dict : mg "dict" = none
  b_int : mg "int" = none
  b_isinstance : mg "isinstance" = none
  b_len : mg "len" = none
  b_list : mg "list" = none
  b_max : mg "max" = none
  b_min : mg "min" = none
  b_range : mg "range" = none
  b_repr : mg "repr" = none
  b_set : mg "set" = none
  b_sorted : mg "sorted" = none
  b_sum : mg "sum" = none
  b_tuple : mg "tuple" = none
  b_zip : mg "zip" = none
  k_MOST_BLOCKS : ∃ t, mg "MOST_BLOCKS" = some (.int 24 t)
  k_MOST_CONTENTS : ∃ t, mg "MOST_CONTENTS" = some (.int 64 t)
  k_MOST_FILLINGS : ∃ t, mg "MOST_FILLINGS" = some (.int 20000 t)
  f_is_whole : Src_ K mg "is_whole" s_is_whole ["value"]
  f_is_between : Src_ K mg "is_between" s_is_between ["value", "least", "most"]
  f_is_tuple_of : Src_ K mg "is_tuple_of" s_is_tuple_of ["value", "many"]
  f_is_contents : Src_ K mg "is_contents" s_is_contents ["value", "many", "contents"]
  f_Disk___init__ : Meth_ K (Ga 7) "__init__" "Disk.__init__" s_Disk___init__ ["self", "blocks", "contents"]
  f_Disk___eq__ : Meth_ K (Ga 7) "__eq__" "Disk.__eq__" s_Disk___eq__ ["self", "other"]
  f_figures : Src_ K mg "figures" s_figures ["number", "base", "many"]
  f_is_block : Src_ K mg "is_block" s_is_block ["disk", "value"]
  f_is_content : Src_ K mg "is_content" s_is_content ["disk", "value"]
  f_is_filling : Src_ K mg "is_filling" s_is_filling ["disk", "value"]
  f_check_filling : Src_ K mg "check_filling" s_check_filling ["disk", "filling"]
  f_after : Src_ K mg "after" s_after ["filling", "writes"]
  f_menus : Src_ K mg "menus" s_menus ["disk", "filling", "writes", "torn"]
  f_left_count : Src_ K mg "left_count" s_left_count ["disk", "filling", "writes", "torn"]
  f_left_numbers : Src_ K mg "left_numbers" s_left_numbers ["disk", "filling", "writes", "torn"]
  f_Drive___init__ : MethD_ K (Ga 8) "__init__" "Drive.__init__" s_Drive___init__ [("torn", (.bl true))]
  f_Drive_write : Meth_ K (Ga 8) "write" "Drive.write" s_Drive_write ["self", "block", "content"]
  f_Drive_pending : Meth_ K (Ga 8) "pending" "Drive.pending" s_Drive_pending ["self"]
  f_Drive_settled : Meth_ K (Ga 8) "settled" "Drive.settled" s_Drive_settled ["self"]
  f_Drive_filling : Meth_ K (Ga 8) "filling" "Drive.filling" s_Drive_filling ["self"]
  f_Drive_sync : Meth_ K (Ga 8) "sync" "Drive.sync" s_Drive_sync ["self"]
  f_Drive_left : Meth_ K (Ga 8) "left" "Drive.left" s_Drive_left ["self"]
  f_Drive_may_leave : Meth_ K (Ga 8) "may_leave" "Drive.may_leave" s_Drive_may_leave ["self", "value"]
  f_Drive_cut : Meth_ K (Ga 8) "cut" "Drive.cut" s_Drive_cut ["self", "filling"]
  f__law_cell : Src_ K mg "_law_cell" s__law_cell ["script", "k"]
  f__law_box : Src_ K mg "_law_box" s__law_box ["great"]
  f__law_take : Src_ K mg "_law_take" s__law_take ["box", "many"]
  f__law_sizes : Src_ K mg "_law_sizes" s__law_sizes ["box"]
  f__law_odd_filling : Src_ K mg "_law_odd_filling" s__law_odd_filling ["way", "at", "filling", "contents", "more"]
  f__law_same : Src_ K mg "_law_same" s__law_same ["told", "word", "passed"]
  f__law_put : Src_ K mg "_law_put" s__law_put ["filling", "writes"]
  f__law_opened : Src_ K mg "_law_opened" s__law_opened ["way", "disk", "filling", "torn"]
  f__law_told : Src_ K mg "_law_told" s__law_told ["drive", "deed", "named"]
  f__law_stands : Src_ K mg "_law_stands" s__law_stands ["box", "known"]
  f__law_menu : Src_ K mg "_law_menu" s__law_menu ["known", "block"]
  f__law_write : Src_ K mg "_law_write" s__law_write ["box", "known"]
  f__law_refused_write : Src_ K mg "_law_refused_write" s__law_refused_write ["box", "known"]
  f__law_refused_cut : Src_ K mg "_law_refused_cut" s__law_refused_cut ["box", "known"]
  f__law_turn : Src_ K mg "_law_turn" s__law_turn ["box", "known"]
  f__law_begun : Src_ K mg "_law_begun" s__law_begun ["box", "sizes", "disk"]
  f__law_right : Src_ K mg "_law_right" s__law_right ["box"]
  f__law_many_right : Src_ K mg "_law_many_right" s__law_many_right ["box"]
  f_law : Src_ K mg "law" s_law ["script"]
  c_Disk : OwnC K mg Ga 7 "Disk"
  c_Drive : OwnC K mg Ga 8 "Drive"
  fd__pending : ∀ c, (fun c => decide (c = 8)) c = true → NoAttr K (Ga c) "_pending"
  fd__settled : ∀ c, (fun c => decide (c = 8)) c = true → NoAttr K (Ga c) "_settled"
  fd_blocks : ∀ c, (fun c => decide (c = 7)) c = true → NoAttr K (Ga c) "blocks"
  fd_contents : ∀ c, (fun c => decide (c = 7)) c = true → NoAttr K (Ga c) "contents"
  fd_disk : ∀ c, (fun c => decide (c = 8)) c = true → NoAttr K (Ga c) "disk"
  fd_torn : ∀ c, (fun c => decide (c = 8)) c = true → NoAttr K (Ga c) "torn"
  nf : ∀ ci, ci ∈ [7] → (∀ k : Option Mini.Ty, PySem.W.notFirst K (Ga ci) (.type (kindName k)) = true) ∧ ∀ c, PySem.W.hasDictIn K (Ga c) = true → PySem.W.notFirst K (Ga ci) (.ref (Ga c)) = true
  e_InvalidBlocks : ErrC K mg P w base "InvalidBlocks" "given" (Ga 0)
  e_InvalidContents : ErrC K mg P w base "InvalidContents" "given" (Ga 1)
  e_InvalidFilling : ErrC K mg P w base "InvalidFilling" "given" (Ga 2)
  e_InvalidBlock : ErrC K mg P w base "InvalidBlock" "given" (Ga 3)
  e_InvalidContent : ErrC K mg P w base "InvalidContent" "given" (Ga 4)
  e_TooMany : ErrC K mg P w base "TooMany" "count" (Ga 5)
  e_NotLeft : ErrC K mg P w base "NotLeft" "filling" (Ga 6)
  xa_filling : ∀ c, (fun c => decide (c = 6)) c = true → PySem.W.findIn K (.ref (Ga c)) "filling" = some none
  xa_given : ∀ c, (fun c => decide (c = 0) || decide (c = 1) || decide (c = 2) || decide (c = 3) || decide (c = 4)) c = true → PySem.W.findIn K (.ref (Ga c)) "given" = some none
  x_x : ∀ k, k < 7 → ExcX K (Ga k)
  ne : ∀ ci, ci ∈ [7] → NeC K Ga ci
  x_m : ∀ k, k < 7 → ∀ q, q < 7 → PySem.W.exmOne K (.ref (Ga q)) (.ref (Ga k)) = some (decide (q = k))
section
variable {P : Program} {w : World} {K : PySem.W.Frag} {mg : Str → Option Value} {base : Heap} {Ga : Nat → Addr}
theorem d_is_whole (T : Txt P w K mg base Ga) : Def P w K mg base Ga 1 "is_whole" s_is_whole ["value"] m_is_whole := by
  refine def_of (k := 0) T.f_is_whole sc_is_whole fun f cdv A outer s H E hr => ?_
  have tk : Takes (cxOf (L2.CX P w) P w K mg base ["value"] "is_whole" (defScope s_is_whole) f cdv A outer s H E) (fun c d _ H => E c d H) := takes_of rfl rfl rfl rfl
  have po : PassesOwn (model P w) (cxOf (L2.CX P w) P w K mg base ["value"] "is_whole" (defScope s_is_whole) f cdv A outer s H E).A (cxOf (L2.CX P w) P w K mg base ["value"] "is_whole" (defScope s_is_whole) f cdv A outer s H E).env (cxOf (L2.CX P w) P w K mg base ["value"] "is_whole" (defScope s_is_whole) f cdv A outer s H E).xe := passes_of rfl
  unfold b_is_whole
  exact (ss_one (s_ret (e_and (e_isi (ty := .tInt) rfl rfl T.b_isinstance rfl T.b_int (by decide +kernel) (ha := (v_ 0))) (e_one (e_not (e_isi (ty := .tBool) rfl rfl T.b_isinstance rfl T.b_bool (by decide +kernel) (ha := (v_ 0))))))))
theorem d_is_between (T : Txt P w K mg base Ga) : Def P w K mg base Ga 2 "is_between" s_is_between ["value", "least", "most"] m_is_between := by
  refine def_of (k := 1) T.f_is_between sc_is_between fun f cdv A outer s H E hr => ?_
  have tk : Takes (cxOf (L2.CX P w) P w K mg base ["value", "least", "most"] "is_between" (defScope s_is_between) f cdv A outer s H E) (fun c d _ H => E c d H) := takes_of rfl rfl rfl rfl
  have po : PassesOwn (model P w) (cxOf (L2.CX P w) P w K mg base ["value", "least", "most"] "is_between" (defScope s_is_between) f cdv A outer s H E).A (cxOf (L2.CX P w) P w K mg base ["value", "least", "most"] "is_between" (defScope s_is_between) f cdv A outer s H E).env (cxOf (L2.CX P w) P w K mg base ["value", "least", "most"] "is_between" (defScope s_is_between) f cdv A outer s H E).xe := passes_of rfl
  unfold b_is_between
  exact (ss_one (s_ret (e_and (c_ (d_is_whole T) hr tk (a_cons (v_ 0) a_nil)) (e_one (e_chain op_le s_intCmp op_le s_intCmp (v_ 1) (v_ 0) (v_ 2))))))
theorem d_is_tuple_of (T : Txt P w K mg base Ga) : Def P w K mg base Ga 1 "is_tuple_of" s_is_tuple_of ["value", "many"] m_is_tuple_of := by
  refine def_of (k := 0) T.f_is_tuple_of sc_is_tuple_of fun f cdv A outer s H E hr => ?_
  have tk : Takes (cxOf (L2.CX P w) P w K mg base ["value", "many"] "is_tuple_of" (defScope s_is_tuple_of) f cdv A outer s H E) (fun c d _ H => E c d H) := takes_of rfl rfl rfl rfl
  have po : PassesOwn (model P w) (cxOf (L2.CX P w) P w K mg base ["value", "many"] "is_tuple_of" (defScope s_is_tuple_of) f cdv A outer s H E).A (cxOf (L2.CX P w) P w K mg base ["value", "many"] "is_tuple_of" (defScope s_is_tuple_of) f cdv A outer s H E).env (cxOf (L2.CX P w) P w K mg base ["value", "many"] "is_tuple_of" (defScope s_is_tuple_of) f cdv A outer s H E).xe := passes_of rfl
  unfold b_is_tuple_of
  exact (ss_one (s_ret (e_and (e_isi (ty := .tTuple) rfl rfl T.b_isinstance rfl T.b_tuple (by decide +kernel) (ha := (v_ 0))) (e_one (e_cmp (OpR.or op_eq (op_eqD (hu64 hr))) s_eq (e_fnB call_len f_len rfl T.b_len (by decide +kernel) (a_cons (v_ 0) a_nil)) (v_ 1) (nomark _))))))
theorem d_is_contents (T : Txt P w K mg base Ga) : Def P w K mg base Ga 3 "is_contents" s_is_contents ["value", "many", "contents"] m_is_contents := by
  refine def_of (k := 2) T.f_is_contents sc_is_contents fun f cdv A outer s H E hr => ?_
  have tk : Takes (cxOf (L2.CX P w) P w K mg base ["value", "many", "contents", "one"] "is_contents" (defScope s_is_contents) f cdv A outer s H E) (fun c d _ H => E c d H) := takes_of rfl rfl rfl rfl
  have po : PassesOwn (model P w) (cxOf (L2.CX P w) P w K mg base ["value", "many", "contents", "one"] "is_contents" (defScope s_is_contents) f cdv A outer s H E).A (cxOf (L2.CX P w) P w K mg base ["value", "many", "contents", "one"] "is_contents" (defScope s_is_contents) f cdv A outer s H E).env (cxOf (L2.CX P w) P w K mg base ["value", "many", "contents", "one"] "is_contents" (defScope s_is_contents) f cdv A outer s H E).xe := passes_of rfl
  unfold b_is_contents
  exact (ss_one (s_ret (e_and (c_ (d_is_tuple_of T) hr tk (a_cons (v_ 0) (a_cons (v_ 1) a_nil))) (e_one (e_fnB (cr_all rfl) f_all rfl T.b_all (by decide +kernel) (a_cons (e_lc (own := [("one", 3)]) rfl sc_is_contents.nd (i_seq (v_ 0)) (blkOk_by (N := ["value", "many", "contents", "one"]) (sc := defScope s_is_contents) (own := [("one", 3)]) (by decide +kernel)) (by decide) (b_ (x := "one") 3 _ _) (fun _ _ _ _ _ => (pg_name (i := 3) sc_is_contents.nd rfl (by first | exact Or.inl rfl | exact Or.inr rfl))) (fun _ _ _ _ _ => ts_nil) (fun _ _ _ _ _ => (c_ (d_is_between T) hr takes0 (a_cons (v_ 3) (a_cons e_int (a_cons (e_sub (v_ 2) e_int) a_nil)))))) a_nil))))))
theorem d_Disk___init__ (T : Txt P w K mg base Ga) : DefM P w K mg base Ga 3 (Ga 7) "__init__" "Disk.__init__" s_Disk___init__ ["self", "blocks", "contents"] m_Disk___init__ := by
  refine defm_of (k := 2) T.f_Disk___init__ sc_Disk___init__ fun f cdv A outer s H E hr => ?_
  have tk : Takes (cxOf (L2.CX P w) P w K mg base ["self", "blocks", "contents"] "Disk.__init__" (defScope s_Disk___init__) f cdv A outer s H E) (fun c d _ H => E c d H) := takes_of rfl rfl rfl rfl
  have po : PassesOwn (model P w) (cxOf (L2.CX P w) P w K mg base ["self", "blocks", "contents"] "Disk.__init__" (defScope s_Disk___init__) f cdv A outer s H E).A (cxOf (L2.CX P w) P w K mg base ["self", "blocks", "contents"] "Disk.__init__" (defScope s_Disk___init__) f cdv A outer s H E).env (cxOf (L2.CX P w) P w K mg base ["self", "blocks", "contents"] "Disk.__init__" (defScope s_Disk___init__) f cdv A outer s H E).xe := passes_of rfl
  unfold b_Disk___init__
  exact (ss_cons (s_if (t_not (t_tru (c_ (d_is_between T) hr tk (a_cons (v_ 1) (a_cons e_int (a_cons (gi_ T.k_MOST_BLOCKS) a_nil)))) (by intro _; rfl)))
    (ss_one (s_raise (ci := 0) rfl tk T.e_InvalidBlocks (hr.room.mono (by decide)) rfl (v_ 1)))
    ss_nil)
    (ss_cons (s_if (t_not (t_tru (c_ (d_is_between T) hr tk (a_cons (v_ 2) (a_cons e_int (a_cons (gi_ T.k_MOST_CONTENTS) a_nil)))) (by intro _; rfl)))
    (ss_one (s_raise (ci := 1) rfl tk T.e_InvalidContents (hr.room.mono (by decide)) rfl (v_ 2)))
    ss_nil)
    (ss_cons (s_fld T.fd_blocks (v_ 0) (v_ 1))
    (ss_one (s_fld T.fd_contents (v_ 0) (v_ 2))))))
theorem d_Disk___eq__ (T : Txt P w K mg base Ga) : DefM P w K mg base Ga 1 (Ga 7) "__eq__" "Disk.__eq__" s_Disk___eq__ ["self", "other"] m_Disk___eq__ := by
  refine defm_of (k := 0) T.f_Disk___eq__ sc_Disk___eq__ fun f cdv A outer s H E hr => ?_
  have tk : Takes (cxOf (L2.CX P w) P w K mg base ["self", "other"] "Disk.__eq__" (defScope s_Disk___eq__) f cdv A outer s H E) (fun c d _ H => E c d H) := takes_of rfl rfl rfl rfl
  have po : PassesOwn (model P w) (cxOf (L2.CX P w) P w K mg base ["self", "other"] "Disk.__eq__" (defScope s_Disk___eq__) f cdv A outer s H E).A (cxOf (L2.CX P w) P w K mg base ["self", "other"] "Disk.__eq__" (defScope s_Disk___eq__) f cdv A outer s H E).env (cxOf (L2.CX P w) P w K mg base ["self", "other"] "Disk.__eq__" (defScope s_Disk___eq__) f cdv A outer s H E).xe := passes_of rfl
  unfold b_Disk___eq__
  exact (ss_one (s_ret (e_and (isiC_ T.c_Disk T.b_isinstance (v_ 1)) (e_and (e_cmp (OpR.or op_eq (op_eqD (hu64 hr))) s_eq (e_fld T.fd_blocks (v_ 0)) (e_fld T.fd_blocks (v_ 1)) (nomark _)) (e_one (e_cmp (OpR.or op_eq (op_eqD (hu64 hr))) s_eq (e_fld T.fd_contents (v_ 0)) (e_fld T.fd_contents (v_ 1)) (nomark _)))))))
theorem d_figures (T : Txt P w K mg base Ga) : Def P w K mg base Ga 1 "figures" s_figures ["number", "base", "many"] m_figures := by
  refine def_of (k := 0) T.f_figures sc_figures fun f cdv A outer s H E hr => ?_
  have tk : Takes (cxOf (L2.CX P w) P w K mg base ["number", "base", "many", "found", "_"] "figures" (defScope s_figures) f cdv A outer s H E) (fun c d _ H => E c d H) := takes_of rfl rfl rfl rfl
  have po : PassesOwn (model P w) (cxOf (L2.CX P w) P w K mg base ["number", "base", "many", "found", "_"] "figures" (defScope s_figures) f cdv A outer s H E).A (cxOf (L2.CX P w) P w K mg base ["number", "base", "many", "found", "_"] "figures" (defScope s_figures) f cdv A outer s H E).env (cxOf (L2.CX P w) P w K mg base ["number", "base", "many", "found", "_"] "figures" (defScope s_figures) f cdv A outer s H E).xe := passes_of rfl
  unfold b_figures
  exact (ss_cons (s_set (i := 3) sc_figures.nd rfl (by first | exact Or.inl rfl | exact Or.inr rfl) lets0 (e_lst a_nil))
    (ss_cons (s_for po rfl (i_rng1 rfl T.b_range (v_ 2)) (g_ 4 sc_figures.nd lets0)
    (ss_cons (s_expr (e_app (v_ 3) (e_mod (v_ 0) (v_ 1))))
    (ss_one (s_set (i := 0) sc_figures.nd rfl (by first | exact Or.inl rfl | exact Or.inr rfl) lets0 (e_div (v_ 0) (v_ 1))))))
    (ss_one (s_ret (e_fnT call_tuple_of f_tuple rfl T.b_tuple (by decide +kernel) (a_cons (e_rev (v_ 3)) a_nil))))))
theorem d_is_block (T : Txt P w K mg base Ga) : Def P w K mg base Ga 3 "is_block" s_is_block ["disk", "value"] m_is_block := by
  refine def_of (k := 2) T.f_is_block sc_is_block fun f cdv A outer s H E hr => ?_
  have tk : Takes (cxOf (L2.CX P w) P w K mg base ["disk", "value"] "is_block" (defScope s_is_block) f cdv A outer s H E) (fun c d _ H => E c d H) := takes_of rfl rfl rfl rfl
  have po : PassesOwn (model P w) (cxOf (L2.CX P w) P w K mg base ["disk", "value"] "is_block" (defScope s_is_block) f cdv A outer s H E).A (cxOf (L2.CX P w) P w K mg base ["disk", "value"] "is_block" (defScope s_is_block) f cdv A outer s H E).env (cxOf (L2.CX P w) P w K mg base ["disk", "value"] "is_block" (defScope s_is_block) f cdv A outer s H E).xe := passes_of rfl
  unfold b_is_block
  exact (ss_one (s_ret (c_ (d_is_between T) hr tk (a_cons (v_ 1) (a_cons e_int (a_cons (e_sub (e_fld T.fd_blocks (v_ 0)) e_int) a_nil))))))
theorem d_is_content (T : Txt P w K mg base Ga) : Def P w K mg base Ga 3 "is_content" s_is_content ["disk", "value"] m_is_content := by
  refine def_of (k := 2) T.f_is_content sc_is_content fun f cdv A outer s H E hr => ?_
  have tk : Takes (cxOf (L2.CX P w) P w K mg base ["disk", "value"] "is_content" (defScope s_is_content) f cdv A outer s H E) (fun c d _ H => E c d H) := takes_of rfl rfl rfl rfl
  have po : PassesOwn (model P w) (cxOf (L2.CX P w) P w K mg base ["disk", "value"] "is_content" (defScope s_is_content) f cdv A outer s H E).A (cxOf (L2.CX P w) P w K mg base ["disk", "value"] "is_content" (defScope s_is_content) f cdv A outer s H E).env (cxOf (L2.CX P w) P w K mg base ["disk", "value"] "is_content" (defScope s_is_content) f cdv A outer s H E).xe := passes_of rfl
  unfold b_is_content
  exact (ss_one (s_ret (c_ (d_is_between T) hr tk (a_cons (v_ 1) (a_cons e_int (a_cons (e_sub (e_fld T.fd_contents (v_ 0)) e_int) a_nil))))))
theorem d_is_filling (T : Txt P w K mg base Ga) : Def P w K mg base Ga 4 "is_filling" s_is_filling ["disk", "value"] m_is_filling := by
  refine def_of (k := 3) T.f_is_filling sc_is_filling fun f cdv A outer s H E hr => ?_
  have tk : Takes (cxOf (L2.CX P w) P w K mg base ["disk", "value"] "is_filling" (defScope s_is_filling) f cdv A outer s H E) (fun c d _ H => E c d H) := takes_of rfl rfl rfl rfl
  have po : PassesOwn (model P w) (cxOf (L2.CX P w) P w K mg base ["disk", "value"] "is_filling" (defScope s_is_filling) f cdv A outer s H E).A (cxOf (L2.CX P w) P w K mg base ["disk", "value"] "is_filling" (defScope s_is_filling) f cdv A outer s H E).env (cxOf (L2.CX P w) P w K mg base ["disk", "value"] "is_filling" (defScope s_is_filling) f cdv A outer s H E).xe := passes_of rfl
  unfold b_is_filling
  exact (ss_one (s_ret (c_ (d_is_contents T) hr tk (a_cons (v_ 1) (a_cons (e_fld T.fd_blocks (v_ 0)) (a_cons (e_fld T.fd_contents (v_ 0)) a_nil))))))
theorem d_check_filling (T : Txt P w K mg base Ga) : Def P w K mg base Ga 5 "check_filling" s_check_filling ["disk", "filling"] m_check_filling := by
  refine def_of (k := 4) T.f_check_filling sc_check_filling fun f cdv A outer s H E hr => ?_
  have tk : Takes (cxOf (L2.CX P w) P w K mg base ["disk", "filling"] "check_filling" (defScope s_check_filling) f cdv A outer s H E) (fun c d _ H => E c d H) := takes_of rfl rfl rfl rfl
  have po : PassesOwn (model P w) (cxOf (L2.CX P w) P w K mg base ["disk", "filling"] "check_filling" (defScope s_check_filling) f cdv A outer s H E).A (cxOf (L2.CX P w) P w K mg base ["disk", "filling"] "check_filling" (defScope s_check_filling) f cdv A outer s H E).env (cxOf (L2.CX P w) P w K mg base ["disk", "filling"] "check_filling" (defScope s_check_filling) f cdv A outer s H E).xe := passes_of rfl
  unfold b_check_filling
  exact (ss_one (s_if (t_not (t_tru (c_ (d_is_filling T) hr tk (a_cons (v_ 0) (a_cons (v_ 1) a_nil))) (by intro _; rfl)))
    (ss_one (s_raise (ci := 2) rfl tk T.e_InvalidFilling (hr.room.mono (by decide)) rfl (v_ 1)))
    ss_nil))
theorem d_after (T : Txt P w K mg base Ga) : Def P w K mg base Ga 1 "after" s_after ["filling", "writes"] m_after := by
  refine def_of (k := 0) T.f_after sc_after fun f cdv A outer s H E hr => ?_
  have tk : Takes (cxOf (L2.CX P w) P w K mg base ["filling", "writes", "found", "block", "content"] "after" (defScope s_after) f cdv A outer s H E) (fun c d _ H => E c d H) := takes_of rfl rfl rfl rfl
  have po : PassesOwn (model P w) (cxOf (L2.CX P w) P w K mg base ["filling", "writes", "found", "block", "content"] "after" (defScope s_after) f cdv A outer s H E).A (cxOf (L2.CX P w) P w K mg base ["filling", "writes", "found", "block", "content"] "after" (defScope s_after) f cdv A outer s H E).env (cxOf (L2.CX P w) P w K mg base ["filling", "writes", "found", "block", "content"] "after" (defScope s_after) f cdv A outer s H E).xe := passes_of rfl
  unfold b_after
  exact (ss_cons (s_set (i := 2) sc_after.nd rfl (by first | exact Or.inl rfl | exact Or.inr rfl) lets0 (e_fnT call_list_of f_list rfl T.b_list (by decide +kernel) (a_cons (v_ 0) a_nil)))
    (ss_cons (s_for po rfl (i_seq (v_ 1)) (g_seq rfl (gs_cons (g_ 3 sc_after.nd lets0) (gs_cons (g_ 4 sc_after.nd lets0) gs_nil)))
    (ss_one (s_asg (v_ 4) (g_subL (Wd := W0) (pg_sub (v_ 2) (v_ 3) set_list)))))
    (ss_one (s_ret (e_fnT call_tuple_of f_tuple rfl T.b_tuple (by decide +kernel) (a_cons (v_ 2) a_nil))))))
theorem d_menus (T : Txt P w K mg base Ga) : Def P w K mg base Ga 1 "menus" s_menus ["disk", "filling", "writes", "torn"] m_menus := by
  refine def_of (k := 0) T.f_menus sc_menus fun f cdv A outer s H E hr => ?_
  have tk : Takes (cxOf (L2.CX P w) P w K mg base ["disk", "filling", "writes", "torn", "found", "content", "block", "row"] "menus" (defScope s_menus) f cdv A outer s H E) (fun c d _ H => E c d H) := takes_of rfl rfl rfl rfl
  have po : PassesOwn (model P w) (cxOf (L2.CX P w) P w K mg base ["disk", "filling", "writes", "torn", "found", "content", "block", "row"] "menus" (defScope s_menus) f cdv A outer s H E).A (cxOf (L2.CX P w) P w K mg base ["disk", "filling", "writes", "torn", "found", "content", "block", "row"] "menus" (defScope s_menus) f cdv A outer s H E).env (cxOf (L2.CX P w) P w K mg base ["disk", "filling", "writes", "torn", "found", "content", "block", "row"] "menus" (defScope s_menus) f cdv A outer s H E).xe := passes_of rfl
  unfold b_menus
  exact (ss_cons (s_setLc (i := 4) (own := [("content", 5)]) rfl sc_menus.nd rfl rfl (sw_true rfl rfl rfl (by decide +kernel)) (i_seq (v_ 1)) (blkOk_by (N := ["disk", "filling", "writes", "torn", "found", "content", "block", "row"]) (sc := defScope s_menus) (own := [("content", 5)]) (by decide +kernel)) (by decide) (b_ (x := "content") 5 _ _) (fun _ _ _ _ _ => (pg_name (i := 5) sc_menus.nd rfl (by first | exact Or.inl rfl | exact Or.inr rfl))) (fun _ _ _ _ _ => ts_nil) (fun _ _ _ _ _ => (e_lst (a_cons (v_ 5) a_nil))))
    (ss_cons (s_for po rfl (i_seq (v_ 2)) (g_seq rfl (gs_cons (g_ 6 sc_menus.nd lets0) (gs_cons (g_ 5 sc_menus.nd lets0) gs_nil)))
    (ss_one (s_expr (e_app (e_sub_ (v_ 4) (v_ 6) (fun _ _ => rfl)) (v_ 5)))))
    (ss_cons (s_if (t_tru (v_ 3) (by intro _; rfl))
    (ss_one (s_ret (e_lc (own := [("row", 7)]) rfl sc_menus.nd (i_seq (v_ 4)) (blkOk_by (N := ["disk", "filling", "writes", "torn", "found", "content", "block", "row"]) (sc := defScope s_menus) (own := [("row", 7)]) (by decide +kernel)) (by decide) (b_ (x := "row") 7 _ _) (fun _ _ _ _ _ => (pg_name (i := 7) sc_menus.nd rfl (by first | exact Or.inl rfl | exact Or.inr rfl))) (fun _ _ _ _ _ => ts_nil) (fun _ _ _ _ _ => (e_if (t_cmp op_gt s_intCmp (e_fnB call_len f_len rfl T.b_len (by decide +kernel) (a_cons (v_ 7) a_nil)) e_int (nomark _)) (e_lrng rfl rfl T.b_list rfl T.b_range (e_fld T.fd_contents (v_ 0))) (v_ 7))))))
    ss_nil)
    (ss_one (s_ret (e_lc (own := [("row", 7)]) rfl sc_menus.nd (i_seq (v_ 4)) (blkOk_by (N := ["disk", "filling", "writes", "torn", "found", "content", "block", "row"]) (sc := defScope s_menus) (own := [("row", 7)]) (by decide +kernel)) (by decide) (b_ (x := "row") 7 _ _) (fun _ _ _ _ _ => (pg_name (i := 7) sc_menus.nd rfl (by first | exact Or.inl rfl | exact Or.inr rfl))) (fun _ _ _ _ _ => ts_nil) (fun _ _ _ _ _ => (e_sortU rfl rfl T.b_sorted rfl T.b_set (v_ 7)))))))))
theorem d_left_count (T : Txt P w K mg base Ga) : Def P w K mg base Ga 2 "left_count" s_left_count ["disk", "filling", "writes", "torn"] m_left_count := by
  refine def_of (k := 1) T.f_left_count sc_left_count fun f cdv A outer s H E hr => ?_
  have tk : Takes (cxOf (L2.CX P w) P w K mg base ["disk", "filling", "writes", "torn", "found", "row"] "left_count" (defScope s_left_count) f cdv A outer s H E) (fun c d _ H => E c d H) := takes_of rfl rfl rfl rfl
  have po : PassesOwn (model P w) (cxOf (L2.CX P w) P w K mg base ["disk", "filling", "writes", "torn", "found", "row"] "left_count" (defScope s_left_count) f cdv A outer s H E).A (cxOf (L2.CX P w) P w K mg base ["disk", "filling", "writes", "torn", "found", "row"] "left_count" (defScope s_left_count) f cdv A outer s H E).env (cxOf (L2.CX P w) P w K mg base ["disk", "filling", "writes", "torn", "found", "row"] "left_count" (defScope s_left_count) f cdv A outer s H E).xe := passes_of rfl
  unfold b_left_count
  exact (ss_cons (s_set (i := 4) sc_left_count.nd rfl (by first | exact Or.inl rfl | exact Or.inr rfl) lets0 e_int)
    (ss_cons (s_for po rfl (i_seq (c_ (d_menus T) hr tk (a_cons (v_ 0) (a_cons (v_ 1) (a_cons (v_ 2) (a_cons (v_ 3) a_nil)))))) (g_ 5 sc_left_count.nd lets0)
    (ss_one (s_set (i := 4) sc_left_count.nd rfl (by first | exact Or.inl rfl | exact Or.inr rfl) lets0 (mulX_ (v_ 4) (e_fnB call_len f_len rfl T.b_len (by decide +kernel) (a_cons (v_ 5) a_nil))))))
    (ss_one (s_ret (v_ 4)))))
theorem d_left_numbers (T : Txt P w K mg base Ga) : Def P w K mg base Ga 2 "left_numbers" s_left_numbers ["disk", "filling", "writes", "torn"] m_left_numbers := by
  refine def_of (k := 1) T.f_left_numbers sc_left_numbers fun f cdv A outer s H E hr => ?_
  have tk : Takes (cxOf (L2.CX P w) P w K mg base ["disk", "filling", "writes", "torn", "found", "row", "number", "content"] "left_numbers" (defScope s_left_numbers) f cdv A outer s H E) (fun c d _ H => E c d H) := takes_of rfl rfl rfl rfl
  have po : PassesOwn (model P w) (cxOf (L2.CX P w) P w K mg base ["disk", "filling", "writes", "torn", "found", "row", "number", "content"] "left_numbers" (defScope s_left_numbers) f cdv A outer s H E).A (cxOf (L2.CX P w) P w K mg base ["disk", "filling", "writes", "torn", "found", "row", "number", "content"] "left_numbers" (defScope s_left_numbers) f cdv A outer s H E).env (cxOf (L2.CX P w) P w K mg base ["disk", "filling", "writes", "torn", "found", "row", "number", "content"] "left_numbers" (defScope s_left_numbers) f cdv A outer s H E).xe := passes_of rfl
  unfold b_left_numbers
  exact (ss_cons (s_set (i := 4) sc_left_numbers.nd rfl (by first | exact Or.inl rfl | exact Or.inr rfl) lets0 (e_lst (a_cons e_int a_nil)))
    (ss_cons (s_for po rfl (i_seq (c_ (d_menus T) hr tk (a_cons (v_ 0) (a_cons (v_ 1) (a_cons (v_ 2) (a_cons (v_ 3) a_nil)))))) (g_ 5 sc_left_numbers.nd lets0)
    (ss_one (s_setLc2 (i := 4) (own := [("number", 6), ("content", 7)]) (us := [7]) rfl sc_left_numbers.nd rfl rfl (sw_true rfl rfl rfl (by decide +kernel)) (i_seq (v_ 4)) (blkOk_by (N := ["disk", "filling", "writes", "torn", "found", "row", "number", "content"]) (sc := defScope s_left_numbers) (own := [("number", 6), ("content", 7)]) (by decide +kernel)) (by decide) (by decide) (by decide) (b_ (x := "number") 6 _ _) (b_ (x := "content") 7 _ _) (fun _ _ _ _ _ => (pg_name (i := 6) sc_left_numbers.nd rfl (by first | exact Or.inl rfl | exact Or.inr rfl))) (fun _ _ _ _ _ => ts_nil) (fun _ _ _ _ _ => (i_seq (v_ 5))) (fun _ _ _ _ _ => (pg_name (i := 7) sc_left_numbers.nd rfl (by first | exact Or.inl rfl | exact Or.inr rfl))) (fun _ _ _ _ _ => ts_nil) (fun _ _ _ _ _ => (addX_ (mulX_ (v_ 6) (e_fld T.fd_contents (v_ 0))) (v_ 7))))))
    (ss_one (s_ret (v_ 4)))))
theorem d_Drive___init__ (T : Txt P w K mg base Ga) : DefMD P w K mg base Ga 6 (Ga 8) "__init__" "Drive.__init__" s_Drive___init__ [("torn", (.bl true))] ["self", "disk", "filling", "torn"] m_Drive___init__ := by
  refine defmd_of (k := 5) T.f_Drive___init__ sc_Drive___init__ fun f cdv A outer s H E hr => ?_
  have tk : Takes (cxOf (L2.CX P w) P w K mg base ["self", "disk", "filling", "torn"] "Drive.__init__" (defScope s_Drive___init__) f cdv A outer s H E) (fun c d _ H => E c d H) := takes_of rfl rfl rfl rfl
  have po : PassesOwn (model P w) (cxOf (L2.CX P w) P w K mg base ["self", "disk", "filling", "torn"] "Drive.__init__" (defScope s_Drive___init__) f cdv A outer s H E).A (cxOf (L2.CX P w) P w K mg base ["self", "disk", "filling", "torn"] "Drive.__init__" (defScope s_Drive___init__) f cdv A outer s H E).env (cxOf (L2.CX P w) P w K mg base ["self", "disk", "filling", "torn"] "Drive.__init__" (defScope s_Drive___init__) f cdv A outer s H E).xe := passes_of rfl
  unfold b_Drive___init__
  exact (ss_cons (s_expr (c_ (d_check_filling T) hr tk (a_cons (v_ 1) (a_cons (v_ 2) a_nil))))
    (ss_cons (s_fld T.fd_disk (v_ 0) (v_ 1))
    (ss_cons (s_fld T.fd_torn (v_ 0) (v_ 3))
    (ss_cons (s_fld T.fd__settled (v_ 0) (v_ 2))
    (ss_one (s_fld T.fd__pending (v_ 0) (e_lst a_nil)))))))
theorem d_Drive_write (T : Txt P w K mg base Ga) : DefM P w K mg base Ga 4 (Ga 8) "write" "Drive.write" s_Drive_write ["self", "block", "content"] m_Drive_write := by
  refine defm_of (k := 3) T.f_Drive_write sc_Drive_write fun f cdv A outer s H E hr => ?_
  have tk : Takes (cxOf (L2.CX P w) P w K mg base ["self", "block", "content"] "Drive.write" (defScope s_Drive_write) f cdv A outer s H E) (fun c d _ H => E c d H) := takes_of rfl rfl rfl rfl
  have po : PassesOwn (model P w) (cxOf (L2.CX P w) P w K mg base ["self", "block", "content"] "Drive.write" (defScope s_Drive_write) f cdv A outer s H E).A (cxOf (L2.CX P w) P w K mg base ["self", "block", "content"] "Drive.write" (defScope s_Drive_write) f cdv A outer s H E).env (cxOf (L2.CX P w) P w K mg base ["self", "block", "content"] "Drive.write" (defScope s_Drive_write) f cdv A outer s H E).xe := passes_of rfl
  unfold b_Drive_write
  exact (ss_cons (s_if (t_not (t_tru (c_ (d_is_block T) hr tk (a_cons (e_fld T.fd_disk (v_ 0)) (a_cons (v_ 1) a_nil))) (by intro _; rfl)))
    (ss_one (s_raise (ci := 3) rfl tk T.e_InvalidBlock (hr.room.mono (by decide)) rfl (v_ 1)))
    ss_nil)
    (ss_cons (s_if (t_not (t_tru (c_ (d_is_content T) hr tk (a_cons (e_fld T.fd_disk (v_ 0)) (a_cons (v_ 2) a_nil))) (by intro _; rfl)))
    (ss_one (s_raise (ci := 4) rfl tk T.e_InvalidContent (hr.room.mono (by decide)) rfl (v_ 2)))
    ss_nil)
    (ss_one (s_expr (e_app (e_fld T.fd__pending (v_ 0)) (e_tup (a_cons (v_ 1) (a_cons (v_ 2) a_nil))))))))
theorem d_Drive_pending (T : Txt P w K mg base Ga) : DefM P w K mg base Ga 1 (Ga 8) "pending" "Drive.pending" s_Drive_pending ["self"] m_Drive_pending := by
  refine defm_of (k := 0) T.f_Drive_pending sc_Drive_pending fun f cdv A outer s H E hr => ?_
  have tk : Takes (cxOf (L2.CX P w) P w K mg base ["self"] "Drive.pending" (defScope s_Drive_pending) f cdv A outer s H E) (fun c d _ H => E c d H) := takes_of rfl rfl rfl rfl
  have po : PassesOwn (model P w) (cxOf (L2.CX P w) P w K mg base ["self"] "Drive.pending" (defScope s_Drive_pending) f cdv A outer s H E).A (cxOf (L2.CX P w) P w K mg base ["self"] "Drive.pending" (defScope s_Drive_pending) f cdv A outer s H E).env (cxOf (L2.CX P w) P w K mg base ["self"] "Drive.pending" (defScope s_Drive_pending) f cdv A outer s H E).xe := passes_of rfl
  unfold b_Drive_pending
  exact (ss_one (s_ret (e_fnT call_list_of f_list rfl T.b_list (by decide +kernel) (a_cons (e_fld T.fd__pending (v_ 0)) a_nil))))
theorem d_Drive_settled (T : Txt P w K mg base Ga) : DefM P w K mg base Ga 1 (Ga 8) "settled" "Drive.settled" s_Drive_settled ["self"] m_Drive_settled := by
  refine defm_of (k := 0) T.f_Drive_settled sc_Drive_settled fun f cdv A outer s H E hr => ?_
  have tk : Takes (cxOf (L2.CX P w) P w K mg base ["self"] "Drive.settled" (defScope s_Drive_settled) f cdv A outer s H E) (fun c d _ H => E c d H) := takes_of rfl rfl rfl rfl
  have po : PassesOwn (model P w) (cxOf (L2.CX P w) P w K mg base ["self"] "Drive.settled" (defScope s_Drive_settled) f cdv A outer s H E).A (cxOf (L2.CX P w) P w K mg base ["self"] "Drive.settled" (defScope s_Drive_settled) f cdv A outer s H E).env (cxOf (L2.CX P w) P w K mg base ["self"] "Drive.settled" (defScope s_Drive_settled) f cdv A outer s H E).xe := passes_of rfl
  unfold b_Drive_settled
  exact (ss_one (s_ret (e_fld T.fd__settled (v_ 0))))
theorem d_Drive_filling (T : Txt P w K mg base Ga) : DefM P w K mg base Ga 2 (Ga 8) "filling" "Drive.filling" s_Drive_filling ["self"] m_Drive_filling := by
  refine defm_of (k := 1) T.f_Drive_filling sc_Drive_filling fun f cdv A outer s H E hr => ?_
  have tk : Takes (cxOf (L2.CX P w) P w K mg base ["self"] "Drive.filling" (defScope s_Drive_filling) f cdv A outer s H E) (fun c d _ H => E c d H) := takes_of rfl rfl rfl rfl
  have po : PassesOwn (model P w) (cxOf (L2.CX P w) P w K mg base ["self"] "Drive.filling" (defScope s_Drive_filling) f cdv A outer s H E).A (cxOf (L2.CX P w) P w K mg base ["self"] "Drive.filling" (defScope s_Drive_filling) f cdv A outer s H E).env (cxOf (L2.CX P w) P w K mg base ["self"] "Drive.filling" (defScope s_Drive_filling) f cdv A outer s H E).xe := passes_of rfl
  unfold b_Drive_filling
  exact (ss_one (s_ret (c_ (d_after T) hr tk (a_cons (e_fld T.fd__settled (v_ 0)) (a_cons (e_fld T.fd__pending (v_ 0)) a_nil)))))
theorem d_Drive_sync (T : Txt P w K mg base Ga) : DefM P w K mg base Ga 3 (Ga 8) "sync" "Drive.sync" s_Drive_sync ["self"] m_Drive_sync := by
  refine defm_of (k := 2) T.f_Drive_sync sc_Drive_sync fun f cdv A outer s H E hr => ?_
  have tk : Takes (cxOf (L2.CX P w) P w K mg base ["self", "done"] "Drive.sync" (defScope s_Drive_sync) f cdv A outer s H E) (fun c d _ H => E c d H) := takes_of rfl rfl rfl rfl
  have po : PassesOwn (model P w) (cxOf (L2.CX P w) P w K mg base ["self", "done"] "Drive.sync" (defScope s_Drive_sync) f cdv A outer s H E).A (cxOf (L2.CX P w) P w K mg base ["self", "done"] "Drive.sync" (defScope s_Drive_sync) f cdv A outer s H E).env (cxOf (L2.CX P w) P w K mg base ["self", "done"] "Drive.sync" (defScope s_Drive_sync) f cdv A outer s H E).xe := passes_of rfl
  unfold b_Drive_sync
  exact (ss_cons (s_set (i := 1) sc_Drive_sync.nd rfl (by first | exact Or.inl rfl | exact Or.inr rfl) lets0 (e_fnB call_len f_len rfl T.b_len (by decide +kernel) (a_cons (e_fld T.fd__pending (v_ 0)) a_nil)))
    (ss_cons (s_fld T.fd__settled (v_ 0) (mth_ (ci := 8) (n := 0) (m := 0) (is := []) (ks := []) (d_Drive_filling T) hr tk (fun _ _ _ _ _ _ pre us ws h0 h1 h2 => match pre, us, ws, h0, h1, h2 with | [_], [], [], _, _, _ => rfl) (v_ 0) ess0 a_nil k_nil))
    (ss_cons (s_fld T.fd__pending (v_ 0) (e_lst a_nil))
    (ss_one (s_ret (v_ 1))))))
theorem d_Drive_left (T : Txt P w K mg base Ga) : DefM P w K mg base Ga 3 (Ga 8) "left" "Drive.left" s_Drive_left ["self"] m_Drive_left := by
  refine defm_of (k := 2) T.f_Drive_left sc_Drive_left fun f cdv A outer s H E hr => ?_
  have tk : Takes (cxOf (L2.CX P w) P w K mg base ["self", "many", "numbers", "number"] "Drive.left" (defScope s_Drive_left) f cdv A outer s H E) (fun c d _ H => E c d H) := takes_of rfl rfl rfl rfl
  have po : PassesOwn (model P w) (cxOf (L2.CX P w) P w K mg base ["self", "many", "numbers", "number"] "Drive.left" (defScope s_Drive_left) f cdv A outer s H E).A (cxOf (L2.CX P w) P w K mg base ["self", "many", "numbers", "number"] "Drive.left" (defScope s_Drive_left) f cdv A outer s H E).env (cxOf (L2.CX P w) P w K mg base ["self", "many", "numbers", "number"] "Drive.left" (defScope s_Drive_left) f cdv A outer s H E).xe := passes_of rfl
  unfold b_Drive_left
  exact (ss_cons (s_set (i := 1) sc_Drive_left.nd rfl (by first | exact Or.inl rfl | exact Or.inr rfl) lets0 (c_ (d_left_count T) hr tk (a_cons (e_fld T.fd_disk (v_ 0)) (a_cons (e_fld T.fd__settled (v_ 0)) (a_cons (e_fld T.fd__pending (v_ 0)) (a_cons (e_fld T.fd_torn (v_ 0)) a_nil))))))
    (ss_cons (s_if (t_cmp op_gt s_intCmp (v_ 1) (gi_ T.k_MOST_FILLINGS) (nomark _))
    (ss_one (s_raise (ci := 5) rfl tk T.e_TooMany (hr.room.mono (by decide)) rfl (v_ 1)))
    ss_nil)
    (ss_cons (s_set (i := 2) sc_Drive_left.nd rfl (by first | exact Or.inl rfl | exact Or.inr rfl) lets0 (c_ (d_left_numbers T) hr tk (a_cons (e_fld T.fd_disk (v_ 0)) (a_cons (e_fld T.fd__settled (v_ 0)) (a_cons (e_fld T.fd__pending (v_ 0)) (a_cons (e_fld T.fd_torn (v_ 0)) a_nil))))))
    (ss_one (s_ret (e_lc (own := [("number", 3)]) rfl sc_Drive_left.nd (i_seq (v_ 2)) (blkOk_by (N := ["self", "many", "numbers", "number"]) (sc := defScope s_Drive_left) (own := [("number", 3)]) (by decide +kernel)) (by decide) (b_ (x := "number") 3 _ _) (fun _ _ _ _ _ => (pg_name (i := 3) sc_Drive_left.nd rfl (by first | exact Or.inl rfl | exact Or.inr rfl))) (fun _ _ _ _ _ => ts_nil) (fun _ _ _ _ _ => (c_ (d_figures T) hr takes0 (a_cons (v_ 3) (a_cons (e_fld T.fd_contents (e_fld T.fd_disk (v_ 0))) (a_cons (e_fld T.fd_blocks (e_fld T.fd_disk (v_ 0))) a_nil)))))))))))
theorem d_Drive_may_leave (T : Txt P w K mg base Ga) : DefM P w K mg base Ga 5 (Ga 8) "may_leave" "Drive.may_leave" s_Drive_may_leave ["self", "value"] m_Drive_may_leave := by
  refine defm_of (k := 4) T.f_Drive_may_leave sc_Drive_may_leave fun f cdv A outer s H E hr => ?_
  have tk : Takes (cxOf (L2.CX P w) P w K mg base ["self", "value", "rows", "content", "row"] "Drive.may_leave" (defScope s_Drive_may_leave) f cdv A outer s H E) (fun c d _ H => E c d H) := takes_of rfl rfl rfl rfl
  have po : PassesOwn (model P w) (cxOf (L2.CX P w) P w K mg base ["self", "value", "rows", "content", "row"] "Drive.may_leave" (defScope s_Drive_may_leave) f cdv A outer s H E).A (cxOf (L2.CX P w) P w K mg base ["self", "value", "rows", "content", "row"] "Drive.may_leave" (defScope s_Drive_may_leave) f cdv A outer s H E).env (cxOf (L2.CX P w) P w K mg base ["self", "value", "rows", "content", "row"] "Drive.may_leave" (defScope s_Drive_may_leave) f cdv A outer s H E).xe := passes_of rfl
  unfold b_Drive_may_leave
  exact (ss_cons (s_if (t_not (t_tru (c_ (d_is_filling T) hr tk (a_cons (e_fld T.fd_disk (v_ 0)) (a_cons (v_ 1) a_nil))) (by intro _; rfl)))
    (ss_one (s_ret e_bl))
    ss_nil)
    (ss_cons (s_set (i := 2) sc_Drive_may_leave.nd rfl (by first | exact Or.inl rfl | exact Or.inr rfl) lets0 (c_ (d_menus T) hr tk (a_cons (e_fld T.fd_disk (v_ 0)) (a_cons (e_fld T.fd__settled (v_ 0)) (a_cons (e_fld T.fd__pending (v_ 0)) (a_cons (e_fld T.fd_torn (v_ 0)) a_nil))))))
    (ss_one (s_ret (e_fnB (cr_all rfl) f_all rfl T.b_all (by decide +kernel) (a_cons (e_lcr (n := 2) (own := [("content", 3), ("row", 4)]) rfl rfl sc_Drive_may_leave.nd (r_zip rfl T.b_zip (v_ 1) (v_ 2)) (blkOk_by (N := ["self", "value", "rows", "content", "row"]) (sc := defScope s_Drive_may_leave) (own := [("content", 3), ("row", 4)]) (by decide +kernel)) (by decide) (bs_cons (b_ (x := "content") 3 _ _) (bs_cons (b_ (x := "row") 4 _ _) (bs_nil _ _))) (fun _ _ _ _ _ => (pg_tup rfl (pgs_cons (pg_name (i := 3) sc_Drive_may_leave.nd rfl (by first | exact Or.inl rfl | exact Or.inr rfl)) (pgs_cons (pg_name (i := 4) sc_Drive_may_leave.nd rfl (by first | exact Or.inl rfl | exact Or.inr rfl)) pgs_nil)))) (fun _ _ _ _ _ => ts_nil) (fun _ _ _ _ _ => (e_cmp (op_inD (hu65 hr)) s_in (v_ 3) (v_ 4) (by rfl)))) a_nil))))))
theorem d_Drive_cut (T : Txt P w K mg base Ga) : DefM P w K mg base Ga 6 (Ga 8) "cut" "Drive.cut" s_Drive_cut ["self", "filling"] m_Drive_cut := by
  refine defm_of (k := 5) T.f_Drive_cut sc_Drive_cut fun f cdv A outer s H E hr => ?_
  have tk : Takes (cxOf (L2.CX P w) P w K mg base ["self", "filling"] "Drive.cut" (defScope s_Drive_cut) f cdv A outer s H E) (fun c d _ H => E c d H) := takes_of rfl rfl rfl rfl
  have po : PassesOwn (model P w) (cxOf (L2.CX P w) P w K mg base ["self", "filling"] "Drive.cut" (defScope s_Drive_cut) f cdv A outer s H E).A (cxOf (L2.CX P w) P w K mg base ["self", "filling"] "Drive.cut" (defScope s_Drive_cut) f cdv A outer s H E).env (cxOf (L2.CX P w) P w K mg base ["self", "filling"] "Drive.cut" (defScope s_Drive_cut) f cdv A outer s H E).xe := passes_of rfl
  unfold b_Drive_cut
  exact (ss_cons (s_expr (c_ (d_check_filling T) hr tk (a_cons (e_fld T.fd_disk (v_ 0)) (a_cons (v_ 1) a_nil))))
    (ss_cons (s_if (t_not (t_tru (mth_ (ci := 8) (n := 1) (m := 0) (is := [0]) (ks := []) (d_Drive_may_leave T) hr tk (fun _ _ _ _ _ _ pre us ws h0 h1 h2 => match pre, us, ws, h0, h1, h2 with | [_], [_], [], _, _, _ => rfl) (v_ 0) (ess1) (a_cons (v_ 1) a_nil) k_nil) (by intro _; rfl)))
    (ss_one (s_raise (ci := 6) rfl tk T.e_NotLeft (hr.room.mono (by decide)) rfl (v_ 1)))
    ss_nil)
    (ss_cons (s_fld T.fd__settled (v_ 0) (v_ 1))
    (ss_one (s_fld T.fd__pending (v_ 0) (e_lst a_nil))))))
theorem d__law_cell (T : Txt P w K mg base Ga) : Def P w K mg base Ga 1 "_law_cell" s__law_cell ["script", "k"] m__law_cell := by
  refine def_of (k := 0) T.f__law_cell sc__law_cell fun f cdv A outer s H E hr => ?_
  have tk : Takes (cxOf (L2.CX P w) P w K mg base ["script", "k"] "_law_cell" (defScope s__law_cell) f cdv A outer s H E) (fun c d _ H => E c d H) := takes_of rfl rfl rfl rfl
  have po : PassesOwn (model P w) (cxOf (L2.CX P w) P w K mg base ["script", "k"] "_law_cell" (defScope s__law_cell) f cdv A outer s H E).A (cxOf (L2.CX P w) P w K mg base ["script", "k"] "_law_cell" (defScope s__law_cell) f cdv A outer s H E).env (cxOf (L2.CX P w) P w K mg base ["script", "k"] "_law_cell" (defScope s__law_cell) f cdv A outer s H E).xe := passes_of rfl
  unfold b__law_cell
  exact (ss_one (s_ret (e_if (t_cmp (OpR.or op_lt (op_ltT hr.room.units0)) s_ltX (v_ 1) (e_fnB call_len f_len rfl T.b_len (by decide +kernel) (a_cons (v_ 0) a_nil)) (nomark _)) (e_sub_ (v_ 0) (v_ 1) (fun _ _ => rfl)) (addX_ (addX_ (mulX_ e_int (v_ 1)) e_int) (e_mod (e_fnT call_int1 f_int rfl T.b_int (by decide +kernel) (a_cons (e_fnB (cr_sum rfl) f_sum rfl T.b_sum (by decide +kernel) (a_cons (e_sl (v_ 0) o_no (o_so e_int)) a_nil)) a_nil)) e_int)))))
theorem d__law_box (T : Txt P w K mg base Ga) : Def P w K mg base Ga 1 "_law_box" s__law_box ["great"] m__law_box := by
  refine def_of (k := 0) T.f__law_box sc__law_box fun f cdv A outer s H E hr => ?_
  have tk : Takes (cxOf (L2.CX P w) P w K mg base ["great"] "_law_box" (defScope s__law_box) f cdv A outer s H E) (fun c d _ H => E c d H) := takes_of rfl rfl rfl rfl
  have po : PassesOwn (model P w) (cxOf (L2.CX P w) P w K mg base ["great"] "_law_box" (defScope s__law_box) f cdv A outer s H E).A (cxOf (L2.CX P w) P w K mg base ["great"] "_law_box" (defScope s__law_box) f cdv A outer s H E).env (cxOf (L2.CX P w) P w K mg base ["great"] "_law_box" (defScope s__law_box) f cdv A outer s H E).xe := passes_of rfl
  unfold b__law_box
  exact (ss_one (s_ret (e_lst (a_cons (e_fnB call_abs f_abs rfl T.b_abs (by decide +kernel) (a_cons (v_ 0) a_nil)) (a_cons (e_cmp op_ge s_intCmp (e_fnB call_abs f_abs rfl T.b_abs (by decide +kernel) (a_cons (v_ 0) a_nil)) (e_pow e_int e_int) (nomark _)) (a_cons (e_mod (e_fnT call_int1 f_int rfl T.b_int (by decide +kernel) (a_cons (e_fnB call_abs f_abs rfl T.b_abs (by decide +kernel) (a_cons (v_ 0) a_nil)) a_nil)) e_int) (a_cons e_int a_nil)))))))
theorem d__law_take (T : Txt P w K mg base Ga) : Def P w K mg base Ga 1 "_law_take" s__law_take ["box", "many"] m__law_take := by
  refine def_of (k := 0) T.f__law_take sc__law_take fun f cdv A outer s H E hr => ?_
  have tk : Takes (cxOf (L2.CX P w) P w K mg base ["box", "many", "digit", "mixed"] "_law_take" (defScope s__law_take) f cdv A outer s H E) (fun c d _ H => E c d H) := takes_of rfl rfl rfl rfl
  have po : PassesOwn (model P w) (cxOf (L2.CX P w) P w K mg base ["box", "many", "digit", "mixed"] "_law_take" (defScope s__law_take) f cdv A outer s H E).A (cxOf (L2.CX P w) P w K mg base ["box", "many", "digit", "mixed"] "_law_take" (defScope s__law_take) f cdv A outer s H E).env (cxOf (L2.CX P w) P w K mg base ["box", "many", "digit", "mixed"] "_law_take" (defScope s__law_take) f cdv A outer s H E).xe := passes_of rfl
  unfold b__law_take
  exact (ss_cons (s_if (PW.pt (w_and (t_tru (e_sub_ (v_ 0) e_int (fun _ _ => rfl)) (by intro _; rfl)) (w_and1 (t_cmp op_gt s_intCmp (e_sub_ (v_ 0) e_int (fun _ _ => rfl)) e_int (nomark _)))))
    (ss_cons (s_set (i := 2) sc__law_take.nd rfl (by first | exact Or.inl rfl | exact Or.inr rfl) lets0 (e_mod (e_fnT call_int1 f_int rfl T.b_int (by decide +kernel) (a_cons (e_sub_ (v_ 0) e_int (fun _ _ => rfl)) a_nil)) (v_ 1)))
    (ss_cons (s_asg (e_div (e_sub_ (v_ 0) e_int (fun _ _ => rfl)) (v_ 1)) (g_subL (Wd := W0) (pg_sub (v_ 0) e_int set_list)))
    (ss_one (s_ret (v_ 2)))))
    ss_nil)
    (ss_cons (s_asg (addX_ (e_sub_ (v_ 0) e_int (fun _ _ => rfl)) e_int) (g_subL (Wd := W0) (pg_sub (v_ 0) e_int set_list)))
    (ss_cons (s_set (i := 3) sc__law_take.nd rfl (by first | exact Or.inl rfl | exact Or.inr rfl) lets0 (e_mod (e_fnT call_int1 f_int rfl T.b_int (by decide +kernel) (a_cons (e_pow (addX_ (addX_ (e_sub_ (v_ 0) e_int (fun _ _ => rfl)) (mulX_ e_int (e_sub_ (v_ 0) e_int (fun _ _ => rfl)))) e_int) e_int) a_nil)) e_int))
    (ss_one (s_ret (e_mod (e_fnT call_int1 f_int rfl T.b_int (by decide +kernel) (a_cons (e_div (e_mod (e_fnT call_int1 f_int rfl T.b_int (by decide +kernel) (a_cons (e_pow (addX_ (mulX_ (v_ 3) e_int) (mulX_ e_int (e_sub_ (v_ 0) e_int (fun _ _ => rfl)))) e_int) a_nil)) e_int) e_int) a_nil)) (v_ 1)))))))
theorem d__law_sizes (T : Txt P w K mg base Ga) : Def P w K mg base Ga 2 "_law_sizes" s__law_sizes ["box"] m__law_sizes := by
  refine def_of (k := 1) T.f__law_sizes sc__law_sizes fun f cdv A outer s H E hr => ?_
  have tk : Takes (cxOf (L2.CX P w) P w K mg base ["box", "way", "contents"] "_law_sizes" (defScope s__law_sizes) f cdv A outer s H E) (fun c d _ H => E c d H) := takes_of rfl rfl rfl rfl
  have po : PassesOwn (model P w) (cxOf (L2.CX P w) P w K mg base ["box", "way", "contents"] "_law_sizes" (defScope s__law_sizes) f cdv A outer s H E).A (cxOf (L2.CX P w) P w K mg base ["box", "way", "contents"] "_law_sizes" (defScope s__law_sizes) f cdv A outer s H E).env (cxOf (L2.CX P w) P w K mg base ["box", "way", "contents"] "_law_sizes" (defScope s__law_sizes) f cdv A outer s H E).xe := passes_of rfl
  unfold b__law_sizes
  exact (ss_cons (s_set (i := 1) sc__law_sizes.nd rfl (by first | exact Or.inl rfl | exact Or.inr rfl) lets0 (c_ (d__law_take T) hr tk (a_cons (v_ 0) (a_cons e_int a_nil))))
    (ss_cons (s_set (i := 2) sc__law_sizes.nd rfl (by first | exact Or.inl rfl | exact Or.inr rfl) lets0 (e_if (t_cmp (OpR.or op_eq (op_eqD (hu64 hr))) s_eq (c_ (d__law_take T) hr tk (a_cons (v_ 0) (a_cons e_int a_nil))) e_int (nomark _)) (addX_ e_int (c_ (d__law_take T) hr tk (a_cons (v_ 0) (a_cons e_int a_nil)))) (e_sub_ (e_lst (a_cons e_int (a_cons e_int (a_cons e_int (a_cons e_int a_nil))))) (c_ (d__law_take T) hr tk (a_cons (v_ 0) (a_cons e_int a_nil))) (fun _ _ => rfl))))
    (ss_cons (s_if (t_cmp (OpR.or op_lt (op_ltT hr.room.units0)) s_ltX (v_ 1) e_int (nomark _))
    (ss_one (s_ret (e_tup (a_cons (e_sub_ (e_lst (a_cons e_int (a_cons e_int a_nil))) (v_ 1) (fun _ _ => rfl)) (a_cons (v_ 2) a_nil)))))
    ss_nil)
    (ss_one (s_ret (e_tup (a_cons (addX_ e_int (c_ (d__law_take T) hr tk (a_cons (v_ 0) (a_cons (e_sub_ (e_lst (a_cons e_int (a_cons e_int (a_cons e_int (a_cons e_int a_nil))))) (e_sub (v_ 1) e_int) (fun _ _ => rfl)) a_nil)))) (a_cons (v_ 2) a_nil))))))))
theorem d__law_odd_filling (T : Txt P w K mg base Ga) : Def P w K mg base Ga 1 "_law_odd_filling" s__law_odd_filling ["way", "at", "filling", "contents", "more"] m__law_odd_filling := by
  refine def_of (k := 0) T.f__law_odd_filling sc__law_odd_filling fun f cdv A outer s H E hr => ?_
  have tk : Takes (cxOf (L2.CX P w) P w K mg base ["way", "at", "filling", "contents", "more", "odd"] "_law_odd_filling" (defScope s__law_odd_filling) f cdv A outer s H E) (fun c d _ H => E c d H) := takes_of rfl rfl rfl rfl
  have po : PassesOwn (model P w) (cxOf (L2.CX P w) P w K mg base ["way", "at", "filling", "contents", "more", "odd"] "_law_odd_filling" (defScope s__law_odd_filling) f cdv A outer s H E).A (cxOf (L2.CX P w) P w K mg base ["way", "at", "filling", "contents", "more", "odd"] "_law_odd_filling" (defScope s__law_odd_filling) f cdv A outer s H E).env (cxOf (L2.CX P w) P w K mg base ["way", "at", "filling", "contents", "more", "odd"] "_law_odd_filling" (defScope s__law_odd_filling) f cdv A outer s H E).xe := passes_of rfl
  unfold b__law_odd_filling
  exact (ss_cons (s_if (t_cmp (OpR.or op_lt (op_ltT hr.room.units0)) s_ltX (v_ 0) e_int (nomark _))
    (ss_cons (s_set (i := 5) sc__law_odd_filling.nd rfl (by first | exact Or.inl rfl | exact Or.inr rfl) lets0 (e_sub_ (e_lst (a_cons (v_ 3) (a_cons (e_neg e_int) (a_cons (addX_ (v_ 3) (v_ 4)) (a_cons e_bl (a_cons e_bl (a_cons e_non (a_cons e_str (a_cons (e_tup (a_cons (e_sub_ (v_ 2) (v_ 1) (fun _ _ => rfl)) a_nil)) a_nil))))))))) (v_ 0) (fun _ _ => rfl)))
    (ss_one (s_ret (addX_ (addX_ (e_sl (v_ 2) o_no (o_so (v_ 1))) (e_tup (a_cons (v_ 5) a_nil))) (e_sl (v_ 2) (o_so (addX_ (v_ 1) e_int)) o_no)))))
    ss_nil)
    (ss_one (s_ret (e_sub_ (e_lst (a_cons (e_fnT call_list_of f_list rfl T.b_list (by decide +kernel) (a_cons (v_ 2) a_nil)) (a_cons (addX_ (v_ 2) (e_tup (a_cons e_int a_nil))) (a_cons (e_sl (v_ 2) o_no (o_so (e_neg e_int))) (a_cons (e_tup a_nil) (a_cons e_non (a_cons (e_lst a_nil) (a_cons e_str (a_cons e_dic0 (a_cons (e_tup (a_cons (v_ 2) a_nil)) (a_cons e_int a_nil))))))))))) (e_sub (v_ 0) e_int) (fun _ _ => rfl)))))
theorem d__law_same (T : Txt P w K mg base Ga) : Def P w K mg base Ga 1 "_law_same" s__law_same ["told", "word", "passed"] m__law_same := by
  refine def_of (k := 0) T.f__law_same sc__law_same fun f cdv A outer s H E hr => ?_
  have tk : Takes (cxOf (L2.CX P w) P w K mg base ["told", "word", "passed"] "_law_same" (defScope s__law_same) f cdv A outer s H E) (fun c d _ H => E c d H) := takes_of rfl rfl rfl rfl
  have po : PassesOwn (model P w) (cxOf (L2.CX P w) P w K mg base ["told", "word", "passed"] "_law_same" (defScope s__law_same) f cdv A outer s H E).A (cxOf (L2.CX P w) P w K mg base ["told", "word", "passed"] "_law_same" (defScope s__law_same) f cdv A outer s H E).env (cxOf (L2.CX P w) P w K mg base ["told", "word", "passed"] "_law_same" (defScope s__law_same) f cdv A outer s H E).xe := passes_of rfl
  unfold b__law_same
  exact (ss_cons (s_if (t_tru (e_isi (ty := .tList) rfl rfl T.b_isinstance rfl T.b_list (by decide +kernel) (ha := (v_ 2))) (by intro _; rfl))
    (ss_one (s_expr (e_app (v_ 2) e_str)))
    ss_nil)
    (ss_cons (s_if (t_tru (e_isi (ty := .tDict) rfl rfl T.b_isinstance rfl T.b_dict (by decide +kernel) (ha := (v_ 2))) (by intro _; rfl))
    (ss_one (s_dput (hu1 hr) (v_ 2) e_str e_int))
    ss_nil)
    (ss_one (s_ret (e_and (e_cmp (OpR.or op_eq (op_eqD (hu64 hr))) s_eq (e_sub_ (v_ 0) e_int (fun _ _ => rfl)) (v_ 1) (nomark _)) (e_one (e_cmp (OpR.or op_eq (op_eqD (hu64 hr))) s_eq (e_repr hr.g (hu70 hr) rfl T.b_repr (e_sub_ (v_ 0) e_int (fun _ _ => rfl))) (e_repr hr.g (hu70 hr) rfl T.b_repr (v_ 2)) (nomark _))))))))
theorem d__law_put (T : Txt P w K mg base Ga) : Def P w K mg base Ga 1 "_law_put" s__law_put ["filling", "writes"] m__law_put := by
  refine def_of (k := 0) T.f__law_put sc__law_put fun f cdv A outer s H E hr => ?_
  have tk : Takes (cxOf (L2.CX P w) P w K mg base ["filling", "writes", "found", "block", "content"] "_law_put" (defScope s__law_put) f cdv A outer s H E) (fun c d _ H => E c d H) := takes_of rfl rfl rfl rfl
  have po : PassesOwn (model P w) (cxOf (L2.CX P w) P w K mg base ["filling", "writes", "found", "block", "content"] "_law_put" (defScope s__law_put) f cdv A outer s H E).A (cxOf (L2.CX P w) P w K mg base ["filling", "writes", "found", "block", "content"] "_law_put" (defScope s__law_put) f cdv A outer s H E).env (cxOf (L2.CX P w) P w K mg base ["filling", "writes", "found", "block", "content"] "_law_put" (defScope s__law_put) f cdv A outer s H E).xe := passes_of rfl
  unfold b__law_put
  exact (ss_cons (s_set (i := 2) sc__law_put.nd rfl (by first | exact Or.inl rfl | exact Or.inr rfl) lets0 (e_fnT call_list_of f_list rfl T.b_list (by decide +kernel) (a_cons (v_ 0) a_nil)))
    (ss_cons (s_for po rfl (i_seq (v_ 1)) (g_seq rfl (gs_cons (g_ 3 sc__law_put.nd lets0) (gs_cons (g_ 4 sc__law_put.nd lets0) gs_nil)))
    (ss_one (s_asg (v_ 4) (g_subL (Wd := W0) (pg_sub (v_ 2) (v_ 3) set_list)))))
    (ss_one (s_ret (e_fnT call_tuple_of f_tuple rfl T.b_tuple (by decide +kernel) (a_cons (v_ 2) a_nil))))))
theorem d__law_opened (T : Txt P w K mg base Ga) : Def P w K mg base Ga 8 "_law_opened" s__law_opened ["way", "disk", "filling", "torn"] m__law_opened := by
  refine def_of (k := 7) T.f__law_opened sc__law_opened fun f cdv A outer s H E hr => ?_
  have tk : Takes (cxOf (L2.CX P w) P w K mg base ["way", "disk", "filling", "torn", "e"] "_law_opened" (defScope s__law_opened) f cdv A outer s H E) (fun c d _ H => E c d H) := takes_of rfl rfl rfl rfl
  have po : PassesOwn (model P w) (cxOf (L2.CX P w) P w K mg base ["way", "disk", "filling", "torn", "e"] "_law_opened" (defScope s__law_opened) f cdv A outer s H E).A (cxOf (L2.CX P w) P w K mg base ["way", "disk", "filling", "torn", "e"] "_law_opened" (defScope s__law_opened) f cdv A outer s H E).env (cxOf (L2.CX P w) P w K mg base ["way", "disk", "filling", "torn", "e"] "_law_opened" (defScope s__law_opened) f cdv A outer s H E).xe := passes_of rfl
  unfold b__law_opened
  exact (ss_one (s_try (n := 7) rfl rfl sc__law_opened.nd rfl tk T.x_x (fun W pn xe tk po => (ss_cons (s_if (PW.pt (w_and (t_cmp (OpR.or op_eq (op_eqD (hu64 hr))) s_eq (v_ 0) e_int (nomark _)) (w_and1 (t_tru (v_ 3) (by intro _; rfl)))))
    (ss_one (s_ret (e_lst (a_cons e_str (a_cons (mkd_ (n := 2) (m := 0) (is := [0, 1, 2]) (ks := []) (dws := [(.bl true)]) [("torn", (.bl true))] (d_Drive___init__ T) T.c_Drive hr tk (fun _ _ _ _ _ _ pre us ws mv h0 h1 h2 h3 => match pre, us, ws, mv, h0, h1, h2, h3 with | [_], [_, _], [], [_], _, _, _, _ => ⟨_, _, _, _, _, _, rfl, rfl, rfl⟩) (ess1) (a_cons (v_ 1) (a_cons (v_ 2) a_nil)) k_nil) a_nil)))))
    ss_nil)
    (ss_cons (s_if (t_cmp (OpR.or op_eq (op_eqD (hu64 hr))) s_eq (v_ 0) e_int (nomark _))
    (ss_one (s_ret (e_lst (a_cons e_str (a_cons (mkd_ (n := 0) (m := 3) (is := [2, 1, 0]) (ks := ["torn", "filling", "disk"]) (dws := []) [] (d_Drive___init__ T) T.c_Drive hr tk (fun _ _ _ _ _ _ pre us ws mv h0 h1 h2 h3 => match pre, us, ws, mv, h0, h1, h2, h3 with | [_], [], [_, _, _], [], _, _, _, _ => rfl) ess0 a_nil (k_cons (v_ 3) (k_cons (v_ 2) (k_cons (v_ 1) k_nil)))) a_nil)))))
    ss_nil)
    (ss_one (s_ret (e_lst (a_cons e_str (a_cons (mkd_ (n := 2) (m := 1) (is := [0, 1, 2]) (ks := ["torn"]) (dws := []) [] (d_Drive___init__ T) T.c_Drive hr tk (fun _ _ _ _ _ _ pre us ws mv h0 h1 h2 h3 => match pre, us, ws, mv, h0, h1, h2, h3 with | [_], [_, _], [_], [], _, _, _, _ => rfl) (ess1) (a_cons (v_ 1) (a_cons (v_ 2) a_nil)) (k_cons (v_ 3) k_nil)) a_nil))))))))
    (HdM.cons (nm := some ("e" : PySem.Str)) (names_ T.e_InvalidFilling) ⟨rfl, rfl⟩ (T.x_m 2 (by decide)) (fun av pn => (ss_one (s_ret (e_lst (a_cons e_str (a_cons (e_xfl T.xa_given (v_ 4)) a_nil))))))
    HdM.nil)))
theorem d__law_told (T : Txt P w K mg base Ga) : Def P w K mg base Ga 7 "_law_told" s__law_told ["drive", "deed", "named"] m__law_told := by
  refine def_of (k := 6) T.f__law_told sc__law_told fun f cdv A outer s H E hr => ?_
  have tk : Takes (cxOf (L2.CX P w) P w K mg base ["drive", "deed", "named", "e"] "_law_told" (defScope s__law_told) f cdv A outer s H E) (fun c d _ H => E c d H) := takes_of rfl rfl rfl rfl
  have po : PassesOwn (model P w) (cxOf (L2.CX P w) P w K mg base ["drive", "deed", "named", "e"] "_law_told" (defScope s__law_told) f cdv A outer s H E).A (cxOf (L2.CX P w) P w K mg base ["drive", "deed", "named", "e"] "_law_told" (defScope s__law_told) f cdv A outer s H E).env (cxOf (L2.CX P w) P w K mg base ["drive", "deed", "named", "e"] "_law_told" (defScope s__law_told) f cdv A outer s H E).xe := passes_of rfl
  unfold b__law_told
  exact (ss_one (s_try (n := 7) rfl rfl sc__law_told.nd rfl tk T.x_x (fun W pn xe tk po => (ss_cons (s_if (t_cmp (OpR.or op_eq (op_eqD (hu64 hr))) s_eq (e_sub_ (v_ 1) e_int (fun _ _ => rfl)) e_str (nomark _))
    (ss_one (s_ret (e_lst (a_cons e_str (a_cons (e_if (t_tru (v_ 2) (by intro _; rfl)) (mth_ (ci := 8) (n := 0) (m := 2) (is := [1, 0]) (ks := ["content", "block"]) (d_Drive_write T) hr tk (fun _ _ _ _ _ _ pre us ws h0 h1 h2 => match pre, us, ws, h0, h1, h2 with | [_], [], [_, _], _, _, _ => rfl) (v_ 0) ess0 a_nil (k_cons (e_sub_ (v_ 1) e_int (fun _ _ => rfl)) (k_cons (e_sub_ (v_ 1) e_int (fun _ _ => rfl)) k_nil))) (mth_ (ci := 8) (n := 2) (m := 0) (is := [0, 1]) (ks := []) (d_Drive_write T) hr tk (fun _ _ _ _ _ _ pre us ws h0 h1 h2 => match pre, us, ws, h0, h1, h2 with | [_], [_, _], [], _, _, _ => rfl) (v_ 0) (ess1) (a_cons (e_sub_ (v_ 1) e_int (fun _ _ => rfl)) (a_cons (e_sub_ (v_ 1) e_int (fun _ _ => rfl)) a_nil)) k_nil)) a_nil)))))
    ss_nil)
    (ss_cons (s_if (t_cmp (OpR.or op_eq (op_eqD (hu64 hr))) s_eq (e_sub_ (v_ 1) e_int (fun _ _ => rfl)) e_str (nomark _))
    (ss_one (s_ret (e_lst (a_cons e_str (a_cons (mth_ (ci := 8) (n := 0) (m := 0) (is := []) (ks := []) (d_Drive_sync T) hr tk (fun _ _ _ _ _ _ pre us ws h0 h1 h2 => match pre, us, ws, h0, h1, h2 with | [_], [], [], _, _, _ => rfl) (v_ 0) ess0 a_nil k_nil) a_nil)))))
    ss_nil)
    (ss_one (s_ret (e_lst (a_cons e_str (a_cons (e_if (t_tru (v_ 2) (by intro _; rfl)) (mth_ (ci := 8) (n := 0) (m := 1) (is := [0]) (ks := ["filling"]) (d_Drive_cut T) hr tk (fun _ _ _ _ _ _ pre us ws h0 h1 h2 => match pre, us, ws, h0, h1, h2 with | [_], [], [_], _, _, _ => rfl) (v_ 0) ess0 a_nil (k_cons (e_sub_ (v_ 1) e_int (fun _ _ => rfl)) k_nil)) (mth_ (ci := 8) (n := 1) (m := 0) (is := [0]) (ks := []) (d_Drive_cut T) hr tk (fun _ _ _ _ _ _ pre us ws h0 h1 h2 => match pre, us, ws, h0, h1, h2 with | [_], [_], [], _, _, _ => rfl) (v_ 0) (ess1) (a_cons (e_sub_ (v_ 1) e_int (fun _ _ => rfl)) a_nil) k_nil)) a_nil))))))))
    (HdM.cons (nm := some ("e" : PySem.Str)) (names_ T.e_InvalidBlock) ⟨rfl, rfl⟩ (T.x_m 3 (by decide)) (fun av pn => (ss_one (s_ret (e_lst (a_cons e_str (a_cons (e_xfl T.xa_given (v_ 3)) a_nil))))))
    (HdM.cons (nm := some ("e" : PySem.Str)) (names_ T.e_InvalidContent) ⟨rfl, rfl⟩ (T.x_m 4 (by decide)) (fun av pn => (ss_one (s_ret (e_lst (a_cons e_str (a_cons (e_xfl T.xa_given (v_ 3)) a_nil))))))
    (HdM.cons (nm := some ("e" : PySem.Str)) (names_ T.e_InvalidFilling) ⟨rfl, rfl⟩ (T.x_m 2 (by decide)) (fun av pn => (ss_one (s_ret (e_lst (a_cons e_str (a_cons (e_xfl T.xa_given (v_ 3)) a_nil))))))
    (HdM.cons (nm := some ("e" : PySem.Str)) (names_ T.e_NotLeft) ⟨rfl, rfl⟩ (T.x_m 6 (by decide)) (fun av pn => (ss_one (s_ret (e_lst (a_cons e_str (a_cons (e_xfl T.xa_filling (v_ 3)) a_nil))))))
    HdM.nil))))))
theorem d__law_stands (T : Txt P w K mg base Ga) : Def P w K mg base Ga 3 "_law_stands" s__law_stands ["box", "known"] m__law_stands := by
  refine def_of (k := 2) T.f__law_stands sc__law_stands fun f cdv A outer s H E hr => ?_
  have tk : Takes (cxOf (L2.CX P w) P w K mg base ["box", "known", "drive", "settled", "pending", "first", "turn", "which", "told", "one"] "_law_stands" (defScope s__law_stands) f cdv A outer s H E) (fun c d _ H => E c d H) := takes_of rfl rfl rfl rfl
  have po : PassesOwn (model P w) (cxOf (L2.CX P w) P w K mg base ["box", "known", "drive", "settled", "pending", "first", "turn", "which", "told", "one"] "_law_stands" (defScope s__law_stands) f cdv A outer s H E).A (cxOf (L2.CX P w) P w K mg base ["box", "known", "drive", "settled", "pending", "first", "turn", "which", "told", "one"] "_law_stands" (defScope s__law_stands) f cdv A outer s H E).env (cxOf (L2.CX P w) P w K mg base ["box", "known", "drive", "settled", "pending", "first", "turn", "which", "told", "one"] "_law_stands" (defScope s__law_stands) f cdv A outer s H E).xe := passes_of rfl
  unfold b__law_stands
  exact (ss_cons (s_par3 (i := 2) (j := 3) (l := 4) rfl sc__law_stands.nd rfl rfl rfl (by decide) (by decide) (by decide) rfl rfl rfl lets0 lets0 lets0 (a_cons (e_sub_ (v_ 1) e_int (fun _ _ => rfl)) (a_cons (e_sub_ (v_ 1) e_int (fun _ _ => rfl)) (a_cons (e_sub_ (v_ 1) e_int (fun _ _ => rfl)) a_nil))) (by rfl))
    (ss_cons (s_set (i := 5) sc__law_stands.nd rfl (by first | exact Or.inl rfl | exact Or.inr rfl) lets0 (c_ (d__law_take T) hr tk (a_cons (v_ 0) (a_cons e_int a_nil))))
    (ss_cons (s_for po rfl (i_rng1 rfl T.b_range e_int) (g_ 6 sc__law_stands.nd lets0)
    (ss_cons (s_set (i := 7) sc__law_stands.nd rfl (by first | exact Or.inl rfl | exact Or.inr rfl) lets0 (e_mod (e_fnT call_int1 f_int rfl T.b_int (by decide +kernel) (a_cons (addX_ (v_ 5) (v_ 6)) a_nil)) e_int))
    (ss_cons (s_if (t_cmp (OpR.or op_eq (op_eqD (hu64 hr))) s_eq (v_ 7) e_int (nomark _))
    (ss_cons (s_set (i := 8) sc__law_stands.nd rfl (by first | exact Or.inl rfl | exact Or.inr rfl) lets0 (mth_ (ci := 8) (n := 0) (m := 0) (is := []) (ks := []) (d_Drive_pending T) hr tk (fun _ _ _ _ _ _ pre us ws h0 h1 h2 => match pre, us, ws, h0, h1, h2 with | [_], [], [], _, _, _ => rfl) (v_ 2) ess0 a_nil k_nil))
    (ss_cons (s_if (PW.pt (w_or (t_not (t_tru (e_isi (ty := .tList) rfl rfl T.b_isinstance rfl T.b_list (by decide +kernel) (ha := (v_ 8))) (by intro _; rfl))) (w_or (t_cmp (OpR.or op_ne (op_neD (hu64 hr))) s_ne (v_ 8) (v_ 4) (nomark _)) (w_or1 (t_cmp (OpR.or op_ne (op_neD (hu64 hr))) s_ne (e_lc (own := [("one", 9)]) rfl sc__law_stands.nd (i_seq (v_ 8)) (blkOk_by (N := ["box", "known", "drive", "settled", "pending", "first", "turn", "which", "told", "one"]) (sc := defScope s__law_stands) (own := [("one", 9)]) (by decide +kernel)) (by decide) (b_ (x := "one") 9 _ _) (fun _ _ _ _ _ => (pg_name (i := 9) sc__law_stands.nd rfl (by first | exact Or.inl rfl | exact Or.inr rfl))) (fun _ _ _ _ _ => (ts_one (t_not (t_tru (e_isi (ty := .tTuple) rfl rfl T.b_isinstance rfl T.b_tuple (by decide +kernel) (ha := (v_ 9))) (by intro _; rfl))))) (fun _ _ _ _ _ => (v_ 9))) (e_lst a_nil) (nomark _))))))
    (ss_one (s_ret e_bl))
    ss_nil)
    (ss_cons (s_expr (e_app (v_ 8) (e_tup (a_cons e_int (a_cons e_int a_nil)))))
    (ss_one (s_expr (e_met0 PySem.F.slot_list_reverse PySem.F.type_list_reverse mt_reverse m_rev (v_ 8)))))))
    ss_nil)
    (ss_cons (s_if (t_cmp (OpR.or op_eq (op_eqD (hu64 hr))) s_eq (v_ 7) e_int (nomark _))
    (ss_cons (s_set (i := 8) sc__law_stands.nd rfl (by first | exact Or.inl rfl | exact Or.inr rfl) lets0 (mth_ (ci := 8) (n := 0) (m := 0) (is := []) (ks := []) (d_Drive_settled T) hr tk (fun _ _ _ _ _ _ pre us ws h0 h1 h2 => match pre, us, ws, h0, h1, h2 with | [_], [], [], _, _, _ => rfl) (v_ 2) ess0 a_nil k_nil))
    (ss_one (s_if (PW.pt (w_or (t_not (t_tru (e_isi (ty := .tTuple) rfl rfl T.b_isinstance rfl T.b_tuple (by decide +kernel) (ha := (v_ 8))) (by intro _; rfl))) (w_or1 (t_cmp (OpR.or op_ne (op_neD (hu64 hr))) s_ne (v_ 8) (v_ 3) (nomark _)))))
    (ss_one (s_ret e_bl))
    ss_nil)))
    ss_nil)
    (ss_one (s_if (t_cmp (OpR.or op_eq (op_eqD (hu64 hr))) s_eq (v_ 7) e_int (nomark _))
    (ss_cons (s_set (i := 8) sc__law_stands.nd rfl (by first | exact Or.inl rfl | exact Or.inr rfl) lets0 (mth_ (ci := 8) (n := 0) (m := 0) (is := []) (ks := []) (d_Drive_filling T) hr tk (fun _ _ _ _ _ _ pre us ws h0 h1 h2 => match pre, us, ws, h0, h1, h2 with | [_], [], [], _, _, _ => rfl) (v_ 2) ess0 a_nil k_nil))
    (ss_one (s_if (PW.pt (w_or (t_not (t_tru (e_isi (ty := .tTuple) rfl rfl T.b_isinstance rfl T.b_tuple (by decide +kernel) (ha := (v_ 8))) (by intro _; rfl))) (w_or1 (t_cmp (OpR.or op_ne (op_neD (hu64 hr))) s_ne (v_ 8) (c_ (d__law_put T) hr tk (a_cons (v_ 3) (a_cons (v_ 4) a_nil))) (nomark _)))))
    (ss_one (s_ret e_bl))
    ss_nil)))
    ss_nil))))))
    (ss_one (s_ret (e_and (e_cmp (OpR.or op_eq (op_eqD (hu64 hr))) s_eq (mth_ (ci := 8) (n := 0) (m := 0) (is := []) (ks := []) (d_Drive_pending T) hr tk (fun _ _ _ _ _ _ pre us ws h0 h1 h2 => match pre, us, ws, h0, h1, h2 with | [_], [], [], _, _, _ => rfl) (v_ 2) ess0 a_nil k_nil) (v_ 4) (nomark _)) (e_and (e_isi (ty := .tBool) rfl rfl T.b_isinstance rfl T.b_bool (by decide +kernel) (ha := (e_fld T.fd_torn (v_ 2)))) (e_one (e_cmp (OpR.or op_eq (op_eqD (hu64 hr))) s_eq (e_fld T.fd_torn (v_ 2)) (e_sub_ (v_ 1) e_int (fun _ _ => rfl)) (nomark _))))))))))
theorem d__law_menu (T : Txt P w K mg base Ga) : Def P w K mg base Ga 1 "_law_menu" s__law_menu ["known", "block"] m__law_menu := by
  refine def_of (k := 0) T.f__law_menu sc__law_menu fun f cdv A outer s H E hr => ?_
  have tk : Takes (cxOf (L2.CX P w) P w K mg base ["known", "block", "mine", "at", "content"] "_law_menu" (defScope s__law_menu) f cdv A outer s H E) (fun c d _ H => E c d H) := takes_of rfl rfl rfl rfl
  have po : PassesOwn (model P w) (cxOf (L2.CX P w) P w K mg base ["known", "block", "mine", "at", "content"] "_law_menu" (defScope s__law_menu) f cdv A outer s H E).A (cxOf (L2.CX P w) P w K mg base ["known", "block", "mine", "at", "content"] "_law_menu" (defScope s__law_menu) f cdv A outer s H E).env (cxOf (L2.CX P w) P w K mg base ["known", "block", "mine", "at", "content"] "_law_menu" (defScope s__law_menu) f cdv A outer s H E).xe := passes_of rfl
  unfold b__law_menu
  exact (ss_cons (s_setLc (i := 2) (own := [("at", 3), ("content", 4)]) rfl sc__law_menu.nd rfl rfl (sw_true rfl rfl rfl (by decide +kernel)) (i_seq (e_sub_ (v_ 0) e_int (fun _ _ => rfl))) (blkOk_by (N := ["known", "block", "mine", "at", "content"]) (sc := defScope s__law_menu) (own := [("at", 3), ("content", 4)]) (by decide +kernel)) (by decide) (b_tup rfl (bs_cons (b_ (x := "at") 3 _ _) (bs_cons (b_ (x := "content") 4 _ _) (bs_nil _ _)))) (fun _ _ _ _ _ => (pg_tup rfl (pgs_cons (pg_name (i := 3) sc__law_menu.nd rfl (by first | exact Or.inl rfl | exact Or.inr rfl)) (pgs_cons (pg_name (i := 4) sc__law_menu.nd rfl (by first | exact Or.inl rfl | exact Or.inr rfl)) pgs_nil)))) (fun _ _ _ _ _ => (ts_one (t_cmp (OpR.or op_eq (op_eqD (hu64 hr))) s_eq (v_ 3) (v_ 1) (nomark _)))) (fun _ _ _ _ _ => (v_ 4)))
    (ss_cons (s_if (t_cmp (OpR.or op_eq (op_eqD (hu64 hr))) s_eq (v_ 2) (e_lst a_nil) (nomark _))
    (ss_one (s_ret (e_lst (a_cons (e_sub_ (e_sub_ (v_ 0) e_int (fun _ _ => rfl)) (v_ 1) (fun _ _ => rfl)) a_nil))))
    ss_nil)
    (ss_cons (s_if (t_tru (e_sub_ (v_ 0) e_int (fun _ _ => rfl)) (by intro _; rfl))
    (ss_one (s_ret (e_lrng rfl rfl T.b_list rfl T.b_range (e_sub_ (e_sub_ (v_ 0) e_int (fun _ _ => rfl)) e_int (fun _ _ => rfl)))))
    ss_nil)
    (ss_one (s_ret (e_sortU rfl rfl T.b_sorted rfl T.b_set (addX_ (v_ 2) (e_lst (a_cons (e_sub_ (e_sub_ (v_ 0) e_int (fun _ _ => rfl)) (v_ 1) (fun _ _ => rfl)) a_nil)))))))))
theorem d__law_write (T : Txt P w K mg base Ga) : Def P w K mg base Ga 2 "_law_write" s__law_write ["box", "known"] m__law_write := by
  refine def_of (k := 1) T.f__law_write sc__law_write fun f cdv A outer s H E hr => ?_
  have tk : Takes (cxOf (L2.CX P w) P w K mg base ["box", "known", "blocks", "contents", "block", "way"] "_law_write" (defScope s__law_write) f cdv A outer s H E) (fun c d _ H => E c d H) := takes_of rfl rfl rfl rfl
  have po : PassesOwn (model P w) (cxOf (L2.CX P w) P w K mg base ["box", "known", "blocks", "contents", "block", "way"] "_law_write" (defScope s__law_write) f cdv A outer s H E).A (cxOf (L2.CX P w) P w K mg base ["box", "known", "blocks", "contents", "block", "way"] "_law_write" (defScope s__law_write) f cdv A outer s H E).env (cxOf (L2.CX P w) P w K mg base ["box", "known", "blocks", "contents", "block", "way"] "_law_write" (defScope s__law_write) f cdv A outer s H E).xe := passes_of rfl
  unfold b__law_write
  exact (ss_cons (s_asg (e_sub_ (v_ 1) e_int (fun _ _ => rfl)) (g_seq rfl (gs_cons (g_ 2 sc__law_write.nd lets0) (gs_cons (g_ 3 sc__law_write.nd lets0) gs_nil))))
    (ss_cons (s_set (i := 4) sc__law_write.nd rfl (by first | exact Or.inl rfl | exact Or.inr rfl) lets0 (c_ (d__law_take T) hr tk (a_cons (v_ 0) (a_cons (v_ 2) a_nil))))
    (ss_cons (s_if (PW.pt (w_and (t_cmp (OpR.or op_ne (op_neD (hu64 hr))) s_ne (e_sub_ (v_ 1) e_int (fun _ _ => rfl)) (e_lst a_nil) (nomark _)) (w_and1 (t_cmp (OpR.or op_eq (op_eqD (hu64 hr))) s_eq (c_ (d__law_take T) hr tk (a_cons (v_ 0) (a_cons e_int a_nil))) e_int (nomark _)))))
    (ss_one (s_set (i := 4) sc__law_write.nd rfl (by first | exact Or.inl rfl | exact Or.inr rfl) lets0 (e_sub_ (e_sub_ (e_sub_ (v_ 1) e_int (fun _ _ => rfl)) (c_ (d__law_take T) hr tk (a_cons (v_ 0) (a_cons (e_fnB call_len f_len rfl T.b_len (by decide +kernel) (a_cons (e_sub_ (v_ 1) e_int (fun _ _ => rfl)) a_nil)) a_nil))) (fun _ _ => rfl)) e_int (fun _ _ => rfl))))
    ss_nil)
    (ss_cons (s_set (i := 5) sc__law_write.nd rfl (by first | exact Or.inl rfl | exact Or.inr rfl) lets0 (c_ (d__law_take T) hr tk (a_cons (v_ 0) (a_cons e_int a_nil))))
    (ss_cons (s_if (t_cmp (OpR.or op_eq (op_eqD (hu64 hr))) s_eq (v_ 5) e_int (nomark _))
    (ss_one (s_ret (e_tup (a_cons e_str (a_cons (v_ 4) (a_cons (e_sub_ (e_sub_ (v_ 1) e_int (fun _ _ => rfl)) (v_ 4) (fun _ _ => rfl)) a_nil))))))
    ss_nil)
    (ss_cons (s_if (t_cmp (OpR.or op_eq (op_eqD (hu64 hr))) s_eq (v_ 5) e_int (nomark _))
    (ss_one (s_ret (e_tup (a_cons e_str (a_cons (v_ 4) (a_cons (e_sub_ (c_ (d__law_put T) hr tk (a_cons (e_sub_ (v_ 1) e_int (fun _ _ => rfl)) (a_cons (e_sub_ (v_ 1) e_int (fun _ _ => rfl)) a_nil))) (v_ 4) (fun _ _ => rfl)) a_nil))))))
    ss_nil)
    (ss_one (s_ret (e_tup (a_cons e_str (a_cons (v_ 4) (a_cons (c_ (d__law_take T) hr tk (a_cons (v_ 0) (a_cons (v_ 3) a_nil))) a_nil))))))))))))
theorem d__law_refused_write (T : Txt P w K mg base Ga) : Def P w K mg base Ga 2 "_law_refused_write" s__law_refused_write ["box", "known"] m__law_refused_write := by
  refine def_of (k := 1) T.f__law_refused_write sc__law_refused_write fun f cdv A outer s H E hr => ?_
  have tk : Takes (cxOf (L2.CX P w) P w K mg base ["box", "known", "blocks", "contents", "spoilt", "first", "second", "more", "odd", "other", "block", "content"] "_law_refused_write" (defScope s__law_refused_write) f cdv A outer s H E) (fun c d _ H => E c d H) := takes_of rfl rfl rfl rfl
  have po : PassesOwn (model P w) (cxOf (L2.CX P w) P w K mg base ["box", "known", "blocks", "contents", "spoilt", "first", "second", "more", "odd", "other", "block", "content"] "_law_refused_write" (defScope s__law_refused_write) f cdv A outer s H E).A (cxOf (L2.CX P w) P w K mg base ["box", "known", "blocks", "contents", "spoilt", "first", "second", "more", "odd", "other", "block", "content"] "_law_refused_write" (defScope s__law_refused_write) f cdv A outer s H E).env (cxOf (L2.CX P w) P w K mg base ["box", "known", "blocks", "contents", "spoilt", "first", "second", "more", "odd", "other", "block", "content"] "_law_refused_write" (defScope s__law_refused_write) f cdv A outer s H E).xe := passes_of rfl
  unfold b__law_refused_write
  exact (ss_cons (s_asg (e_sub_ (v_ 1) e_int (fun _ _ => rfl)) (g_seq rfl (gs_cons (g_ 2 sc__law_refused_write.nd lets0) (gs_cons (g_ 3 sc__law_refused_write.nd lets0) gs_nil))))
    (ss_cons (s_asg (e_tup (a_cons (addX_ e_int (c_ (d__law_take T) hr tk (a_cons (v_ 0) (a_cons e_int a_nil)))) (a_cons (c_ (d__law_take T) hr tk (a_cons (v_ 0) (a_cons e_int a_nil))) (a_cons (c_ (d__law_take T) hr tk (a_cons (v_ 0) (a_cons e_int a_nil))) (a_cons (addX_ e_int (c_ (d__law_take T) hr tk (a_cons (v_ 0) (a_cons e_int a_nil)))) a_nil))))) (g_seq rfl (gs_cons (g_ 4 sc__law_refused_write.nd lets0) (gs_cons (g_ 5 sc__law_refused_write.nd lets0) (gs_cons (g_ 6 sc__law_refused_write.nd lets0) (gs_cons (g_ 7 sc__law_refused_write.nd lets0) gs_nil))))))
    (ss_cons (s_set (i := 8) sc__law_refused_write.nd rfl (by first | exact Or.inl rfl | exact Or.inr rfl) lets0 (e_sub_ (e_lst (a_cons (e_neg e_int) (a_cons (v_ 2) (a_cons (addX_ (v_ 2) (v_ 7)) (a_cons (e_sub (e_neg e_int) (v_ 7)) (a_cons e_non (a_cons e_bl (a_cons e_bl (a_cons e_str (a_cons (e_tup (a_cons e_int a_nil)) (a_cons (e_lst (a_cons e_int a_nil)) (a_cons e_dic0 (a_cons (e_pow e_int e_int) a_nil))))))))))))) (v_ 5) (fun _ _ => rfl)))
    (ss_cons (s_set (i := 9) sc__law_refused_write.nd rfl (by first | exact Or.inl rfl | exact Or.inr rfl) lets0 (e_sub_ (e_lst (a_cons (e_neg e_int) (a_cons (v_ 3) (a_cons (addX_ (v_ 3) (v_ 7)) (a_cons (e_sub (e_neg e_int) (v_ 7)) (a_cons e_non (a_cons e_bl (a_cons e_bl (a_cons e_str (a_cons (e_tup (a_cons e_int a_nil)) (a_cons (e_lst (a_cons e_int a_nil)) (a_cons e_dic0 (a_cons (e_pow e_int e_int) a_nil))))))))))))) (v_ 6) (fun _ _ => rfl)))
    (ss_cons (s_par2 (i := 10) (j := 11) rfl sc__law_refused_write.nd rfl rfl (by decide) rfl rfl lets0 lets0 (a_cons (c_ (d__law_take T) hr tk (a_cons (v_ 0) (a_cons (v_ 2) a_nil))) (a_cons (c_ (d__law_take T) hr tk (a_cons (v_ 0) (a_cons (v_ 3) a_nil))) a_nil)) (by rfl))
    (ss_cons (s_if (t_cmp (OpR.or op_eq (op_eqD (hu64 hr))) s_eq (v_ 4) e_int (nomark _))
    (ss_one (s_ret (e_tup (a_cons (e_tup (a_cons e_str (a_cons (v_ 10) (a_cons (v_ 9) a_nil)))) (a_cons e_str (a_cons (v_ 9) a_nil))))))
    ss_nil)
    (ss_one (s_ret (e_tup (a_cons (e_tup (a_cons e_str (a_cons (v_ 8) (a_cons (e_if (t_cmp (OpR.or op_eq (op_eqD (hu64 hr))) s_eq (v_ 4) e_int (nomark _)) (v_ 11) (v_ 9)) a_nil)))) (a_cons e_str (a_cons (v_ 8) a_nil))))))))))))
theorem d__law_refused_cut (T : Txt P w K mg base Ga) : Def P w K mg base Ga 2 "_law_refused_cut" s__law_refused_cut ["box", "known"] m__law_refused_cut := by
  refine def_of (k := 1) T.f__law_refused_cut sc__law_refused_cut fun f cdv A outer s H E hr => ?_
  have tk : Takes (cxOf (L2.CX P w) P w K mg base ["box", "known", "blocks", "contents", "at", "way", "more", "left", "block", "odd", "menu", "others", "content", "value"] "_law_refused_cut" (defScope s__law_refused_cut) f cdv A outer s H E) (fun c d _ H => E c d H) := takes_of rfl rfl rfl rfl
  have po : PassesOwn (model P w) (cxOf (L2.CX P w) P w K mg base ["box", "known", "blocks", "contents", "at", "way", "more", "left", "block", "odd", "menu", "others", "content", "value"] "_law_refused_cut" (defScope s__law_refused_cut) f cdv A outer s H E).A (cxOf (L2.CX P w) P w K mg base ["box", "known", "blocks", "contents", "at", "way", "more", "left", "block", "odd", "menu", "others", "content", "value"] "_law_refused_cut" (defScope s__law_refused_cut) f cdv A outer s H E).env (cxOf (L2.CX P w) P w K mg base ["box", "known", "blocks", "contents", "at", "way", "more", "left", "block", "odd", "menu", "others", "content", "value"] "_law_refused_cut" (defScope s__law_refused_cut) f cdv A outer s H E).xe := passes_of rfl
  unfold b__law_refused_cut
  exact (ss_cons (s_asg (e_sub_ (v_ 1) e_int (fun _ _ => rfl)) (g_seq rfl (gs_cons (g_ 2 sc__law_refused_cut.nd lets0) (gs_cons (g_ 3 sc__law_refused_cut.nd lets0) gs_nil))))
    (ss_cons (s_par3 (i := 4) (j := 5) (l := 6) rfl sc__law_refused_cut.nd rfl rfl rfl (by decide) (by decide) (by decide) rfl rfl rfl lets0 lets0 lets0 (a_cons (c_ (d__law_take T) hr tk (a_cons (v_ 0) (a_cons (v_ 2) a_nil))) (a_cons (c_ (d__law_take T) hr tk (a_cons (v_ 0) (a_cons e_int a_nil))) (a_cons (addX_ e_int (c_ (d__law_take T) hr tk (a_cons (v_ 0) (a_cons e_int a_nil)))) a_nil))) (by rfl))
    (ss_cons (s_set (i := 7) sc__law_refused_cut.nd rfl (by first | exact Or.inl rfl | exact Or.inr rfl) lets0 (e_fnT call_tuple_of f_tuple rfl T.b_tuple (by decide +kernel) (a_cons (e_lc (own := [("block", 8)]) rfl sc__law_refused_cut.nd (i_rng1 rfl T.b_range (v_ 2)) (blkOk_by (N := ["box", "known", "blocks", "contents", "at", "way", "more", "left", "block", "odd", "menu", "others", "content", "value"]) (sc := defScope s__law_refused_cut) (own := [("block", 8)]) (by decide +kernel)) (by decide) (b_ (x := "block") 8 _ _) (fun _ _ _ _ _ => (pg_name (i := 8) sc__law_refused_cut.nd rfl (by first | exact Or.inl rfl | exact Or.inr rfl))) (fun _ _ _ _ _ => ts_nil) (fun _ _ _ _ _ => (e_sub_ (c_ (d__law_menu T) hr takes0 (a_cons (v_ 1) (a_cons (v_ 8) a_nil))) e_int (fun _ _ => rfl)))) a_nil)))
    (ss_cons (s_if (t_cmp (OpR.or op_eq (op_eqD (hu64 hr))) s_eq (c_ (d__law_take T) hr tk (a_cons (v_ 0) (a_cons e_int a_nil))) e_int (nomark _))
    (ss_cons (s_set (i := 9) sc__law_refused_cut.nd rfl (by first | exact Or.inl rfl | exact Or.inr rfl) lets0 (c_ (d__law_odd_filling T) hr tk (a_cons (v_ 5) (a_cons (v_ 4) (a_cons (v_ 7) (a_cons (v_ 3) (a_cons (v_ 6) a_nil)))))))
    (ss_one (s_ret (e_tup (a_cons (e_tup (a_cons e_str (a_cons (v_ 9) a_nil))) (a_cons e_str (a_cons (v_ 9) a_nil)))))))
    ss_nil)
    (ss_cons (s_set (i := 10) sc__law_refused_cut.nd rfl (by first | exact Or.inl rfl | exact Or.inr rfl) lets0 (c_ (d__law_menu T) hr tk (a_cons (v_ 1) (a_cons (v_ 4) a_nil))))
    (ss_cons (s_setLc (i := 11) (own := [("content", 12)]) rfl sc__law_refused_cut.nd rfl rfl (sw_true rfl rfl rfl (by decide +kernel)) (i_rng1 rfl T.b_range (v_ 3)) (blkOk_by (N := ["box", "known", "blocks", "contents", "at", "way", "more", "left", "block", "odd", "menu", "others", "content", "value"]) (sc := defScope s__law_refused_cut) (own := [("content", 12)]) (by decide +kernel)) (by decide) (b_ (x := "content") 12 _ _) (fun _ _ _ _ _ => (pg_name (i := 12) sc__law_refused_cut.nd rfl (by first | exact Or.inl rfl | exact Or.inr rfl))) (fun _ _ _ _ _ => (ts_one (t_cmp (op_notInD (hu65 hr)) s_notin (v_ 12) (v_ 10) (by rfl)))) (fun _ _ _ _ _ => (v_ 12)))
    (ss_cons (s_if (t_cmp (OpR.or op_eq (op_eqD (hu64 hr))) s_eq (v_ 11) (e_lst a_nil) (nomark _))
    (ss_one (s_ret e_non))
    ss_nil)
    (ss_cons (s_set (i := 13) sc__law_refused_cut.nd rfl (by first | exact Or.inl rfl | exact Or.inr rfl) lets0 (addX_ (addX_ (e_sl (v_ 7) o_no (o_so (v_ 4))) (e_tup (a_cons (e_sub_ (v_ 11) (c_ (d__law_take T) hr tk (a_cons (v_ 0) (a_cons (e_fnB call_len f_len rfl T.b_len (by decide +kernel) (a_cons (v_ 11) a_nil)) a_nil))) (fun _ _ => rfl)) a_nil))) (e_sl (v_ 7) (o_so (addX_ (v_ 4) e_int)) o_no)))
    (ss_one (s_ret (e_tup (a_cons (e_tup (a_cons e_str (a_cons (v_ 13) a_nil))) (a_cons e_str (a_cons (v_ 13) a_nil))))))))))))))
theorem d__law_turn (T : Txt P w K mg base Ga) : Def P w K mg base Ga 8 "_law_turn" s__law_turn ["box", "known"] m__law_turn := by
  refine def_of (k := 7) T.f__law_turn sc__law_turn fun f cdv A outer s H E hr => ?_
  have tk : Takes (cxOf (L2.CX P w) P w K mg base ["box", "known", "way", "named", "drive", "row", "leaves", "block", "menu", "due", "told", "deed"] "_law_turn" (defScope s__law_turn) f cdv A outer s H E) (fun c d _ H => E c d H) := takes_of rfl rfl rfl rfl
  have po : PassesOwn (model P w) (cxOf (L2.CX P w) P w K mg base ["box", "known", "way", "named", "drive", "row", "leaves", "block", "menu", "due", "told", "deed"] "_law_turn" (defScope s__law_turn) f cdv A outer s H E).A (cxOf (L2.CX P w) P w K mg base ["box", "known", "way", "named", "drive", "row", "leaves", "block", "menu", "due", "told", "deed"] "_law_turn" (defScope s__law_turn) f cdv A outer s H E).env (cxOf (L2.CX P w) P w K mg base ["box", "known", "way", "named", "drive", "row", "leaves", "block", "menu", "due", "told", "deed"] "_law_turn" (defScope s__law_turn) f cdv A outer s H E).xe := passes_of rfl
  unfold b__law_turn
  exact (ss_cons (s_par3 (i := 2) (j := 3) (l := 4) rfl sc__law_turn.nd rfl rfl rfl (by decide) (by decide) (by decide) rfl rfl rfl lets0 lets0 lets0 (a_cons (c_ (d__law_take T) hr tk (a_cons (v_ 0) (a_cons e_int a_nil))) (a_cons (e_cmp (OpR.or op_eq (op_eqD (hu64 hr))) s_eq (c_ (d__law_take T) hr tk (a_cons (v_ 0) (a_cons e_int a_nil))) e_int (nomark _)) (a_cons (e_sub_ (v_ 1) e_int (fun _ _ => rfl)) a_nil))) (by rfl))
    (ss_cons (s_if (t_cmp op_gt s_intCmp (v_ 2) e_int (nomark _))
    (ss_cons (s_set (i := 5) sc__law_turn.nd rfl (by first | exact Or.inl rfl | exact Or.inr rfl) lets0 (e_if (t_cmp (OpR.or op_eq (op_eqD (hu64 hr))) s_eq (v_ 2) e_int (nomark _)) (c_ (d__law_refused_write T) hr tk (a_cons (v_ 0) (a_cons (v_ 1) a_nil))) (c_ (d__law_refused_cut T) hr tk (a_cons (v_ 0) (a_cons (v_ 1) a_nil)))))
    (ss_cons (s_if (t_cmp (OpR.or op_isN op_isB) s_is (v_ 5) e_non (nomark _))
    (ss_one (s_ret e_bl))
    ss_nil)
    (ss_one (s_ret (c_ (d__law_same T) hr tk (a_cons (c_ (d__law_told T) hr tk (a_cons (v_ 4) (a_cons (e_sub_ (v_ 5) e_int (fun _ _ => rfl)) (a_cons (v_ 3) a_nil)))) (a_cons (e_sub_ (v_ 5) e_int (fun _ _ => rfl)) (a_cons (e_sub_ (v_ 5) e_int (fun _ _ => rfl)) a_nil))))))))
    ss_nil)
    (ss_cons (s_if (t_cmp (OpR.or op_eq (op_eqD (hu64 hr))) s_eq (v_ 2) e_int (nomark _))
    (ss_cons (s_set (i := 6) sc__law_turn.nd rfl (by first | exact Or.inl rfl | exact Or.inr rfl) lets0 (e_lst a_nil))
    (ss_cons (s_for po rfl (i_rng1 rfl T.b_range (e_sub_ (e_sub_ (v_ 1) e_int (fun _ _ => rfl)) e_int (fun _ _ => rfl))) (g_ 7 sc__law_turn.nd lets0)
    (ss_cons (s_set (i := 8) sc__law_turn.nd rfl (by first | exact Or.inl rfl | exact Or.inr rfl) lets0 (c_ (d__law_menu T) hr tk (a_cons (v_ 1) (a_cons (v_ 7) a_nil))))
    (ss_one (s_expr (e_app (v_ 6) (e_sub_ (v_ 8) (c_ (d__law_take T) hr tk (a_cons (v_ 0) (a_cons (e_fnB call_len f_len rfl T.b_len (by decide +kernel) (a_cons (v_ 8) a_nil)) a_nil))) (fun _ _ => rfl)))))))
    (ss_cons (s_asg (e_tup (a_cons (e_fnT call_tuple_of f_tuple rfl T.b_tuple (by decide +kernel) (a_cons (v_ 6) a_nil)) (a_cons (e_lst a_nil) a_nil))) (g_seq rfl (gs_cons (g_subL (Wd := W0) (pg_sub (v_ 1) e_int set_list)) (gs_cons (g_subL (Wd := W0) (pg_sub (v_ 1) e_int set_list)) gs_nil))))
    (ss_one (s_ret (e_cmp (OpR.or op_eq (op_eqD (hu64 hr))) s_eq (c_ (d__law_told T) hr tk (a_cons (v_ 4) (a_cons (e_tup (a_cons e_str (a_cons (e_fnT call_tuple_of f_tuple rfl T.b_tuple (by decide +kernel) (a_cons (v_ 6) a_nil)) a_nil))) (a_cons (v_ 3) a_nil)))) (e_lst (a_cons e_str (a_cons e_non a_nil))) (nomark _)))))))
    ss_nil)
    (ss_cons (s_if (t_cmp op_gt s_intCmp (v_ 2) e_int (nomark _))
    (ss_cons (s_set (i := 9) sc__law_turn.nd rfl (by first | exact Or.inl rfl | exact Or.inr rfl) lets0 (e_fnB call_len f_len rfl T.b_len (by decide +kernel) (a_cons (e_sub_ (v_ 1) e_int (fun _ _ => rfl)) a_nil)))
    (ss_cons (s_asg (e_tup (a_cons (c_ (d__law_put T) hr tk (a_cons (e_sub_ (v_ 1) e_int (fun _ _ => rfl)) (a_cons (e_sub_ (v_ 1) e_int (fun _ _ => rfl)) a_nil))) (a_cons (e_lst a_nil) a_nil))) (g_seq rfl (gs_cons (g_subL (Wd := W0) (pg_sub (v_ 1) e_int set_list)) (gs_cons (g_subL (Wd := W0) (pg_sub (v_ 1) e_int set_list)) gs_nil))))
    (ss_cons (s_set (i := 10) sc__law_turn.nd rfl (by first | exact Or.inl rfl | exact Or.inr rfl) lets0 (c_ (d__law_told T) hr tk (a_cons (v_ 4) (a_cons (e_tup (a_cons e_str a_nil)) (a_cons (v_ 3) a_nil)))))
    (ss_one (s_ret (e_and (e_cmp (OpR.or op_eq (op_eqD (hu64 hr))) s_eq (v_ 10) (e_lst (a_cons e_str (a_cons (v_ 9) a_nil))) (nomark _)) (e_one (e_not (e_isi (ty := .tBool) rfl rfl T.b_isinstance rfl T.b_bool (by decide +kernel) (ha := (e_sub_ (v_ 10) e_int (fun _ _ => rfl))))))))))))
    ss_nil)
    (ss_cons (s_set (i := 11) sc__law_turn.nd rfl (by first | exact Or.inl rfl | exact Or.inr rfl) lets0 (c_ (d__law_write T) hr tk (a_cons (v_ 0) (a_cons (v_ 1) a_nil))))
    (ss_cons (s_expr (e_app (e_sub_ (v_ 1) e_int (fun _ _ => rfl)) (e_tup (a_cons (e_sub_ (v_ 11) e_int (fun _ _ => rfl)) (a_cons (e_sub_ (v_ 11) e_int (fun _ _ => rfl)) a_nil)))))
    (ss_one (s_ret (e_cmp (OpR.or op_eq (op_eqD (hu64 hr))) s_eq (c_ (d__law_told T) hr tk (a_cons (v_ 4) (a_cons (v_ 11) (a_cons (v_ 3) a_nil)))) (e_lst (a_cons e_str (a_cons e_non a_nil))) (nomark _))))))))))
theorem eqs (T : Txt P w K mg base Ga) {X : Cx} (e1 : X.prog = P := by rfl) (e2 : X.w = w := by rfl) (e3 : X.K = K := by rfl) (e4 : X.mg = mg := by rfl) (e5 : X.base = base := by rfl) : EqFs X Ga 1 eqFs := by
  subst e1 e2 e3 e4 e5
  intro c mf hc
  unfold eqFs at hc
  split at hc
  · rename_i z; subst z; cases hc
    obtain ⟨f, fd, h1, h0, F, h2, M⟩ := (d_Disk___eq__ T).ex
    have nf := T.nf 7 (by decide)
    exact ⟨f, fd, _, ⟨h1, h0, nf.1, fun c cx => nf.2 c cx.cl.hd, fun c cx => nf.2 c cx.xf.hdC⟩, M.mono (by decide), h2⟩
  cases hc
theorem nes (T : Txt P w K mg base Ga) {X : Cx} (e3 : X.K = K := by rfl) : NeFs X Ga eqFs := by
  subst e3
  intro c mf hc
  unfold eqFs at hc
  split at hc
  · rename_i z; subst z; exact T.ne 7 (by decide)
  cases hc
theorem d__law_begun (T : Txt P w K mg base Ga) : Def P w K mg base Ga 9 "_law_begun" s__law_begun ["box", "sizes", "disk"] m__law_begun := by
  refine def_of (k := 8) T.f__law_begun sc__law_begun fun f cdv A outer s H E hr => ?_
  have tk : Takes (cxOf (L2.CX P w) P w K mg base ["box", "sizes", "disk", "blocks", "contents", "torn", "way", "filling", "k", "odd", "told"] "_law_begun" (defScope s__law_begun) f cdv A outer s H E) (fun c d _ H => E c d H) := takes_of rfl rfl rfl rfl
  have po : PassesOwn (model P w) (cxOf (L2.CX P w) P w K mg base ["box", "sizes", "disk", "blocks", "contents", "torn", "way", "filling", "k", "odd", "told"] "_law_begun" (defScope s__law_begun) f cdv A outer s H E).A (cxOf (L2.CX P w) P w K mg base ["box", "sizes", "disk", "blocks", "contents", "torn", "way", "filling", "k", "odd", "told"] "_law_begun" (defScope s__law_begun) f cdv A outer s H E).env (cxOf (L2.CX P w) P w K mg base ["box", "sizes", "disk", "blocks", "contents", "torn", "way", "filling", "k", "odd", "told"] "_law_begun" (defScope s__law_begun) f cdv A outer s H E).xe := passes_of rfl
  unfold b__law_begun
  exact (ss_cons (s_asg (v_ 1) (g_seq rfl (gs_cons (g_ 3 sc__law_begun.nd lets0) (gs_cons (g_ 4 sc__law_begun.nd lets0) gs_nil))))
    (ss_cons (s_par2 (i := 5) (j := 6) rfl sc__law_begun.nd rfl rfl (by decide) rfl rfl lets0 lets0 (a_cons (e_cmp (OpR.or (OpR.or op_eq (op_eqD (hu64 hr))) (op_eqO (hr.mono (by decide)) (eqs T))) s_eqO (c_ (d__law_take T) hr tk (a_cons (v_ 0) (a_cons e_int a_nil))) e_int (nomark _)) (a_cons (c_ (d__law_take T) hr tk (a_cons (v_ 0) (a_cons e_int a_nil))) a_nil)) (by rfl))
    (ss_cons (s_set (i := 7) sc__law_begun.nd rfl (by first | exact Or.inl rfl | exact Or.inr rfl) lets0 (e_fnT call_tuple_of f_tuple rfl T.b_tuple (by decide +kernel) (a_cons (e_lc (own := [("k", 8)]) rfl sc__law_begun.nd (i_rng1 rfl T.b_range (v_ 3)) (blkOk_by (N := ["box", "sizes", "disk", "blocks", "contents", "torn", "way", "filling", "k", "odd", "told"]) (sc := defScope s__law_begun) (own := [("k", 8)]) (by decide +kernel)) (by decide) (b_ (x := "k") 8 _ _) (fun _ _ _ _ _ => (pg_name (i := 8) sc__law_begun.nd rfl (by first | exact Or.inl rfl | exact Or.inr rfl))) (fun _ _ _ _ _ => ts_nil) (fun _ _ _ _ _ => (c_ (d__law_take T) hr takes0 (a_cons (v_ 0) (a_cons (v_ 4) a_nil))))) a_nil)))
    (ss_cons (s_set (i := 9) sc__law_begun.nd rfl (by first | exact Or.inl rfl | exact Or.inr rfl) lets0 (c_ (d__law_odd_filling T) hr tk (a_cons (c_ (d__law_take T) hr tk (a_cons (v_ 0) (a_cons e_int a_nil))) (a_cons (c_ (d__law_take T) hr tk (a_cons (v_ 0) (a_cons (v_ 3) a_nil))) (a_cons (v_ 7) (a_cons (v_ 4) (a_cons (addX_ e_int (c_ (d__law_take T) hr tk (a_cons (v_ 0) (a_cons e_int a_nil)))) a_nil)))))))
    (ss_cons (s_if (t_not (t_tru (c_ (d__law_same T) hr tk (a_cons (c_ (d__law_opened T) hr tk (a_cons (v_ 6) (a_cons (v_ 2) (a_cons (v_ 9) (a_cons (v_ 5) a_nil))))) (a_cons e_str (a_cons (v_ 9) a_nil)))) (by intro _; rfl)))
    (ss_one (s_ret e_non))
    ss_nil)
    (ss_cons (s_set (i := 10) sc__law_begun.nd rfl (by first | exact Or.inl rfl | exact Or.inr rfl) lets0 (c_ (d__law_opened T) hr tk (a_cons (v_ 6) (a_cons (v_ 2) (a_cons (v_ 7) (a_cons (v_ 5) a_nil))))))
    (ss_cons (s_if (PW.pt (w_or (t_cmp (OpR.or (OpR.or op_ne (op_neD (hu64 hr))) (op_neO (hr.mono (by decide)) (eqs T) (nes T))) (s_neO s_ne) (e_sub_ (v_ 10) e_int (fun _ _ => rfl)) e_str (nomark _)) (w_or1 (t_not (t_cmp (OpR.or (OpR.or op_eq (op_eqD (hu64 hr))) (op_eqO (hr.mono (by decide)) (eqs T))) s_eqO (e_fld T.fd_disk (e_sub_ (v_ 10) e_int (fun _ _ => rfl))) (mk_ (d_Disk___init__ T) T.c_Disk hr tk (a_cons (v_ 3) (a_cons (v_ 4) a_nil))) (nomark _))))))
    (ss_one (s_ret e_non))
    ss_nil)
    (ss_one (s_ret (e_lst (a_cons (e_sub_ (v_ 10) e_int (fun _ _ => rfl)) (a_cons (v_ 7) (a_cons (e_lst a_nil) (a_cons (v_ 1) (a_cons (v_ 5) a_nil)))))))))))))))
theorem d__law_right (T : Txt P w K mg base Ga) : Def P w K mg base Ga 10 "_law_right" s__law_right ["box"] m__law_right := by
  refine def_of (k := 9) T.f__law_right sc__law_right fun f cdv A outer s H E hr => ?_
  have tk : Takes (cxOf (L2.CX P w) P w K mg base ["box", "alike", "one", "other", "disk", "drives", "turn", "known", "held", "kept"] "_law_right" (defScope s__law_right) f cdv A outer s H E) (fun c d _ H => E c d H) := takes_of rfl rfl rfl rfl
  have po : PassesOwn (model P w) (cxOf (L2.CX P w) P w K mg base ["box", "alike", "one", "other", "disk", "drives", "turn", "known", "held", "kept"] "_law_right" (defScope s__law_right) f cdv A outer s H E).A (cxOf (L2.CX P w) P w K mg base ["box", "alike", "one", "other", "disk", "drives", "turn", "known", "held", "kept"] "_law_right" (defScope s__law_right) f cdv A outer s H E).env (cxOf (L2.CX P w) P w K mg base ["box", "alike", "one", "other", "disk", "drives", "turn", "known", "held", "kept"] "_law_right" (defScope s__law_right) f cdv A outer s H E).xe := passes_of rfl
  unfold b__law_right
  exact (ss_cons (s_par3 (i := 1) (j := 2) (l := 3) rfl sc__law_right.nd rfl rfl rfl (by decide) (by decide) (by decide) rfl rfl rfl lets0 lets0 lets0 (a_cons (c_ (d__law_take T) hr tk (a_cons (v_ 0) (a_cons e_int a_nil))) (a_cons (c_ (d__law_sizes T) hr tk (a_cons (v_ 0) a_nil)) (a_cons (c_ (d__law_sizes T) hr tk (a_cons (v_ 0) a_nil)) a_nil))) (by rfl))
    (ss_cons (s_set (i := 4) sc__law_right.nd rfl (by first | exact Or.inl rfl | exact Or.inr rfl) lets0 (mk_ (d_Disk___init__ T) T.c_Disk hr tk (a_cons (e_sub_ (v_ 2) e_int (fun _ _ => rfl)) (a_cons (e_sub_ (v_ 2) e_int (fun _ _ => rfl)) a_nil))))
    (ss_cons (s_set (i := 5) sc__law_right.nd rfl (by first | exact Or.inl rfl | exact Or.inr rfl) lets0 (e_lst (a_cons (c_ (d__law_begun T) hr tk (a_cons (v_ 0) (a_cons (v_ 2) (a_cons (v_ 4) a_nil)))) (a_cons (e_if (t_cmp (OpR.or op_eq (op_eqD (hu64 hr))) s_eq (v_ 1) e_int (nomark _)) (c_ (d__law_begun T) hr tk (a_cons (v_ 0) (a_cons (v_ 2) (a_cons (v_ 4) a_nil)))) (c_ (d__law_begun T) hr tk (a_cons (v_ 0) (a_cons (v_ 3) (a_cons (mk_ (d_Disk___init__ T) T.c_Disk hr tk (a_cons (e_sub_ (v_ 3) e_int (fun _ _ => rfl)) (a_cons (e_sub_ (v_ 3) e_int (fun _ _ => rfl)) a_nil))) a_nil))))) a_nil))))
    (ss_cons (s_if (PW.pt (w_or (t_cmp (OpR.or op_isN op_isB) s_is (e_sub_ (v_ 5) e_int (fun _ _ => rfl)) e_non (nomark _)) (w_or1 (t_cmp (OpR.or op_isN op_isB) s_is (e_sub_ (v_ 5) e_int (fun _ _ => rfl)) e_non (nomark _)))))
    (ss_one (s_ret e_bl))
    ss_nil)
    (ss_cons (s_for po rfl (i_rng1 rfl T.b_range e_int) (g_ 6 sc__law_right.nd lets0)
    (ss_cons (s_set (i := 7) sc__law_right.nd rfl (by first | exact Or.inl rfl | exact Or.inr rfl) lets0 (e_sub_ (v_ 5) (c_ (d__law_take T) hr tk (a_cons (v_ 0) (a_cons e_int a_nil))) (fun _ _ => rfl)))
    (ss_cons (s_par2 (i := 8) (j := 9) rfl sc__law_right.nd rfl rfl (by decide) rfl rfl lets0 lets0 (a_cons (mth_ (ci := 8) (n := 0) (m := 0) (is := []) (ks := []) (d_Drive_pending T) hr tk (fun _ _ _ _ _ _ pre us ws h0 h1 h2 => match pre, us, ws, h0, h1, h2 with | [_], [], [], _, _, _ => rfl) (e_sub_ (v_ 7) e_int (fun _ _ => rfl)) ess0 a_nil k_nil) (a_cons (e_fnT call_list_of f_list rfl T.b_list (by decide +kernel) (a_cons (e_sub_ (v_ 7) e_int (fun _ _ => rfl)) a_nil)) a_nil)) (by rfl))
    (ss_one (s_if (PW.pt (w_or (t_not (t_tru (c_ (d__law_turn T) hr tk (a_cons (v_ 0) (a_cons (v_ 7) a_nil))) (by intro _; rfl))) (w_or (t_not (t_tru (c_ (d__law_stands T) hr tk (a_cons (v_ 0) (a_cons (v_ 7) a_nil))) (by intro _; rfl))) (w_or1 (t_cmp (OpR.or op_ne (op_neD (hu64 hr))) s_ne (v_ 8) (v_ 9) (nomark _))))))
    (ss_one (s_ret e_bl))
    ss_nil)))))
    (ss_one (s_ret (e_and (c_ (d__law_stands T) hr tk (a_cons (v_ 0) (a_cons (e_sub_ (v_ 5) e_int (fun _ _ => rfl)) a_nil))) (e_one (c_ (d__law_stands T) hr tk (a_cons (v_ 0) (a_cons (e_sub_ (v_ 5) e_int (fun _ _ => rfl)) a_nil))))))))))))
theorem d__law_many_right (T : Txt P w K mg base Ga) : Def P w K mg base Ga 8 "_law_many_right" s__law_many_right ["box"] m__law_many_right := by
  refine def_of (k := 7) T.f__law_many_right sc__law_many_right fun f cdv A outer s H E hr => ?_
  have tk : Takes (cxOf (L2.CX P w) P w K mg base ["box", "drive", "step", "k", "last"] "_law_many_right" (defScope s__law_many_right) f cdv A outer s H E) (fun c d _ H => E c d H) := takes_of rfl rfl rfl rfl
  have po : PassesOwn (model P w) (cxOf (L2.CX P w) P w K mg base ["box", "drive", "step", "k", "last"] "_law_many_right" (defScope s__law_many_right) f cdv A outer s H E).A (cxOf (L2.CX P w) P w K mg base ["box", "drive", "step", "k", "last"] "_law_many_right" (defScope s__law_many_right) f cdv A outer s H E).env (cxOf (L2.CX P w) P w K mg base ["box", "drive", "step", "k", "last"] "_law_many_right" (defScope s__law_many_right) f cdv A outer s H E).xe := passes_of rfl
  unfold b__law_many_right
  exact (ss_cons (s_par2 (i := 1) (j := 2) rfl sc__law_many_right.nd rfl rfl (by decide) rfl rfl lets0 lets0 (a_cons (mkd_ (n := 2) (m := 0) (is := [0, 1, 2]) (ks := []) (dws := [(.bl true)]) [("torn", (.bl true))] (d_Drive___init__ T) T.c_Drive hr tk (fun _ _ _ _ _ _ pre us ws mv h0 h1 h2 h3 => match pre, us, ws, mv, h0, h1, h2, h3 with | [_], [_, _], [], [_], _, _, _, _ => ⟨_, _, _, _, _, _, rfl, rfl, rfl⟩) (ess1) (a_cons (mk_ (d_Disk___init__ T) T.c_Disk hr tk (a_cons e_int (a_cons e_int a_nil))) (a_cons (e_tup (a_cons e_int (a_cons e_int a_nil))) a_nil)) k_nil) (a_cons (addX_ e_int (mulX_ e_int (c_ (d__law_take T) hr tk (a_cons (v_ 0) (a_cons e_int a_nil))))) a_nil)) (by rfl))
    (ss_cons (s_for po rfl (i_rng1 rfl T.b_range e_int) (g_ 3 sc__law_many_right.nd lets0)
    (ss_one (s_expr (mth_ (ci := 8) (n := 2) (m := 0) (is := [0, 1]) (ks := []) (d_Drive_write T) hr tk (fun _ _ _ _ _ _ pre us ws h0 h1 h2 => match pre, us, ws, h0, h1, h2 with | [_], [_, _], [], _, _, _ => rfl) (v_ 1) (ess1) (a_cons (e_mod (e_fnT call_int1 f_int rfl T.b_int (by decide +kernel) (a_cons (v_ 3) a_nil)) e_int) (a_cons (e_mod (e_fnT call_int1 f_int rfl T.b_int (by decide +kernel) (a_cons (mulX_ (v_ 3) (v_ 2)) a_nil)) e_int) a_nil)) k_nil))))
    (ss_cons (s_set (i := 4) sc__law_many_right.nd rfl (by first | exact Or.inl rfl | exact Or.inr rfl) lets0 (e_tup (a_cons (e_mod (e_fnT call_int1 f_int rfl T.b_int (by decide +kernel) (a_cons (mulX_ e_int (v_ 2)) a_nil)) e_int) (a_cons (e_mod (e_fnT call_int1 f_int rfl T.b_int (by decide +kernel) (a_cons (mulX_ e_int (v_ 2)) a_nil)) e_int) a_nil))))
    (ss_cons (s_if (PW.pt (w_or (t_cmp (OpR.or op_ne (op_neD (hu64 hr))) s_ne (mth_ (ci := 8) (n := 0) (m := 0) (is := []) (ks := []) (d_Drive_filling T) hr tk (fun _ _ _ _ _ _ pre us ws h0 h1 h2 => match pre, us, ws, h0, h1, h2 with | [_], [], [], _, _, _ => rfl) (v_ 1) ess0 a_nil k_nil) (v_ 4) (nomark _)) (w_or (t_cmp (OpR.or op_ne (op_neD (hu64 hr))) s_ne (e_fnB call_len f_len rfl T.b_len (by decide +kernel) (a_cons (mth_ (ci := 8) (n := 0) (m := 0) (is := []) (ks := []) (d_Drive_pending T) hr tk (fun _ _ _ _ _ _ pre us ws h0 h1 h2 => match pre, us, ws, h0, h1, h2 with | [_], [], [], _, _, _ => rfl) (v_ 1) ess0 a_nil k_nil) a_nil)) e_int (nomark _)) (w_or1 (t_cmp (OpR.or op_ne (op_neD (hu64 hr))) s_ne (mth_ (ci := 8) (n := 0) (m := 0) (is := []) (ks := []) (d_Drive_settled T) hr tk (fun _ _ _ _ _ _ pre us ws h0 h1 h2 => match pre, us, ws, h0, h1, h2 with | [_], [], [], _, _, _ => rfl) (v_ 1) ess0 a_nil k_nil) (e_tup (a_cons e_int (a_cons e_int a_nil))) (nomark _))))))
    (ss_one (s_ret e_bl))
    ss_nil)
    (ss_one (s_ret (e_and (e_cmp (OpR.or op_eq (op_eqD (hu64 hr))) s_eq (mth_ (ci := 8) (n := 0) (m := 0) (is := []) (ks := []) (d_Drive_sync T) hr tk (fun _ _ _ _ _ _ pre us ws h0 h1 h2 => match pre, us, ws, h0, h1, h2 with | [_], [], [], _, _, _ => rfl) (v_ 1) ess0 a_nil k_nil) e_int (nomark _)) (e_and (e_cmp (OpR.or op_eq (op_eqD (hu64 hr))) s_eq (mth_ (ci := 8) (n := 0) (m := 0) (is := []) (ks := []) (d_Drive_settled T) hr tk (fun _ _ _ _ _ _ pre us ws h0 h1 h2 => match pre, us, ws, h0, h1, h2 with | [_], [], [], _, _, _ => rfl) (v_ 1) ess0 a_nil k_nil) (v_ 4) (nomark _)) (e_one (e_cmp (OpR.or op_eq (op_eqD (hu64 hr))) s_eq (mth_ (ci := 8) (n := 0) (m := 0) (is := []) (ks := []) (d_Drive_pending T) hr tk (fun _ _ _ _ _ _ pre us ws h0 h1 h2 => match pre, us, ws, h0, h1, h2 with | [_], [], [], _, _, _ => rfl) (v_ 1) ess0 a_nil k_nil) (e_lst a_nil) (nomark _)))))))))))
theorem d_law (T : Txt P w K mg base Ga) : Def P w K mg base Ga 11 "law" s_law ["script"] m_law := by
  refine def_of (k := 10) T.f_law sc_law fun f cdv A outer s H E hr => ?_
  have tk : Takes (cxOf (L2.CX P w) P w K mg base ["script", "great", "k"] "law" (defScope s_law) f cdv A outer s H E) (fun c d _ H => E c d H) := takes_of rfl rfl rfl rfl
  have po : PassesOwn (model P w) (cxOf (L2.CX P w) P w K mg base ["script", "great", "k"] "law" (defScope s_law) f cdv A outer s H E).A (cxOf (L2.CX P w) P w K mg base ["script", "great", "k"] "law" (defScope s_law) f cdv A outer s H E).env (cxOf (L2.CX P w) P w K mg base ["script", "great", "k"] "law" (defScope s_law) f cdv A outer s H E).xe := passes_of rfl
  unfold b_law
  exact (ss_cons (s_set (i := 1) sc_law.nd rfl (by first | exact Or.inl rfl | exact Or.inr rfl) lets0 (e_cmp (OpR.or op_eq (op_eqD (hu64 hr))) s_eq (c_ (d__law_take T) hr tk (a_cons (c_ (d__law_box T) hr tk (a_cons (e_div (c_ (d__law_cell T) hr tk (a_cons (v_ 0) (a_cons e_int a_nil))) e_int) a_nil)) (a_cons e_int a_nil))) e_int (nomark _)))
    (ss_cons (s_for po rfl (i_rng1 rfl T.b_range (e_fnB (call_max2 rfl) f_max2 rfl T.b_max (by decide +kernel) (a_cons e_int (a_cons (e_fnB (call_min2 rfl) f_min2 rfl T.b_min (by decide +kernel) (a_cons e_int (a_cons (e_fnB call_len f_len rfl T.b_len (by decide +kernel) (a_cons (v_ 0) a_nil)) a_nil))) a_nil)))) (g_ 2 sc_law.nd lets0)
    (ss_one (s_if (t_not (t_tru (c_ (d__law_right T) hr tk (a_cons (c_ (d__law_box T) hr tk (a_cons (c_ (d__law_cell T) hr tk (a_cons (v_ 0) (a_cons (v_ 2) a_nil))) a_nil)) a_nil)) (by intro _; rfl)))
    (ss_one (s_ret e_bl))
    ss_nil)))
    (ss_one (s_ret (e_if (t_tru (v_ 1) (by intro _; rfl)) (c_ (d__law_many_right T) hr tk (a_cons (c_ (d__law_box T) hr tk (a_cons (c_ (d__law_cell T) hr tk (a_cons (v_ 0) (a_cons e_int a_nil))) a_nil)) a_nil)) e_bl)))))
end
end K03
set_option Elab.async false
set_option linter.all false
set_option maxRecDepth 100000
set_option maxHeartbeats 4100000
namespace K03
open PySem PySem.Spec PyProof.Rows L2 Mini Br
theorem ok_InvalidBlocks {P : Program} {w : World} {K : PySem.W.Frag} {mg : Str → Option Value} {base : Heap} {f C : Addr} {fd : FuncData} (F : Fun K "__init__" "InvalidBlocks.__init__" s_InvalidBlocks f fd) (o : OexC K C) (no : PySem.W.findIn K (.ref C) "given" = some none) : FnOk P w K mg base CX0 1 f fd ["self", "given"] (spI "given" C) := by
  refine F.ok sc_InvalidBlocks (fun vs H Q E h => ?_) (fun cdv A outer s H vs Q E hr h => ?_)
  · obtain ⟨a, v, rfl, _⟩ := h; rfl
  · obtain ⟨a, v, rfl, ha, k⟩ := h
    refine ⟨_, pss_one (ps_ost (pv 0) (pv 1)), ?_⟩
    exact ⟨_, rfl, _, rfl, a, C, rfl, o, no, .inl ⟨ha, fun dx h1 h2 => k dx h1 h2⟩⟩
theorem ok_InvalidContents {P : Program} {w : World} {K : PySem.W.Frag} {mg : Str → Option Value} {base : Heap} {f C : Addr} {fd : FuncData} (F : Fun K "__init__" "InvalidContents.__init__" s_InvalidContents f fd) (o : OexC K C) (no : PySem.W.findIn K (.ref C) "given" = some none) : FnOk P w K mg base CX0 1 f fd ["self", "given"] (spI "given" C) := by
  refine F.ok sc_InvalidContents (fun vs H Q E h => ?_) (fun cdv A outer s H vs Q E hr h => ?_)
  · obtain ⟨a, v, rfl, _⟩ := h; rfl
  · obtain ⟨a, v, rfl, ha, k⟩ := h
    refine ⟨_, pss_one (ps_ost (pv 0) (pv 1)), ?_⟩
    exact ⟨_, rfl, _, rfl, a, C, rfl, o, no, .inl ⟨ha, fun dx h1 h2 => k dx h1 h2⟩⟩
theorem ok_InvalidFilling {P : Program} {w : World} {K : PySem.W.Frag} {mg : Str → Option Value} {base : Heap} {f C : Addr} {fd : FuncData} (F : Fun K "__init__" "InvalidFilling.__init__" s_InvalidFilling f fd) (o : OexC K C) (no : PySem.W.findIn K (.ref C) "given" = some none) : FnOk P w K mg base CX0 1 f fd ["self", "given"] (spI "given" C) := by
  refine F.ok sc_InvalidFilling (fun vs H Q E h => ?_) (fun cdv A outer s H vs Q E hr h => ?_)
  · obtain ⟨a, v, rfl, _⟩ := h; rfl
  · obtain ⟨a, v, rfl, ha, k⟩ := h
    refine ⟨_, pss_one (ps_ost (pv 0) (pv 1)), ?_⟩
    exact ⟨_, rfl, _, rfl, a, C, rfl, o, no, .inl ⟨ha, fun dx h1 h2 => k dx h1 h2⟩⟩
theorem ok_InvalidBlock {P : Program} {w : World} {K : PySem.W.Frag} {mg : Str → Option Value} {base : Heap} {f C : Addr} {fd : FuncData} (F : Fun K "__init__" "InvalidBlock.__init__" s_InvalidBlock f fd) (o : OexC K C) (no : PySem.W.findIn K (.ref C) "given" = some none) : FnOk P w K mg base CX0 1 f fd ["self", "given"] (spI "given" C) := by
  refine F.ok sc_InvalidBlock (fun vs H Q E h => ?_) (fun cdv A outer s H vs Q E hr h => ?_)
  · obtain ⟨a, v, rfl, _⟩ := h; rfl
  · obtain ⟨a, v, rfl, ha, k⟩ := h
    refine ⟨_, pss_one (ps_ost (pv 0) (pv 1)), ?_⟩
    exact ⟨_, rfl, _, rfl, a, C, rfl, o, no, .inl ⟨ha, fun dx h1 h2 => k dx h1 h2⟩⟩
theorem ok_InvalidContent {P : Program} {w : World} {K : PySem.W.Frag} {mg : Str → Option Value} {base : Heap} {f C : Addr} {fd : FuncData} (F : Fun K "__init__" "InvalidContent.__init__" s_InvalidContent f fd) (o : OexC K C) (no : PySem.W.findIn K (.ref C) "given" = some none) : FnOk P w K mg base CX0 1 f fd ["self", "given"] (spI "given" C) := by
  refine F.ok sc_InvalidContent (fun vs H Q E h => ?_) (fun cdv A outer s H vs Q E hr h => ?_)
  · obtain ⟨a, v, rfl, _⟩ := h; rfl
  · obtain ⟨a, v, rfl, ha, k⟩ := h
    refine ⟨_, pss_one (ps_ost (pv 0) (pv 1)), ?_⟩
    exact ⟨_, rfl, _, rfl, a, C, rfl, o, no, .inl ⟨ha, fun dx h1 h2 => k dx h1 h2⟩⟩
theorem ok_TooMany {P : Program} {w : World} {K : PySem.W.Frag} {mg : Str → Option Value} {base : Heap} {f C : Addr} {fd : FuncData} (F : Fun K "__init__" "TooMany.__init__" s_TooMany f fd) (o : OexC K C) (no : PySem.W.findIn K (.ref C) "count" = some none) : FnOk P w K mg base CX0 1 f fd ["self", "count"] (spI "count" C) := by
  refine F.ok sc_TooMany (fun vs H Q E h => ?_) (fun cdv A outer s H vs Q E hr h => ?_)
  · obtain ⟨a, v, rfl, _⟩ := h; rfl
  · obtain ⟨a, v, rfl, ha, k⟩ := h
    refine ⟨_, pss_one (ps_ost (pv 0) (pv 1)), ?_⟩
    exact ⟨_, rfl, _, rfl, a, C, rfl, o, no, .inl ⟨ha, fun dx h1 h2 => k dx h1 h2⟩⟩
theorem ok_NotLeft {P : Program} {w : World} {K : PySem.W.Frag} {mg : Str → Option Value} {base : Heap} {f C : Addr} {fd : FuncData} (F : Fun K "__init__" "NotLeft.__init__" s_NotLeft f fd) (o : OexC K C) (no : PySem.W.findIn K (.ref C) "filling" = some none) : FnOk P w K mg base CX0 1 f fd ["self", "filling"] (spI "filling" C) := by
  refine F.ok sc_NotLeft (fun vs H Q E h => ?_) (fun cdv A outer s H vs Q E hr h => ?_)
  · obtain ⟨a, v, rfl, _⟩ := h; rfl
  · obtain ⟨a, v, rfl, ha, k⟩ := h
    refine ⟨_, pss_one (ps_ost (pv 0) (pv 1)), ?_⟩
    exact ⟨_, rfl, _, rfl, a, C, rfl, o, no, .inl ⟨ha, fun dx h1 h2 => k dx h1 h2⟩⟩
set_option maxHeartbeats 4200000 in
theorem all_mk {w : World} {K : PySem.W.Frag} {h : Heap} {mg : Str → Option Value} {fa : Addr} {f0 f1 f2 f3 f4 f5 f6 f7 f8 f9 f10 f11 f12 f13 f14 f15 f16 f17 f18 f19 f20 f21 f22 f23 f24 f25 f26 f27 f28 f29 f30 f31 f32 f33 f34 f35 f36 f37 f38 f39 f40 f41 f42 C0 u0 C1 u1 C2 u2 C3 u3 C4 u4 C5 u5 C6 u6 C7 C8 : Addr} {od0 an0 : Option Addr} {sl0 : Array (Option Value)} {oc0 kV0 dc0 pm0 cd0 ct0 : Value} {od1 an1 : Option Addr} {sl1 : Array (Option Value)} {oc1 kV1 dc1 pm1 cd1 ct1 : Value} {od2 an2 : Option Addr} {sl2 : Array (Option Value)} {oc2 kV2 dc2 pm2 cd2 ct2 : Value} {od3 an3 : Option Addr} {sl3 : Array (Option Value)} {oc3 kV3 dc3 pm3 cd3 ct3 : Value} {od4 an4 : Option Addr} {sl4 : Array (Option Value)} {oc4 kV4 dc4 pm4 cd4 ct4 : Value} {od5 an5 : Option Addr} {sl5 : Array (Option Value)} {oc5 kV5 dc5 pm5 cd5 ct5 : Value} {od6 an6 : Option Addr} {sl6 : Array (Option Value)} {oc6 kV6 dc6 pm6 cd6 ct6 : Value} {od7 an7 : Option Addr} {sl7 : Array (Option Value)} {oc7 kV7 dc7 pm7 cd7 ct7 : Value} {od8 an8 : Option Addr} {sl8 : Array (Option Value)} {oc8 kV8 dc8 pm8 cd8 ct8 : Value} {od9 an9 : Option Addr} {sl9 : Array (Option Value)} {oc9 kV9 dc9 pm9 cd9 ct9 : Value} {od10 an10 : Option Addr} {sl10 : Array (Option Value)} {oc10 kV10 dc10 pm10 cd10 ct10 : Value} {od11 an11 : Option Addr} {sl11 : Array (Option Value)} {oc11 kV11 dc11 pm11 cd11 ct11 : Value} {od12 an12 : Option Addr} {sl12 : Array (Option Value)} {oc12 kV12 dc12 pm12 cd12 ct12 : Value} {od13 an13 : Option Addr} {sl13 : Array (Option Value)} {oc13 kV13 dc13 pm13 cd13 ct13 : Value} {od14 an14 : Option Addr} {sl14 : Array (Option Value)} {oc14 kV14 dc14 pm14 cd14 ct14 : Value} {od15 an15 : Option Addr} {sl15 : Array (Option Value)} {kD15 : Addr} {oc15 dc15 pm15 cd15 ct15 : Value} {od16 an16 : Option Addr} {sl16 : Array (Option Value)} {oc16 kV16 dc16 pm16 cd16 ct16 : Value} {od17 an17 : Option Addr} {sl17 : Array (Option Value)} {oc17 kV17 dc17 pm17 cd17 ct17 : Value} {od18 an18 : Option Addr} {sl18 : Array (Option Value)} {oc18 kV18 dc18 pm18 cd18 ct18 : Value} {od19 an19 : Option Addr} {sl19 : Array (Option Value)} {oc19 kV19 dc19 pm19 cd19 ct19 : Value} {od20 an20 : Option Addr} {sl20 : Array (Option Value)} {oc20 kV20 dc20 pm20 cd20 ct20 : Value} {od21 an21 : Option Addr} {sl21 : Array (Option Value)} {oc21 kV21 dc21 pm21 cd21 ct21 : Value} {od22 an22 : Option Addr} {sl22 : Array (Option Value)} {oc22 kV22 dc22 pm22 cd22 ct22 : Value} {od23 an23 : Option Addr} {sl23 : Array (Option Value)} {oc23 kV23 dc23 pm23 cd23 ct23 : Value} {od24 an24 : Option Addr} {sl24 : Array (Option Value)} {oc24 kV24 dc24 pm24 cd24 ct24 : Value} {od25 an25 : Option Addr} {sl25 : Array (Option Value)} {oc25 kV25 dc25 pm25 cd25 ct25 : Value} {od26 an26 : Option Addr} {sl26 : Array (Option Value)} {oc26 kV26 dc26 pm26 cd26 ct26 : Value} {od27 an27 : Option Addr} {sl27 : Array (Option Value)} {oc27 kV27 dc27 pm27 cd27 ct27 : Value} {od28 an28 : Option Addr} {sl28 : Array (Option Value)} {oc28 kV28 dc28 pm28 cd28 ct28 : Value} {od29 an29 : Option Addr} {sl29 : Array (Option Value)} {oc29 kV29 dc29 pm29 cd29 ct29 : Value} {od30 an30 : Option Addr} {sl30 : Array (Option Value)} {oc30 kV30 dc30 pm30 cd30 ct30 : Value} {od31 an31 : Option Addr} {sl31 : Array (Option Value)} {oc31 kV31 dc31 pm31 cd31 ct31 : Value} {od32 an32 : Option Addr} {sl32 : Array (Option Value)} {oc32 kV32 dc32 pm32 cd32 ct32 : Value} {od33 an33 : Option Addr} {sl33 : Array (Option Value)} {oc33 kV33 dc33 pm33 cd33 ct33 : Value} {od34 an34 : Option Addr} {sl34 : Array (Option Value)} {oc34 kV34 dc34 pm34 cd34 ct34 : Value} {od35 an35 : Option Addr} {sl35 : Array (Option Value)} {oc35 kV35 dc35 pm35 cd35 ct35 : Value} {od36 an36 : Option Addr} {sl36 : Array (Option Value)} {oc36 kV36 dc36 pm36 cd36 ct36 : Value} {od37 an37 : Option Addr} {sl37 : Array (Option Value)} {oc37 kV37 dc37 pm37 cd37 ct37 : Value} {od38 an38 : Option Addr} {sl38 : Array (Option Value)} {oc38 kV38 dc38 pm38 cd38 ct38 : Value} {od39 an39 : Option Addr} {sl39 : Array (Option Value)} {oc39 kV39 dc39 pm39 cd39 ct39 : Value} {od40 an40 : Option Addr} {sl40 : Array (Option Value)} {oc40 kV40 dc40 pm40 cd40 ct40 : Value} {od41 an41 : Option Addr} {sl41 : Array (Option Value)} {oc41 kV41 dc41 pm41 cd41 ct41 : Value} {od42 an42 : Option Addr} {sl42 : Array (Option Value)} {oc42 kV42 dc42 pm42 cd42 ct42 : Value} {t0 : Tok} {t1 : Tok} {t2 : Tok} {nm0 q0 : Str} {N0 : Addr} {bs0 bm0 : List Value} {sn0 : List Str} {sb0 : List Value} {ab0 : Bool} {co0 : Option Bool} {dd0 : Option Addr} {m00 m10 m20 m30 m50 : Option Value} {ode0 ane0 : Option Addr} {sle0 : Array (Option Value)} {oce0 kVe0 dce0 pme0 cde0 cte0 : Value} {nm1 q1 : Str} {N1 : Addr} {bs1 bm1 : List Value} {sn1 : List Str} {sb1 : List Value} {ab1 : Bool} {co1 : Option Bool} {dd1 : Option Addr} {m01 m11 m21 m31 m51 : Option Value} {ode1 ane1 : Option Addr} {sle1 : Array (Option Value)} {oce1 kVe1 dce1 pme1 cde1 cte1 : Value} {nm2 q2 : Str} {N2 : Addr} {bs2 bm2 : List Value} {sn2 : List Str} {sb2 : List Value} {ab2 : Bool} {co2 : Option Bool} {dd2 : Option Addr} {m02 m12 m22 m32 m52 : Option Value} {ode2 ane2 : Option Addr} {sle2 : Array (Option Value)} {oce2 kVe2 dce2 pme2 cde2 cte2 : Value} {nm3 q3 : Str} {N3 : Addr} {bs3 bm3 : List Value} {sn3 : List Str} {sb3 : List Value} {ab3 : Bool} {co3 : Option Bool} {dd3 : Option Addr} {m03 m13 m23 m33 m53 : Option Value} {ode3 ane3 : Option Addr} {sle3 : Array (Option Value)} {oce3 kVe3 dce3 pme3 cde3 cte3 : Value} {nm4 q4 : Str} {N4 : Addr} {bs4 bm4 : List Value} {sn4 : List Str} {sb4 : List Value} {ab4 : Bool} {co4 : Option Bool} {dd4 : Option Addr} {m04 m14 m24 m34 m54 : Option Value} {ode4 ane4 : Option Addr} {sle4 : Array (Option Value)} {oce4 kVe4 dce4 pme4 cde4 cte4 : Value} {nm5 q5 : Str} {N5 : Addr} {bs5 bm5 : List Value} {sn5 : List Str} {sb5 : List Value} {ab5 : Bool} {co5 : Option Bool} {dd5 : Option Addr} {m05 m15 m25 m35 m55 : Option Value} {ode5 ane5 : Option Addr} {sle5 : Array (Option Value)} {oce5 kVe5 dce5 pme5 cde5 cte5 : Value} {nm6 q6 : Str} {N6 : Addr} {bs6 bm6 : List Value} {sn6 : List Str} {sb6 : List Value} {ab6 : Bool} {co6 : Option Bool} {dd6 : Option Addr} {m06 m16 m26 m36 m56 : Option Value} {ode6 ane6 : Option Addr} {sle6 : Array (Option Value)} {oce6 kVe6 dce6 pme6 cde6 cte6 : Value} (X : K.In h) (G : h.Ns mainGlobals mg) (hfa : mg "law" = some (.ref fa))
    (a0 : PySem.W.nsIn K mainGlobals "is_whole" = some (some (.ref f0)))
    (l0 : K.lookup f0 = some ⟨oc0, od0, .func (PySem.W.fnOf "is_whole" "is_whole" (defArgs s_is_whole) (defBody s_is_whole) (defScope s_is_whole) .none kV0 dc0 pm0 an0 cd0 ct0), sl0⟩)
    (c0 : PySem.W.codeIn K cd0 "is_whole" = true)
    (k0 : PySem.W.keepIn K (.ref f0) = true)
    (a1 : PySem.W.nsIn K mainGlobals "is_between" = some (some (.ref f1)))
    (l1 : K.lookup f1 = some ⟨oc1, od1, .func (PySem.W.fnOf "is_between" "is_between" (defArgs s_is_between) (defBody s_is_between) (defScope s_is_between) .none kV1 dc1 pm1 an1 cd1 ct1), sl1⟩)
    (c1 : PySem.W.codeIn K cd1 "is_between" = true)
    (k1 : PySem.W.keepIn K (.ref f1) = true)
    (a2 : PySem.W.nsIn K mainGlobals "is_tuple_of" = some (some (.ref f2)))
    (l2 : K.lookup f2 = some ⟨oc2, od2, .func (PySem.W.fnOf "is_tuple_of" "is_tuple_of" (defArgs s_is_tuple_of) (defBody s_is_tuple_of) (defScope s_is_tuple_of) .none kV2 dc2 pm2 an2 cd2 ct2), sl2⟩)
    (c2 : PySem.W.codeIn K cd2 "is_tuple_of" = true)
    (k2 : PySem.W.keepIn K (.ref f2) = true)
    (a3 : PySem.W.nsIn K mainGlobals "is_contents" = some (some (.ref f3)))
    (l3 : K.lookup f3 = some ⟨oc3, od3, .func (PySem.W.fnOf "is_contents" "is_contents" (defArgs s_is_contents) (defBody s_is_contents) (defScope s_is_contents) .none kV3 dc3 pm3 an3 cd3 ct3), sl3⟩)
    (c3 : PySem.W.codeIn K cd3 "is_contents" = true)
    (k3 : PySem.W.keepIn K (.ref f3) = true)
    (A7 : PySem.W.nsIn K mainGlobals "Disk" = some (some (.ref C7)))
    (a4 : PySem.W.findIn K (.ref C7) "__init__" = some (some (.ref f4)))
    (w4 : PySem.W.isFn K (.ref f4) = true)
    (l4 : K.lookup f4 = some ⟨oc4, od4, .func (PySem.W.fnOf "__init__" "Disk.__init__" (defArgs s_Disk___init__) (defBody s_Disk___init__) (defScope s_Disk___init__) .none kV4 dc4 pm4 an4 cd4 ct4), sl4⟩)
    (c4 : PySem.W.codeIn K cd4 "Disk.__init__" = true)
    (k4 : PySem.W.keepIn K (.ref f4) = true)
    (a5 : PySem.W.findIn K (.ref C7) "__eq__" = some (some (.ref f5)))
    (w5 : PySem.W.isFn K (.ref f5) = true)
    (l5 : K.lookup f5 = some ⟨oc5, od5, .func (PySem.W.fnOf "__eq__" "Disk.__eq__" (defArgs s_Disk___eq__) (defBody s_Disk___eq__) (defScope s_Disk___eq__) .none kV5 dc5 pm5 an5 cd5 ct5), sl5⟩)
    (c5 : PySem.W.codeIn K cd5 "Disk.__eq__" = true)
    (k5 : PySem.W.keepIn K (.ref f5) = true)
    (a6 : PySem.W.nsIn K mainGlobals "figures" = some (some (.ref f6)))
    (l6 : K.lookup f6 = some ⟨oc6, od6, .func (PySem.W.fnOf "figures" "figures" (defArgs s_figures) (defBody s_figures) (defScope s_figures) .none kV6 dc6 pm6 an6 cd6 ct6), sl6⟩)
    (c6 : PySem.W.codeIn K cd6 "figures" = true)
    (k6 : PySem.W.keepIn K (.ref f6) = true)
    (a7 : PySem.W.nsIn K mainGlobals "is_block" = some (some (.ref f7)))
    (l7 : K.lookup f7 = some ⟨oc7, od7, .func (PySem.W.fnOf "is_block" "is_block" (defArgs s_is_block) (defBody s_is_block) (defScope s_is_block) .none kV7 dc7 pm7 an7 cd7 ct7), sl7⟩)
    (c7 : PySem.W.codeIn K cd7 "is_block" = true)
    (k7 : PySem.W.keepIn K (.ref f7) = true)
    (a8 : PySem.W.nsIn K mainGlobals "is_content" = some (some (.ref f8)))
    (l8 : K.lookup f8 = some ⟨oc8, od8, .func (PySem.W.fnOf "is_content" "is_content" (defArgs s_is_content) (defBody s_is_content) (defScope s_is_content) .none kV8 dc8 pm8 an8 cd8 ct8), sl8⟩)
    (c8 : PySem.W.codeIn K cd8 "is_content" = true)
    (k8 : PySem.W.keepIn K (.ref f8) = true)
    (a9 : PySem.W.nsIn K mainGlobals "is_filling" = some (some (.ref f9)))
    (l9 : K.lookup f9 = some ⟨oc9, od9, .func (PySem.W.fnOf "is_filling" "is_filling" (defArgs s_is_filling) (defBody s_is_filling) (defScope s_is_filling) .none kV9 dc9 pm9 an9 cd9 ct9), sl9⟩)
    (c9 : PySem.W.codeIn K cd9 "is_filling" = true)
    (k9 : PySem.W.keepIn K (.ref f9) = true)
    (a10 : PySem.W.nsIn K mainGlobals "check_filling" = some (some (.ref f10)))
    (l10 : K.lookup f10 = some ⟨oc10, od10, .func (PySem.W.fnOf "check_filling" "check_filling" (defArgs s_check_filling) (defBody s_check_filling) (defScope s_check_filling) .none kV10 dc10 pm10 an10 cd10 ct10), sl10⟩)
    (c10 : PySem.W.codeIn K cd10 "check_filling" = true)
    (k10 : PySem.W.keepIn K (.ref f10) = true)
    (a11 : PySem.W.nsIn K mainGlobals "after" = some (some (.ref f11)))
    (l11 : K.lookup f11 = some ⟨oc11, od11, .func (PySem.W.fnOf "after" "after" (defArgs s_after) (defBody s_after) (defScope s_after) .none kV11 dc11 pm11 an11 cd11 ct11), sl11⟩)
    (c11 : PySem.W.codeIn K cd11 "after" = true)
    (k11 : PySem.W.keepIn K (.ref f11) = true)
    (a12 : PySem.W.nsIn K mainGlobals "menus" = some (some (.ref f12)))
    (l12 : K.lookup f12 = some ⟨oc12, od12, .func (PySem.W.fnOf "menus" "menus" (defArgs s_menus) (defBody s_menus) (defScope s_menus) .none kV12 dc12 pm12 an12 cd12 ct12), sl12⟩)
    (c12 : PySem.W.codeIn K cd12 "menus" = true)
    (k12 : PySem.W.keepIn K (.ref f12) = true)
    (a13 : PySem.W.nsIn K mainGlobals "left_count" = some (some (.ref f13)))
    (l13 : K.lookup f13 = some ⟨oc13, od13, .func (PySem.W.fnOf "left_count" "left_count" (defArgs s_left_count) (defBody s_left_count) (defScope s_left_count) .none kV13 dc13 pm13 an13 cd13 ct13), sl13⟩)
    (c13 : PySem.W.codeIn K cd13 "left_count" = true)
    (k13 : PySem.W.keepIn K (.ref f13) = true)
    (a14 : PySem.W.nsIn K mainGlobals "left_numbers" = some (some (.ref f14)))
    (l14 : K.lookup f14 = some ⟨oc14, od14, .func (PySem.W.fnOf "left_numbers" "left_numbers" (defArgs s_left_numbers) (defBody s_left_numbers) (defScope s_left_numbers) .none kV14 dc14 pm14 an14 cd14 ct14), sl14⟩)
    (c14 : PySem.W.codeIn K cd14 "left_numbers" = true)
    (k14 : PySem.W.keepIn K (.ref f14) = true)
    (A8 : PySem.W.nsIn K mainGlobals "Drive" = some (some (.ref C8)))
    (a15 : PySem.W.findIn K (.ref C8) "__init__" = some (some (.ref f15)))
    (w15 : PySem.W.isFn K (.ref f15) = true)
    (l15 : K.lookup f15 = some ⟨oc15, od15, .func (PySem.W.fnOf "__init__" "Drive.__init__" (defArgs s_Drive___init__) (defBody s_Drive___init__) (defScope s_Drive___init__) .none (.ref kD15) dc15 pm15 an15 cd15 ct15), sl15⟩)
    (c15 : PySem.W.codeIn K cd15 "Drive.__init__" = true)
    (k15 : PySem.W.keepIn K (.ref f15) = true)
    (df15_0 : PySem.W.nsIn K kD15 "torn" = some (some (.bool true)))
    (a16 : PySem.W.findIn K (.ref C8) "write" = some (some (.ref f16)))
    (w16 : PySem.W.isFn K (.ref f16) = true)
    (l16 : K.lookup f16 = some ⟨oc16, od16, .func (PySem.W.fnOf "write" "Drive.write" (defArgs s_Drive_write) (defBody s_Drive_write) (defScope s_Drive_write) .none kV16 dc16 pm16 an16 cd16 ct16), sl16⟩)
    (c16 : PySem.W.codeIn K cd16 "Drive.write" = true)
    (k16 : PySem.W.keepIn K (.ref f16) = true)
    (a17 : PySem.W.findIn K (.ref C8) "pending" = some (some (.ref f17)))
    (w17 : PySem.W.isFn K (.ref f17) = true)
    (l17 : K.lookup f17 = some ⟨oc17, od17, .func (PySem.W.fnOf "pending" "Drive.pending" (defArgs s_Drive_pending) (defBody s_Drive_pending) (defScope s_Drive_pending) .none kV17 dc17 pm17 an17 cd17 ct17), sl17⟩)
    (c17 : PySem.W.codeIn K cd17 "Drive.pending" = true)
    (k17 : PySem.W.keepIn K (.ref f17) = true)
    (a18 : PySem.W.findIn K (.ref C8) "settled" = some (some (.ref f18)))
    (w18 : PySem.W.isFn K (.ref f18) = true)
    (l18 : K.lookup f18 = some ⟨oc18, od18, .func (PySem.W.fnOf "settled" "Drive.settled" (defArgs s_Drive_settled) (defBody s_Drive_settled) (defScope s_Drive_settled) .none kV18 dc18 pm18 an18 cd18 ct18), sl18⟩)
    (c18 : PySem.W.codeIn K cd18 "Drive.settled" = true)
    (k18 : PySem.W.keepIn K (.ref f18) = true)
    (a19 : PySem.W.findIn K (.ref C8) "filling" = some (some (.ref f19)))
    (w19 : PySem.W.isFn K (.ref f19) = true)
    (l19 : K.lookup f19 = some ⟨oc19, od19, .func (PySem.W.fnOf "filling" "Drive.filling" (defArgs s_Drive_filling) (defBody s_Drive_filling) (defScope s_Drive_filling) .none kV19 dc19 pm19 an19 cd19 ct19), sl19⟩)
    (c19 : PySem.W.codeIn K cd19 "Drive.filling" = true)
    (k19 : PySem.W.keepIn K (.ref f19) = true)
    (a20 : PySem.W.findIn K (.ref C8) "sync" = some (some (.ref f20)))
    (w20 : PySem.W.isFn K (.ref f20) = true)
    (l20 : K.lookup f20 = some ⟨oc20, od20, .func (PySem.W.fnOf "sync" "Drive.sync" (defArgs s_Drive_sync) (defBody s_Drive_sync) (defScope s_Drive_sync) .none kV20 dc20 pm20 an20 cd20 ct20), sl20⟩)
    (c20 : PySem.W.codeIn K cd20 "Drive.sync" = true)
    (k20 : PySem.W.keepIn K (.ref f20) = true)
    (a21 : PySem.W.findIn K (.ref C8) "left" = some (some (.ref f21)))
    (w21 : PySem.W.isFn K (.ref f21) = true)
    (l21 : K.lookup f21 = some ⟨oc21, od21, .func (PySem.W.fnOf "left" "Drive.left" (defArgs s_Drive_left) (defBody s_Drive_left) (defScope s_Drive_left) .none kV21 dc21 pm21 an21 cd21 ct21), sl21⟩)
    (c21 : PySem.W.codeIn K cd21 "Drive.left" = true)
    (k21 : PySem.W.keepIn K (.ref f21) = true)
    (a22 : PySem.W.findIn K (.ref C8) "may_leave" = some (some (.ref f22)))
    (w22 : PySem.W.isFn K (.ref f22) = true)
    (l22 : K.lookup f22 = some ⟨oc22, od22, .func (PySem.W.fnOf "may_leave" "Drive.may_leave" (defArgs s_Drive_may_leave) (defBody s_Drive_may_leave) (defScope s_Drive_may_leave) .none kV22 dc22 pm22 an22 cd22 ct22), sl22⟩)
    (c22 : PySem.W.codeIn K cd22 "Drive.may_leave" = true)
    (k22 : PySem.W.keepIn K (.ref f22) = true)
    (a23 : PySem.W.findIn K (.ref C8) "cut" = some (some (.ref f23)))
    (w23 : PySem.W.isFn K (.ref f23) = true)
    (l23 : K.lookup f23 = some ⟨oc23, od23, .func (PySem.W.fnOf "cut" "Drive.cut" (defArgs s_Drive_cut) (defBody s_Drive_cut) (defScope s_Drive_cut) .none kV23 dc23 pm23 an23 cd23 ct23), sl23⟩)
    (c23 : PySem.W.codeIn K cd23 "Drive.cut" = true)
    (k23 : PySem.W.keepIn K (.ref f23) = true)
    (a24 : PySem.W.nsIn K mainGlobals "_law_cell" = some (some (.ref f24)))
    (l24 : K.lookup f24 = some ⟨oc24, od24, .func (PySem.W.fnOf "_law_cell" "_law_cell" (defArgs s__law_cell) (defBody s__law_cell) (defScope s__law_cell) .none kV24 dc24 pm24 an24 cd24 ct24), sl24⟩)
    (c24 : PySem.W.codeIn K cd24 "_law_cell" = true)
    (k24 : PySem.W.keepIn K (.ref f24) = true)
    (a25 : PySem.W.nsIn K mainGlobals "_law_box" = some (some (.ref f25)))
    (l25 : K.lookup f25 = some ⟨oc25, od25, .func (PySem.W.fnOf "_law_box" "_law_box" (defArgs s__law_box) (defBody s__law_box) (defScope s__law_box) .none kV25 dc25 pm25 an25 cd25 ct25), sl25⟩)
    (c25 : PySem.W.codeIn K cd25 "_law_box" = true)
    (k25 : PySem.W.keepIn K (.ref f25) = true)
    (a26 : PySem.W.nsIn K mainGlobals "_law_take" = some (some (.ref f26)))
    (l26 : K.lookup f26 = some ⟨oc26, od26, .func (PySem.W.fnOf "_law_take" "_law_take" (defArgs s__law_take) (defBody s__law_take) (defScope s__law_take) .none kV26 dc26 pm26 an26 cd26 ct26), sl26⟩)
    (c26 : PySem.W.codeIn K cd26 "_law_take" = true)
    (k26 : PySem.W.keepIn K (.ref f26) = true)
    (a27 : PySem.W.nsIn K mainGlobals "_law_sizes" = some (some (.ref f27)))
    (l27 : K.lookup f27 = some ⟨oc27, od27, .func (PySem.W.fnOf "_law_sizes" "_law_sizes" (defArgs s__law_sizes) (defBody s__law_sizes) (defScope s__law_sizes) .none kV27 dc27 pm27 an27 cd27 ct27), sl27⟩)
    (c27 : PySem.W.codeIn K cd27 "_law_sizes" = true)
    (k27 : PySem.W.keepIn K (.ref f27) = true)
    (a28 : PySem.W.nsIn K mainGlobals "_law_odd_filling" = some (some (.ref f28)))
    (l28 : K.lookup f28 = some ⟨oc28, od28, .func (PySem.W.fnOf "_law_odd_filling" "_law_odd_filling" (defArgs s__law_odd_filling) (defBody s__law_odd_filling) (defScope s__law_odd_filling) .none kV28 dc28 pm28 an28 cd28 ct28), sl28⟩)
    (c28 : PySem.W.codeIn K cd28 "_law_odd_filling" = true)
    (k28 : PySem.W.keepIn K (.ref f28) = true)
    (a29 : PySem.W.nsIn K mainGlobals "_law_same" = some (some (.ref f29)))
    (l29 : K.lookup f29 = some ⟨oc29, od29, .func (PySem.W.fnOf "_law_same" "_law_same" (defArgs s__law_same) (defBody s__law_same) (defScope s__law_same) .none kV29 dc29 pm29 an29 cd29 ct29), sl29⟩)
    (c29 : PySem.W.codeIn K cd29 "_law_same" = true)
    (k29 : PySem.W.keepIn K (.ref f29) = true)
    (a30 : PySem.W.nsIn K mainGlobals "_law_put" = some (some (.ref f30)))
    (l30 : K.lookup f30 = some ⟨oc30, od30, .func (PySem.W.fnOf "_law_put" "_law_put" (defArgs s__law_put) (defBody s__law_put) (defScope s__law_put) .none kV30 dc30 pm30 an30 cd30 ct30), sl30⟩)
    (c30 : PySem.W.codeIn K cd30 "_law_put" = true)
    (k30 : PySem.W.keepIn K (.ref f30) = true)
    (a31 : PySem.W.nsIn K mainGlobals "_law_opened" = some (some (.ref f31)))
    (l31 : K.lookup f31 = some ⟨oc31, od31, .func (PySem.W.fnOf "_law_opened" "_law_opened" (defArgs s__law_opened) (defBody s__law_opened) (defScope s__law_opened) .none kV31 dc31 pm31 an31 cd31 ct31), sl31⟩)
    (c31 : PySem.W.codeIn K cd31 "_law_opened" = true)
    (k31 : PySem.W.keepIn K (.ref f31) = true)
    (a32 : PySem.W.nsIn K mainGlobals "_law_told" = some (some (.ref f32)))
    (l32 : K.lookup f32 = some ⟨oc32, od32, .func (PySem.W.fnOf "_law_told" "_law_told" (defArgs s__law_told) (defBody s__law_told) (defScope s__law_told) .none kV32 dc32 pm32 an32 cd32 ct32), sl32⟩)
    (c32 : PySem.W.codeIn K cd32 "_law_told" = true)
    (k32 : PySem.W.keepIn K (.ref f32) = true)
    (a33 : PySem.W.nsIn K mainGlobals "_law_stands" = some (some (.ref f33)))
    (l33 : K.lookup f33 = some ⟨oc33, od33, .func (PySem.W.fnOf "_law_stands" "_law_stands" (defArgs s__law_stands) (defBody s__law_stands) (defScope s__law_stands) .none kV33 dc33 pm33 an33 cd33 ct33), sl33⟩)
    (c33 : PySem.W.codeIn K cd33 "_law_stands" = true)
    (k33 : PySem.W.keepIn K (.ref f33) = true)
    (a34 : PySem.W.nsIn K mainGlobals "_law_menu" = some (some (.ref f34)))
    (l34 : K.lookup f34 = some ⟨oc34, od34, .func (PySem.W.fnOf "_law_menu" "_law_menu" (defArgs s__law_menu) (defBody s__law_menu) (defScope s__law_menu) .none kV34 dc34 pm34 an34 cd34 ct34), sl34⟩)
    (c34 : PySem.W.codeIn K cd34 "_law_menu" = true)
    (k34 : PySem.W.keepIn K (.ref f34) = true)
    (a35 : PySem.W.nsIn K mainGlobals "_law_write" = some (some (.ref f35)))
    (l35 : K.lookup f35 = some ⟨oc35, od35, .func (PySem.W.fnOf "_law_write" "_law_write" (defArgs s__law_write) (defBody s__law_write) (defScope s__law_write) .none kV35 dc35 pm35 an35 cd35 ct35), sl35⟩)
    (c35 : PySem.W.codeIn K cd35 "_law_write" = true)
    (k35 : PySem.W.keepIn K (.ref f35) = true)
    (a36 : PySem.W.nsIn K mainGlobals "_law_refused_write" = some (some (.ref f36)))
    (l36 : K.lookup f36 = some ⟨oc36, od36, .func (PySem.W.fnOf "_law_refused_write" "_law_refused_write" (defArgs s__law_refused_write) (defBody s__law_refused_write) (defScope s__law_refused_write) .none kV36 dc36 pm36 an36 cd36 ct36), sl36⟩)
    (c36 : PySem.W.codeIn K cd36 "_law_refused_write" = true)
    (k36 : PySem.W.keepIn K (.ref f36) = true)
    (a37 : PySem.W.nsIn K mainGlobals "_law_refused_cut" = some (some (.ref f37)))
    (l37 : K.lookup f37 = some ⟨oc37, od37, .func (PySem.W.fnOf "_law_refused_cut" "_law_refused_cut" (defArgs s__law_refused_cut) (defBody s__law_refused_cut) (defScope s__law_refused_cut) .none kV37 dc37 pm37 an37 cd37 ct37), sl37⟩)
    (c37 : PySem.W.codeIn K cd37 "_law_refused_cut" = true)
    (k37 : PySem.W.keepIn K (.ref f37) = true)
    (a38 : PySem.W.nsIn K mainGlobals "_law_turn" = some (some (.ref f38)))
    (l38 : K.lookup f38 = some ⟨oc38, od38, .func (PySem.W.fnOf "_law_turn" "_law_turn" (defArgs s__law_turn) (defBody s__law_turn) (defScope s__law_turn) .none kV38 dc38 pm38 an38 cd38 ct38), sl38⟩)
    (c38 : PySem.W.codeIn K cd38 "_law_turn" = true)
    (k38 : PySem.W.keepIn K (.ref f38) = true)
    (a39 : PySem.W.nsIn K mainGlobals "_law_begun" = some (some (.ref f39)))
    (l39 : K.lookup f39 = some ⟨oc39, od39, .func (PySem.W.fnOf "_law_begun" "_law_begun" (defArgs s__law_begun) (defBody s__law_begun) (defScope s__law_begun) .none kV39 dc39 pm39 an39 cd39 ct39), sl39⟩)
    (c39 : PySem.W.codeIn K cd39 "_law_begun" = true)
    (k39 : PySem.W.keepIn K (.ref f39) = true)
    (a40 : PySem.W.nsIn K mainGlobals "_law_right" = some (some (.ref f40)))
    (l40 : K.lookup f40 = some ⟨oc40, od40, .func (PySem.W.fnOf "_law_right" "_law_right" (defArgs s__law_right) (defBody s__law_right) (defScope s__law_right) .none kV40 dc40 pm40 an40 cd40 ct40), sl40⟩)
    (c40 : PySem.W.codeIn K cd40 "_law_right" = true)
    (k40 : PySem.W.keepIn K (.ref f40) = true)
    (a41 : PySem.W.nsIn K mainGlobals "_law_many_right" = some (some (.ref f41)))
    (l41 : K.lookup f41 = some ⟨oc41, od41, .func (PySem.W.fnOf "_law_many_right" "_law_many_right" (defArgs s__law_many_right) (defBody s__law_many_right) (defScope s__law_many_right) .none kV41 dc41 pm41 an41 cd41 ct41), sl41⟩)
    (c41 : PySem.W.codeIn K cd41 "_law_many_right" = true)
    (k41 : PySem.W.keepIn K (.ref f41) = true)
    (a42 : PySem.W.nsIn K mainGlobals "law" = some (some (.ref f42)))
    (l42 : K.lookup f42 = some ⟨oc42, od42, .func (PySem.W.fnOf "law" "law" (defArgs s_law) (defBody s_law) (defScope s_law) .none kV42 dc42 pm42 an42 cd42 ct42), sl42⟩)
    (c42 : PySem.W.codeIn K cd42 "law" = true)
    (k42 : PySem.W.keepIn K (.ref f42) = true)
    (z0 : PySem.W.nsIn K mainGlobals "abs" = some none)
    (z1 : PySem.W.nsIn K mainGlobals "all" = some none)
    (z2 : PySem.W.nsIn K mainGlobals "bool" = some none)
    (z3 : PySem.W.nsIn K mainGlobals "dict" = some none)
    (z4 : PySem.W.nsIn K mainGlobals "int" = some none)
    (z5 : PySem.W.nsIn K mainGlobals "isinstance" = some none)
    (z6 : PySem.W.nsIn K mainGlobals "len" = some none)
    (z7 : PySem.W.nsIn K mainGlobals "list" = some none)
    (z8 : PySem.W.nsIn K mainGlobals "max" = some none)
    (z9 : PySem.W.nsIn K mainGlobals "min" = some none)
    (z10 : PySem.W.nsIn K mainGlobals "range" = some none)
    (z11 : PySem.W.nsIn K mainGlobals "repr" = some none)
    (z12 : PySem.W.nsIn K mainGlobals "set" = some none)
    (z13 : PySem.W.nsIn K mainGlobals "sorted" = some none)
    (z14 : PySem.W.nsIn K mainGlobals "sum" = some none)
    (z15 : PySem.W.nsIn K mainGlobals "tuple" = some none)
    (z16 : PySem.W.nsIn K mainGlobals "zip" = some none)
    (gc0 : PySem.W.nsIn K mainGlobals "MOST_BLOCKS" = some (some (.int 24 t0)))
    (gc1 : PySem.W.nsIn K mainGlobals "MOST_CONTENTS" = some (some (.int 64 t1)))
    (gc2 : PySem.W.nsIn K mainGlobals "MOST_FILLINGS" = some (some (.int 20000 t2)))
    (A0 : PySem.W.nsIn K mainGlobals "InvalidBlocks" = some (some (.ref C0)))
    (X0 : K.lookup C0 = some (excClassObj nm0 q0 C0 N0 bs0 bm0 true sn0 sb0 ab0 co0 dd0 m00 m10 m20 m30 m50 "ValueError.__new__"))
    (v0 : PySem.HandSPX.refsVE bm0 = true)
    (sa0 : PySem.W.findIn K (.ref C0) "__setattr__" = some (some (.builtin "object.__setattr__")))
    (e0 : PySem.W.subIn K (.ref C0) (.type "BaseException") = some true)
    (T0 : PySem.W.typeIn K (.ref C0) = some (.type "type"))
    (I0 : PySem.W.isClsIn K C0 = true)
    (K0 : PySem.W.keepIn K (.ref C0) = true)
    (n0 : PySem.W.findIn K (.ref C0) "__init__" = some (some (.ref u0)))
    (y0 : PySem.W.typeIn K (.ref u0) = some (.type "function"))
    (le0 : K.lookup u0 = some ⟨oce0, ode0, .func (PySem.W.fnOf "__init__" "InvalidBlocks.__init__" (defArgs s_InvalidBlocks) (defBody s_InvalidBlocks) (defScope s_InvalidBlocks) .none kVe0 dce0 pme0 ane0 cde0 cte0), sle0⟩)
    (ce0 : PySem.W.codeIn K cde0 "InvalidBlocks.__init__" = true)
    (ke0 : PySem.W.keepIn K (.ref u0) = true)
    (ga0 : PySem.W.findIn K (.ref C0) "__getattribute__" = some (some (.builtin "BaseException.__getattribute__")))
    (gg0 : PySem.W.findIn K (.ref C0) "__getattr__" = some none)
    (hd0 : PySem.W.hasDictIn K C0 = true)
    (at0 : PySem.W.findIn K (.ref C0) "given" = some none)
    (ha0 : PySem.W.findIn K (.ref C0) "__class__" = some (some (.builtin "object.__class__")))
    (hm0 : PySem.W.mroIn K C0 (.type "object") = some true)
    (su0_int : PySem.W.subIn K (.ref C0) (.type "int") = some false)
    (su0_bool : PySem.W.subIn K (.ref C0) (.type "bool") = some false)
    (su0_str : PySem.W.subIn K (.ref C0) (.type "str") = some false)
    (su0_list : PySem.W.subIn K (.ref C0) (.type "list") = some false)
    (su0_tuple : PySem.W.subIn K (.ref C0) (.type "tuple") = some false)
    (su0_dict : PySem.W.subIn K (.ref C0) (.type "dict") = some false)
    (A1 : PySem.W.nsIn K mainGlobals "InvalidContents" = some (some (.ref C1)))
    (X1 : K.lookup C1 = some (excClassObj nm1 q1 C1 N1 bs1 bm1 true sn1 sb1 ab1 co1 dd1 m01 m11 m21 m31 m51 "ValueError.__new__"))
    (v1 : PySem.HandSPX.refsVE bm1 = true)
    (sa1 : PySem.W.findIn K (.ref C1) "__setattr__" = some (some (.builtin "object.__setattr__")))
    (e1 : PySem.W.subIn K (.ref C1) (.type "BaseException") = some true)
    (T1 : PySem.W.typeIn K (.ref C1) = some (.type "type"))
    (I1 : PySem.W.isClsIn K C1 = true)
    (K1 : PySem.W.keepIn K (.ref C1) = true)
    (n1 : PySem.W.findIn K (.ref C1) "__init__" = some (some (.ref u1)))
    (y1 : PySem.W.typeIn K (.ref u1) = some (.type "function"))
    (le1 : K.lookup u1 = some ⟨oce1, ode1, .func (PySem.W.fnOf "__init__" "InvalidContents.__init__" (defArgs s_InvalidContents) (defBody s_InvalidContents) (defScope s_InvalidContents) .none kVe1 dce1 pme1 ane1 cde1 cte1), sle1⟩)
    (ce1 : PySem.W.codeIn K cde1 "InvalidContents.__init__" = true)
    (ke1 : PySem.W.keepIn K (.ref u1) = true)
    (ga1 : PySem.W.findIn K (.ref C1) "__getattribute__" = some (some (.builtin "BaseException.__getattribute__")))
    (gg1 : PySem.W.findIn K (.ref C1) "__getattr__" = some none)
    (hd1 : PySem.W.hasDictIn K C1 = true)
    (at1 : PySem.W.findIn K (.ref C1) "given" = some none)
    (ha1 : PySem.W.findIn K (.ref C1) "__class__" = some (some (.builtin "object.__class__")))
    (hm1 : PySem.W.mroIn K C1 (.type "object") = some true)
    (su1_int : PySem.W.subIn K (.ref C1) (.type "int") = some false)
    (su1_bool : PySem.W.subIn K (.ref C1) (.type "bool") = some false)
    (su1_str : PySem.W.subIn K (.ref C1) (.type "str") = some false)
    (su1_list : PySem.W.subIn K (.ref C1) (.type "list") = some false)
    (su1_tuple : PySem.W.subIn K (.ref C1) (.type "tuple") = some false)
    (su1_dict : PySem.W.subIn K (.ref C1) (.type "dict") = some false)
    (A2 : PySem.W.nsIn K mainGlobals "InvalidFilling" = some (some (.ref C2)))
    (X2 : K.lookup C2 = some (excClassObj nm2 q2 C2 N2 bs2 bm2 true sn2 sb2 ab2 co2 dd2 m02 m12 m22 m32 m52 "ValueError.__new__"))
    (v2 : PySem.HandSPX.refsVE bm2 = true)
    (sa2 : PySem.W.findIn K (.ref C2) "__setattr__" = some (some (.builtin "object.__setattr__")))
    (e2 : PySem.W.subIn K (.ref C2) (.type "BaseException") = some true)
    (T2 : PySem.W.typeIn K (.ref C2) = some (.type "type"))
    (I2 : PySem.W.isClsIn K C2 = true)
    (K2 : PySem.W.keepIn K (.ref C2) = true)
    (n2 : PySem.W.findIn K (.ref C2) "__init__" = some (some (.ref u2)))
    (y2 : PySem.W.typeIn K (.ref u2) = some (.type "function"))
    (le2 : K.lookup u2 = some ⟨oce2, ode2, .func (PySem.W.fnOf "__init__" "InvalidFilling.__init__" (defArgs s_InvalidFilling) (defBody s_InvalidFilling) (defScope s_InvalidFilling) .none kVe2 dce2 pme2 ane2 cde2 cte2), sle2⟩)
    (ce2 : PySem.W.codeIn K cde2 "InvalidFilling.__init__" = true)
    (ke2 : PySem.W.keepIn K (.ref u2) = true)
    (ga2 : PySem.W.findIn K (.ref C2) "__getattribute__" = some (some (.builtin "BaseException.__getattribute__")))
    (gg2 : PySem.W.findIn K (.ref C2) "__getattr__" = some none)
    (hd2 : PySem.W.hasDictIn K C2 = true)
    (at2 : PySem.W.findIn K (.ref C2) "given" = some none)
    (ha2 : PySem.W.findIn K (.ref C2) "__class__" = some (some (.builtin "object.__class__")))
    (hm2 : PySem.W.mroIn K C2 (.type "object") = some true)
    (su2_int : PySem.W.subIn K (.ref C2) (.type "int") = some false)
    (su2_bool : PySem.W.subIn K (.ref C2) (.type "bool") = some false)
    (su2_str : PySem.W.subIn K (.ref C2) (.type "str") = some false)
    (su2_list : PySem.W.subIn K (.ref C2) (.type "list") = some false)
    (su2_tuple : PySem.W.subIn K (.ref C2) (.type "tuple") = some false)
    (su2_dict : PySem.W.subIn K (.ref C2) (.type "dict") = some false)
    (A3 : PySem.W.nsIn K mainGlobals "InvalidBlock" = some (some (.ref C3)))
    (X3 : K.lookup C3 = some (excClassObj nm3 q3 C3 N3 bs3 bm3 true sn3 sb3 ab3 co3 dd3 m03 m13 m23 m33 m53 "ValueError.__new__"))
    (v3 : PySem.HandSPX.refsVE bm3 = true)
    (sa3 : PySem.W.findIn K (.ref C3) "__setattr__" = some (some (.builtin "object.__setattr__")))
    (e3 : PySem.W.subIn K (.ref C3) (.type "BaseException") = some true)
    (T3 : PySem.W.typeIn K (.ref C3) = some (.type "type"))
    (I3 : PySem.W.isClsIn K C3 = true)
    (K3 : PySem.W.keepIn K (.ref C3) = true)
    (n3 : PySem.W.findIn K (.ref C3) "__init__" = some (some (.ref u3)))
    (y3 : PySem.W.typeIn K (.ref u3) = some (.type "function"))
    (le3 : K.lookup u3 = some ⟨oce3, ode3, .func (PySem.W.fnOf "__init__" "InvalidBlock.__init__" (defArgs s_InvalidBlock) (defBody s_InvalidBlock) (defScope s_InvalidBlock) .none kVe3 dce3 pme3 ane3 cde3 cte3), sle3⟩)
    (ce3 : PySem.W.codeIn K cde3 "InvalidBlock.__init__" = true)
    (ke3 : PySem.W.keepIn K (.ref u3) = true)
    (ga3 : PySem.W.findIn K (.ref C3) "__getattribute__" = some (some (.builtin "BaseException.__getattribute__")))
    (gg3 : PySem.W.findIn K (.ref C3) "__getattr__" = some none)
    (hd3 : PySem.W.hasDictIn K C3 = true)
    (at3 : PySem.W.findIn K (.ref C3) "given" = some none)
    (ha3 : PySem.W.findIn K (.ref C3) "__class__" = some (some (.builtin "object.__class__")))
    (hm3 : PySem.W.mroIn K C3 (.type "object") = some true)
    (su3_int : PySem.W.subIn K (.ref C3) (.type "int") = some false)
    (su3_bool : PySem.W.subIn K (.ref C3) (.type "bool") = some false)
    (su3_str : PySem.W.subIn K (.ref C3) (.type "str") = some false)
    (su3_list : PySem.W.subIn K (.ref C3) (.type "list") = some false)
    (su3_tuple : PySem.W.subIn K (.ref C3) (.type "tuple") = some false)
    (su3_dict : PySem.W.subIn K (.ref C3) (.type "dict") = some false)
    (A4 : PySem.W.nsIn K mainGlobals "InvalidContent" = some (some (.ref C4)))
    (X4 : K.lookup C4 = some (excClassObj nm4 q4 C4 N4 bs4 bm4 true sn4 sb4 ab4 co4 dd4 m04 m14 m24 m34 m54 "ValueError.__new__"))
    (v4 : PySem.HandSPX.refsVE bm4 = true)
    (sa4 : PySem.W.findIn K (.ref C4) "__setattr__" = some (some (.builtin "object.__setattr__")))
    (e4 : PySem.W.subIn K (.ref C4) (.type "BaseException") = some true)
    (T4 : PySem.W.typeIn K (.ref C4) = some (.type "type"))
    (I4 : PySem.W.isClsIn K C4 = true)
    (K4 : PySem.W.keepIn K (.ref C4) = true)
    (n4 : PySem.W.findIn K (.ref C4) "__init__" = some (some (.ref u4)))
    (y4 : PySem.W.typeIn K (.ref u4) = some (.type "function"))
    (le4 : K.lookup u4 = some ⟨oce4, ode4, .func (PySem.W.fnOf "__init__" "InvalidContent.__init__" (defArgs s_InvalidContent) (defBody s_InvalidContent) (defScope s_InvalidContent) .none kVe4 dce4 pme4 ane4 cde4 cte4), sle4⟩)
    (ce4 : PySem.W.codeIn K cde4 "InvalidContent.__init__" = true)
    (ke4 : PySem.W.keepIn K (.ref u4) = true)
    (ga4 : PySem.W.findIn K (.ref C4) "__getattribute__" = some (some (.builtin "BaseException.__getattribute__")))
    (gg4 : PySem.W.findIn K (.ref C4) "__getattr__" = some none)
    (hd4 : PySem.W.hasDictIn K C4 = true)
    (at4 : PySem.W.findIn K (.ref C4) "given" = some none)
    (ha4 : PySem.W.findIn K (.ref C4) "__class__" = some (some (.builtin "object.__class__")))
    (hm4 : PySem.W.mroIn K C4 (.type "object") = some true)
    (su4_int : PySem.W.subIn K (.ref C4) (.type "int") = some false)
    (su4_bool : PySem.W.subIn K (.ref C4) (.type "bool") = some false)
    (su4_str : PySem.W.subIn K (.ref C4) (.type "str") = some false)
    (su4_list : PySem.W.subIn K (.ref C4) (.type "list") = some false)
    (su4_tuple : PySem.W.subIn K (.ref C4) (.type "tuple") = some false)
    (su4_dict : PySem.W.subIn K (.ref C4) (.type "dict") = some false)
    (A5 : PySem.W.nsIn K mainGlobals "TooMany" = some (some (.ref C5)))
    (X5 : K.lookup C5 = some (excClassObj nm5 q5 C5 N5 bs5 bm5 true sn5 sb5 ab5 co5 dd5 m05 m15 m25 m35 m55 "ValueError.__new__"))
    (v5 : PySem.HandSPX.refsVE bm5 = true)
    (sa5 : PySem.W.findIn K (.ref C5) "__setattr__" = some (some (.builtin "object.__setattr__")))
    (e5 : PySem.W.subIn K (.ref C5) (.type "BaseException") = some true)
    (T5 : PySem.W.typeIn K (.ref C5) = some (.type "type"))
    (I5 : PySem.W.isClsIn K C5 = true)
    (K5 : PySem.W.keepIn K (.ref C5) = true)
    (n5 : PySem.W.findIn K (.ref C5) "__init__" = some (some (.ref u5)))
    (y5 : PySem.W.typeIn K (.ref u5) = some (.type "function"))
    (le5 : K.lookup u5 = some ⟨oce5, ode5, .func (PySem.W.fnOf "__init__" "TooMany.__init__" (defArgs s_TooMany) (defBody s_TooMany) (defScope s_TooMany) .none kVe5 dce5 pme5 ane5 cde5 cte5), sle5⟩)
    (ce5 : PySem.W.codeIn K cde5 "TooMany.__init__" = true)
    (ke5 : PySem.W.keepIn K (.ref u5) = true)
    (ga5 : PySem.W.findIn K (.ref C5) "__getattribute__" = some (some (.builtin "BaseException.__getattribute__")))
    (gg5 : PySem.W.findIn K (.ref C5) "__getattr__" = some none)
    (hd5 : PySem.W.hasDictIn K C5 = true)
    (at5 : PySem.W.findIn K (.ref C5) "count" = some none)
    (ha5 : PySem.W.findIn K (.ref C5) "__class__" = some (some (.builtin "object.__class__")))
    (hm5 : PySem.W.mroIn K C5 (.type "object") = some true)
    (su5_int : PySem.W.subIn K (.ref C5) (.type "int") = some false)
    (su5_bool : PySem.W.subIn K (.ref C5) (.type "bool") = some false)
    (su5_str : PySem.W.subIn K (.ref C5) (.type "str") = some false)
    (su5_list : PySem.W.subIn K (.ref C5) (.type "list") = some false)
    (su5_tuple : PySem.W.subIn K (.ref C5) (.type "tuple") = some false)
    (su5_dict : PySem.W.subIn K (.ref C5) (.type "dict") = some false)
    (A6 : PySem.W.nsIn K mainGlobals "NotLeft" = some (some (.ref C6)))
    (X6 : K.lookup C6 = some (excClassObj nm6 q6 C6 N6 bs6 bm6 true sn6 sb6 ab6 co6 dd6 m06 m16 m26 m36 m56 "ValueError.__new__"))
    (v6 : PySem.HandSPX.refsVE bm6 = true)
    (sa6 : PySem.W.findIn K (.ref C6) "__setattr__" = some (some (.builtin "object.__setattr__")))
    (e6 : PySem.W.subIn K (.ref C6) (.type "BaseException") = some true)
    (T6 : PySem.W.typeIn K (.ref C6) = some (.type "type"))
    (I6 : PySem.W.isClsIn K C6 = true)
    (K6 : PySem.W.keepIn K (.ref C6) = true)
    (n6 : PySem.W.findIn K (.ref C6) "__init__" = some (some (.ref u6)))
    (y6 : PySem.W.typeIn K (.ref u6) = some (.type "function"))
    (le6 : K.lookup u6 = some ⟨oce6, ode6, .func (PySem.W.fnOf "__init__" "NotLeft.__init__" (defArgs s_NotLeft) (defBody s_NotLeft) (defScope s_NotLeft) .none kVe6 dce6 pme6 ane6 cde6 cte6), sle6⟩)
    (ce6 : PySem.W.codeIn K cde6 "NotLeft.__init__" = true)
    (ke6 : PySem.W.keepIn K (.ref u6) = true)
    (ga6 : PySem.W.findIn K (.ref C6) "__getattribute__" = some (some (.builtin "BaseException.__getattribute__")))
    (gg6 : PySem.W.findIn K (.ref C6) "__getattr__" = some none)
    (hd6 : PySem.W.hasDictIn K C6 = true)
    (at6 : PySem.W.findIn K (.ref C6) "filling" = some none)
    (ha6 : PySem.W.findIn K (.ref C6) "__class__" = some (some (.builtin "object.__class__")))
    (hm6 : PySem.W.mroIn K C6 (.type "object") = some true)
    (su6_int : PySem.W.subIn K (.ref C6) (.type "int") = some false)
    (su6_bool : PySem.W.subIn K (.ref C6) (.type "bool") = some false)
    (su6_str : PySem.W.subIn K (.ref C6) (.type "str") = some false)
    (su6_list : PySem.W.subIn K (.ref C6) (.type "list") = some false)
    (su6_tuple : PySem.W.subIn K (.ref C6) (.type "tuple") = some false)
    (su6_dict : PySem.W.subIn K (.ref C6) (.type "dict") = some false)
    (hn : PySem.W.specialIn K (.builtin "object.__class__") "__get__" = some (some (.builtin "getset_descriptor.__get__")))
    (ht : PySem.W.takesIn K (.builtin "object.__class__") = some true)
    (h00 : PySem.W.hasDictIn K 0 = false)
    (pg7 : PySem.W.plainGet K C7 Str.empty = true)
    (hd7 : PySem.W.hasDictIn K C7 = true)
    (po7 : PySem.W.plainOver K C7 = true)
    (sa7 : PySem.W.findIn K (.ref C7) "__setattr__" = some (some (.builtin "object.__setattr__")))
    (ha7 : PySem.W.findIn K (.ref C7) "__class__" = some (some (.builtin "object.__class__")))
    (hm7 : PySem.W.mroIn K C7 (.type "object") = some true)
    (mk7 : PySem.W.makesIn K C7 = true)
    (K7 : PySem.W.keepIn K (.ref C7) = true)
    (I7 : PySem.W.isClsIn K C7 = true)
    (T7 : PySem.W.typeIn K (.ref C7) = some (.type "type"))
    (su7_int : PySem.W.subIn K (.ref C7) (.type "int") = some false)
    (su7_bool : PySem.W.subIn K (.ref C7) (.type "bool") = some false)
    (su7_str : PySem.W.subIn K (.ref C7) (.type "str") = some false)
    (su7_list : PySem.W.subIn K (.ref C7) (.type "list") = some false)
    (su7_tuple : PySem.W.subIn K (.ref C7) (.type "tuple") = some false)
    (su7_dict : PySem.W.subIn K (.ref C7) (.type "dict") = some false)
    (sv7_int : PySem.W.subIn K (.type "int") (.ref C7) = some false)
    (sv7_bool : PySem.W.subIn K (.type "bool") (.ref C7) = some false)
    (sv7_str : PySem.W.subIn K (.type "str") (.ref C7) = some false)
    (sv7_list : PySem.W.subIn K (.type "list") (.ref C7) = some false)
    (sv7_tuple : PySem.W.subIn K (.type "tuple") (.ref C7) = some false)
    (sv7_dict : PySem.W.subIn K (.type "dict") (.ref C7) = some false)
    (sv7_NoneType : PySem.W.subIn K (.type "NoneType") (.ref C7) = some false)
    (s0_7 : PySem.W.subIn K (.ref C0) (.ref C7) = some false)
    (s1_7 : PySem.W.subIn K (.ref C1) (.ref C7) = some false)
    (s2_7 : PySem.W.subIn K (.ref C2) (.ref C7) = some false)
    (s3_7 : PySem.W.subIn K (.ref C3) (.ref C7) = some false)
    (s4_7 : PySem.W.subIn K (.ref C4) (.ref C7) = some false)
    (s5_7 : PySem.W.subIn K (.ref C5) (.ref C7) = some false)
    (s6_7 : PySem.W.subIn K (.ref C6) (.ref C7) = some false)
    (s7_7 : PySem.W.subIn K (.ref C7) (.ref C7) = some true)
    (s8_7 : PySem.W.subIn K (.ref C8) (.ref C7) = some false)
    (nf7_int : PySem.W.notFirst K C7 (.type "int") = true)
    (nf7_bool : PySem.W.notFirst K C7 (.type "bool") = true)
    (nf7_str : PySem.W.notFirst K C7 (.type "str") = true)
    (nf7_list : PySem.W.notFirst K C7 (.type "list") = true)
    (nf7_tuple : PySem.W.notFirst K C7 (.type "tuple") = true)
    (nf7_dict : PySem.W.notFirst K C7 (.type "dict") = true)
    (nf7_NoneType : PySem.W.notFirst K C7 (.type "NoneType") = true)
    (ng7_0 : PySem.W.notFirst K C7 (.ref C0) = true)
    (ng7_1 : PySem.W.notFirst K C7 (.ref C1) = true)
    (ng7_2 : PySem.W.notFirst K C7 (.ref C2) = true)
    (ng7_3 : PySem.W.notFirst K C7 (.ref C3) = true)
    (ng7_4 : PySem.W.notFirst K C7 (.ref C4) = true)
    (ng7_5 : PySem.W.notFirst K C7 (.ref C5) = true)
    (ng7_6 : PySem.W.notFirst K C7 (.ref C6) = true)
    (ng7_7 : PySem.W.notFirst K C7 (.ref C7) = true)
    (ng7_8 : PySem.W.notFirst K C7 (.ref C8) = true)
    (ne7 : PySem.W.findIn K (.ref C7) "__ne__" = some (some (.builtin "object.__ne__")))
    (so7 : PySem.W.subIn K (.ref C7) (.type "object") = some true)
    (na7_blocks : PySem.W.findIn K (.ref C7) "blocks" = some none)
    (na7_contents : PySem.W.findIn K (.ref C7) "contents" = some none)
    (pg8 : PySem.W.plainGet K C8 Str.empty = true)
    (hd8 : PySem.W.hasDictIn K C8 = true)
    (po8 : PySem.W.plainOver K C8 = true)
    (sa8 : PySem.W.findIn K (.ref C8) "__setattr__" = some (some (.builtin "object.__setattr__")))
    (ha8 : PySem.W.findIn K (.ref C8) "__class__" = some (some (.builtin "object.__class__")))
    (hm8 : PySem.W.mroIn K C8 (.type "object") = some true)
    (mk8 : PySem.W.makesIn K C8 = true)
    (K8 : PySem.W.keepIn K (.ref C8) = true)
    (I8 : PySem.W.isClsIn K C8 = true)
    (T8 : PySem.W.typeIn K (.ref C8) = some (.type "type"))
    (su8_int : PySem.W.subIn K (.ref C8) (.type "int") = some false)
    (su8_bool : PySem.W.subIn K (.ref C8) (.type "bool") = some false)
    (su8_str : PySem.W.subIn K (.ref C8) (.type "str") = some false)
    (su8_list : PySem.W.subIn K (.ref C8) (.type "list") = some false)
    (su8_tuple : PySem.W.subIn K (.ref C8) (.type "tuple") = some false)
    (su8_dict : PySem.W.subIn K (.ref C8) (.type "dict") = some false)
    (sv8_int : PySem.W.subIn K (.type "int") (.ref C8) = some false)
    (sv8_bool : PySem.W.subIn K (.type "bool") (.ref C8) = some false)
    (sv8_str : PySem.W.subIn K (.type "str") (.ref C8) = some false)
    (sv8_list : PySem.W.subIn K (.type "list") (.ref C8) = some false)
    (sv8_tuple : PySem.W.subIn K (.type "tuple") (.ref C8) = some false)
    (sv8_dict : PySem.W.subIn K (.type "dict") (.ref C8) = some false)
    (sv8_NoneType : PySem.W.subIn K (.type "NoneType") (.ref C8) = some false)
    (s0_8 : PySem.W.subIn K (.ref C0) (.ref C8) = some false)
    (s1_8 : PySem.W.subIn K (.ref C1) (.ref C8) = some false)
    (s2_8 : PySem.W.subIn K (.ref C2) (.ref C8) = some false)
    (s3_8 : PySem.W.subIn K (.ref C3) (.ref C8) = some false)
    (s4_8 : PySem.W.subIn K (.ref C4) (.ref C8) = some false)
    (s5_8 : PySem.W.subIn K (.ref C5) (.ref C8) = some false)
    (s6_8 : PySem.W.subIn K (.ref C6) (.ref C8) = some false)
    (s7_8 : PySem.W.subIn K (.ref C7) (.ref C8) = some false)
    (s8_8 : PySem.W.subIn K (.ref C8) (.ref C8) = some true)
    (na8__pending : PySem.W.findIn K (.ref C8) "_pending" = some none)
    (na8__settled : PySem.W.findIn K (.ref C8) "_settled" = some none)
    (na8_disk : PySem.W.findIn K (.ref C8) "disk" = some none)
    (na8_torn : PySem.W.findIn K (.ref C8) "torn" = some none)
    (s0_0 : PySem.W.subIn K (.ref C0) (.ref C0) = some true)
    (s0_1 : PySem.W.subIn K (.ref C0) (.ref C1) = some false)
    (s0_2 : PySem.W.subIn K (.ref C0) (.ref C2) = some false)
    (s0_3 : PySem.W.subIn K (.ref C0) (.ref C3) = some false)
    (s0_4 : PySem.W.subIn K (.ref C0) (.ref C4) = some false)
    (s0_5 : PySem.W.subIn K (.ref C0) (.ref C5) = some false)
    (s0_6 : PySem.W.subIn K (.ref C0) (.ref C6) = some false)
    (s1_0 : PySem.W.subIn K (.ref C1) (.ref C0) = some false)
    (s1_1 : PySem.W.subIn K (.ref C1) (.ref C1) = some true)
    (s1_2 : PySem.W.subIn K (.ref C1) (.ref C2) = some false)
    (s1_3 : PySem.W.subIn K (.ref C1) (.ref C3) = some false)
    (s1_4 : PySem.W.subIn K (.ref C1) (.ref C4) = some false)
    (s1_5 : PySem.W.subIn K (.ref C1) (.ref C5) = some false)
    (s1_6 : PySem.W.subIn K (.ref C1) (.ref C6) = some false)
    (s2_0 : PySem.W.subIn K (.ref C2) (.ref C0) = some false)
    (s2_1 : PySem.W.subIn K (.ref C2) (.ref C1) = some false)
    (s2_2 : PySem.W.subIn K (.ref C2) (.ref C2) = some true)
    (s2_3 : PySem.W.subIn K (.ref C2) (.ref C3) = some false)
    (s2_4 : PySem.W.subIn K (.ref C2) (.ref C4) = some false)
    (s2_5 : PySem.W.subIn K (.ref C2) (.ref C5) = some false)
    (s2_6 : PySem.W.subIn K (.ref C2) (.ref C6) = some false)
    (s3_0 : PySem.W.subIn K (.ref C3) (.ref C0) = some false)
    (s3_1 : PySem.W.subIn K (.ref C3) (.ref C1) = some false)
    (s3_2 : PySem.W.subIn K (.ref C3) (.ref C2) = some false)
    (s3_3 : PySem.W.subIn K (.ref C3) (.ref C3) = some true)
    (s3_4 : PySem.W.subIn K (.ref C3) (.ref C4) = some false)
    (s3_5 : PySem.W.subIn K (.ref C3) (.ref C5) = some false)
    (s3_6 : PySem.W.subIn K (.ref C3) (.ref C6) = some false)
    (s4_0 : PySem.W.subIn K (.ref C4) (.ref C0) = some false)
    (s4_1 : PySem.W.subIn K (.ref C4) (.ref C1) = some false)
    (s4_2 : PySem.W.subIn K (.ref C4) (.ref C2) = some false)
    (s4_3 : PySem.W.subIn K (.ref C4) (.ref C3) = some false)
    (s4_4 : PySem.W.subIn K (.ref C4) (.ref C4) = some true)
    (s4_5 : PySem.W.subIn K (.ref C4) (.ref C5) = some false)
    (s4_6 : PySem.W.subIn K (.ref C4) (.ref C6) = some false)
    (s5_0 : PySem.W.subIn K (.ref C5) (.ref C0) = some false)
    (s5_1 : PySem.W.subIn K (.ref C5) (.ref C1) = some false)
    (s5_2 : PySem.W.subIn K (.ref C5) (.ref C2) = some false)
    (s5_3 : PySem.W.subIn K (.ref C5) (.ref C3) = some false)
    (s5_4 : PySem.W.subIn K (.ref C5) (.ref C4) = some false)
    (s5_5 : PySem.W.subIn K (.ref C5) (.ref C5) = some true)
    (s5_6 : PySem.W.subIn K (.ref C5) (.ref C6) = some false)
    (s6_0 : PySem.W.subIn K (.ref C6) (.ref C0) = some false)
    (s6_1 : PySem.W.subIn K (.ref C6) (.ref C1) = some false)
    (s6_2 : PySem.W.subIn K (.ref C6) (.ref C2) = some false)
    (s6_3 : PySem.W.subIn K (.ref C6) (.ref C3) = some false)
    (s6_4 : PySem.W.subIn K (.ref C6) (.ref C4) = some false)
    (s6_5 : PySem.W.subIn K (.ref C6) (.ref C5) = some false)
    (s6_6 : PySem.W.subIn K (.ref C6) (.ref C6) = some true)
    : ∃ (fd : FuncData) (Ga : Nat → Addr), (∀ (s : Shared) (v : Value), BindsTo s fd ⟨[v], []⟩ [("script", v)]) ∧ ∀ base : Heap, K.In base → base.Ns mainGlobals mg → FnM PySem.Challenge.pw_leastspare_k03_drives w K mg base Ga 11 fa fd ["script"] m_law := by
  have e := hfa.symm.trans (PySem.W.mg_of X G a42)
  cases e
  have F0 := fun_mk (st := s_is_whole) l0 c0 k0
  have b0 := F0.binds (ps := ["value"]) fun _ _ _ _ _ _ us hl => match us, hl with | [_], _ => rfl
  have F1 := fun_mk (st := s_is_between) l1 c1 k1
  have b1 := F1.binds (ps := ["value", "least", "most"]) fun _ _ _ _ _ _ us hl => match us, hl with | [_, _, _], _ => rfl
  have F2 := fun_mk (st := s_is_tuple_of) l2 c2 k2
  have b2 := F2.binds (ps := ["value", "many"]) fun _ _ _ _ _ _ us hl => match us, hl with | [_, _], _ => rfl
  have F3 := fun_mk (st := s_is_contents) l3 c3 k3
  have b3 := F3.binds (ps := ["value", "many", "contents"]) fun _ _ _ _ _ _ us hl => match us, hl with | [_, _, _], _ => rfl
  have F4 := fun_mk (st := s_Disk___init__) l4 c4 k4
  have b4 := F4.binds (ps := ["self", "blocks", "contents"]) fun _ _ _ _ _ _ us hl => match us, hl with | [_, _, _], _ => rfl
  have F5 := fun_mk (st := s_Disk___eq__) l5 c5 k5
  have b5 := F5.binds (ps := ["self", "other"]) fun _ _ _ _ _ _ us hl => match us, hl with | [_, _], _ => rfl
  have F6 := fun_mk (st := s_figures) l6 c6 k6
  have b6 := F6.binds (ps := ["number", "base", "many"]) fun _ _ _ _ _ _ us hl => match us, hl with | [_, _, _], _ => rfl
  have F7 := fun_mk (st := s_is_block) l7 c7 k7
  have b7 := F7.binds (ps := ["disk", "value"]) fun _ _ _ _ _ _ us hl => match us, hl with | [_, _], _ => rfl
  have F8 := fun_mk (st := s_is_content) l8 c8 k8
  have b8 := F8.binds (ps := ["disk", "value"]) fun _ _ _ _ _ _ us hl => match us, hl with | [_, _], _ => rfl
  have F9 := fun_mk (st := s_is_filling) l9 c9 k9
  have b9 := F9.binds (ps := ["disk", "value"]) fun _ _ _ _ _ _ us hl => match us, hl with | [_, _], _ => rfl
  have F10 := fun_mk (st := s_check_filling) l10 c10 k10
  have b10 := F10.binds (ps := ["disk", "filling"]) fun _ _ _ _ _ _ us hl => match us, hl with | [_, _], _ => rfl
  have F11 := fun_mk (st := s_after) l11 c11 k11
  have b11 := F11.binds (ps := ["filling", "writes"]) fun _ _ _ _ _ _ us hl => match us, hl with | [_, _], _ => rfl
  have F12 := fun_mk (st := s_menus) l12 c12 k12
  have b12 := F12.binds (ps := ["disk", "filling", "writes", "torn"]) fun _ _ _ _ _ _ us hl => match us, hl with | [_, _, _, _], _ => rfl
  have F13 := fun_mk (st := s_left_count) l13 c13 k13
  have b13 := F13.binds (ps := ["disk", "filling", "writes", "torn"]) fun _ _ _ _ _ _ us hl => match us, hl with | [_, _, _, _], _ => rfl
  have F14 := fun_mk (st := s_left_numbers) l14 c14 k14
  have b14 := F14.binds (ps := ["disk", "filling", "writes", "torn"]) fun _ _ _ _ _ _ us hl => match us, hl with | [_, _, _, _], _ => rfl
  have F15 := funD_mk (st := s_Drive___init__) (dfs := [("torn", (.bl true))]) l15 c15 k15 (by intro q hq; simp only [List.mem_cons, List.not_mem_nil, or_false] at hq; rcases hq with rfl <;> first | exact ⟨_, df15_0, rfl⟩)
  have F16 := fun_mk (st := s_Drive_write) l16 c16 k16
  have b16 := F16.binds (ps := ["self", "block", "content"]) fun _ _ _ _ _ _ us hl => match us, hl with | [_, _, _], _ => rfl
  have F17 := fun_mk (st := s_Drive_pending) l17 c17 k17
  have b17 := F17.binds (ps := ["self"]) fun _ _ _ _ _ _ us hl => match us, hl with | [_], _ => rfl
  have F18 := fun_mk (st := s_Drive_settled) l18 c18 k18
  have b18 := F18.binds (ps := ["self"]) fun _ _ _ _ _ _ us hl => match us, hl with | [_], _ => rfl
  have F19 := fun_mk (st := s_Drive_filling) l19 c19 k19
  have b19 := F19.binds (ps := ["self"]) fun _ _ _ _ _ _ us hl => match us, hl with | [_], _ => rfl
  have F20 := fun_mk (st := s_Drive_sync) l20 c20 k20
  have b20 := F20.binds (ps := ["self"]) fun _ _ _ _ _ _ us hl => match us, hl with | [_], _ => rfl
  have F21 := fun_mk (st := s_Drive_left) l21 c21 k21
  have b21 := F21.binds (ps := ["self"]) fun _ _ _ _ _ _ us hl => match us, hl with | [_], _ => rfl
  have F22 := fun_mk (st := s_Drive_may_leave) l22 c22 k22
  have b22 := F22.binds (ps := ["self", "value"]) fun _ _ _ _ _ _ us hl => match us, hl with | [_, _], _ => rfl
  have F23 := fun_mk (st := s_Drive_cut) l23 c23 k23
  have b23 := F23.binds (ps := ["self", "filling"]) fun _ _ _ _ _ _ us hl => match us, hl with | [_, _], _ => rfl
  have F24 := fun_mk (st := s__law_cell) l24 c24 k24
  have b24 := F24.binds (ps := ["script", "k"]) fun _ _ _ _ _ _ us hl => match us, hl with | [_, _], _ => rfl
  have F25 := fun_mk (st := s__law_box) l25 c25 k25
  have b25 := F25.binds (ps := ["great"]) fun _ _ _ _ _ _ us hl => match us, hl with | [_], _ => rfl
  have F26 := fun_mk (st := s__law_take) l26 c26 k26
  have b26 := F26.binds (ps := ["box", "many"]) fun _ _ _ _ _ _ us hl => match us, hl with | [_, _], _ => rfl
  have F27 := fun_mk (st := s__law_sizes) l27 c27 k27
  have b27 := F27.binds (ps := ["box"]) fun _ _ _ _ _ _ us hl => match us, hl with | [_], _ => rfl
  have F28 := fun_mk (st := s__law_odd_filling) l28 c28 k28
  have b28 := F28.binds (ps := ["way", "at", "filling", "contents", "more"]) fun _ _ _ _ _ _ us hl => match us, hl with | [_, _, _, _, _], _ => rfl
  have F29 := fun_mk (st := s__law_same) l29 c29 k29
  have b29 := F29.binds (ps := ["told", "word", "passed"]) fun _ _ _ _ _ _ us hl => match us, hl with | [_, _, _], _ => rfl
  have F30 := fun_mk (st := s__law_put) l30 c30 k30
  have b30 := F30.binds (ps := ["filling", "writes"]) fun _ _ _ _ _ _ us hl => match us, hl with | [_, _], _ => rfl
  have F31 := fun_mk (st := s__law_opened) l31 c31 k31
  have b31 := F31.binds (ps := ["way", "disk", "filling", "torn"]) fun _ _ _ _ _ _ us hl => match us, hl with | [_, _, _, _], _ => rfl
  have F32 := fun_mk (st := s__law_told) l32 c32 k32
  have b32 := F32.binds (ps := ["drive", "deed", "named"]) fun _ _ _ _ _ _ us hl => match us, hl with | [_, _, _], _ => rfl
  have F33 := fun_mk (st := s__law_stands) l33 c33 k33
  have b33 := F33.binds (ps := ["box", "known"]) fun _ _ _ _ _ _ us hl => match us, hl with | [_, _], _ => rfl
  have F34 := fun_mk (st := s__law_menu) l34 c34 k34
  have b34 := F34.binds (ps := ["known", "block"]) fun _ _ _ _ _ _ us hl => match us, hl with | [_, _], _ => rfl
  have F35 := fun_mk (st := s__law_write) l35 c35 k35
  have b35 := F35.binds (ps := ["box", "known"]) fun _ _ _ _ _ _ us hl => match us, hl with | [_, _], _ => rfl
  have F36 := fun_mk (st := s__law_refused_write) l36 c36 k36
  have b36 := F36.binds (ps := ["box", "known"]) fun _ _ _ _ _ _ us hl => match us, hl with | [_, _], _ => rfl
  have F37 := fun_mk (st := s__law_refused_cut) l37 c37 k37
  have b37 := F37.binds (ps := ["box", "known"]) fun _ _ _ _ _ _ us hl => match us, hl with | [_, _], _ => rfl
  have F38 := fun_mk (st := s__law_turn) l38 c38 k38
  have b38 := F38.binds (ps := ["box", "known"]) fun _ _ _ _ _ _ us hl => match us, hl with | [_, _], _ => rfl
  have F39 := fun_mk (st := s__law_begun) l39 c39 k39
  have b39 := F39.binds (ps := ["box", "sizes", "disk"]) fun _ _ _ _ _ _ us hl => match us, hl with | [_, _, _], _ => rfl
  have F40 := fun_mk (st := s__law_right) l40 c40 k40
  have b40 := F40.binds (ps := ["box"]) fun _ _ _ _ _ _ us hl => match us, hl with | [_], _ => rfl
  have F41 := fun_mk (st := s__law_many_right) l41 c41 k41
  have b41 := F41.binds (ps := ["box"]) fun _ _ _ _ _ _ us hl => match us, hl with | [_], _ => rfl
  have F42 := fun_mk (st := s_law) l42 c42 k42
  have b42 := F42.binds (ps := ["script"]) fun _ _ _ _ _ _ us hl => match us, hl with | [_], _ => rfl
  have o0 : OexC K C0 := ⟨⟨_, _, _, _, _, _, _, _, _, _, _, _, _, _, _, X0, v0⟩, sa0, e0, T0, K0⟩
  have G0 := fun_mk (st := s_InvalidBlocks) le0 ce0 ke0
  have B0 := G0.binds (ps := ["self", "given"]) fun _ _ _ _ _ _ us hl => match us, hl with | [_, _], _ => rfl
  have o1 : OexC K C1 := ⟨⟨_, _, _, _, _, _, _, _, _, _, _, _, _, _, _, X1, v1⟩, sa1, e1, T1, K1⟩
  have G1 := fun_mk (st := s_InvalidContents) le1 ce1 ke1
  have B1 := G1.binds (ps := ["self", "given"]) fun _ _ _ _ _ _ us hl => match us, hl with | [_, _], _ => rfl
  have o2 : OexC K C2 := ⟨⟨_, _, _, _, _, _, _, _, _, _, _, _, _, _, _, X2, v2⟩, sa2, e2, T2, K2⟩
  have G2 := fun_mk (st := s_InvalidFilling) le2 ce2 ke2
  have B2 := G2.binds (ps := ["self", "given"]) fun _ _ _ _ _ _ us hl => match us, hl with | [_, _], _ => rfl
  have o3 : OexC K C3 := ⟨⟨_, _, _, _, _, _, _, _, _, _, _, _, _, _, _, X3, v3⟩, sa3, e3, T3, K3⟩
  have G3 := fun_mk (st := s_InvalidBlock) le3 ce3 ke3
  have B3 := G3.binds (ps := ["self", "given"]) fun _ _ _ _ _ _ us hl => match us, hl with | [_, _], _ => rfl
  have o4 : OexC K C4 := ⟨⟨_, _, _, _, _, _, _, _, _, _, _, _, _, _, _, X4, v4⟩, sa4, e4, T4, K4⟩
  have G4 := fun_mk (st := s_InvalidContent) le4 ce4 ke4
  have B4 := G4.binds (ps := ["self", "given"]) fun _ _ _ _ _ _ us hl => match us, hl with | [_, _], _ => rfl
  have o5 : OexC K C5 := ⟨⟨_, _, _, _, _, _, _, _, _, _, _, _, _, _, _, X5, v5⟩, sa5, e5, T5, K5⟩
  have G5 := fun_mk (st := s_TooMany) le5 ce5 ke5
  have B5 := G5.binds (ps := ["self", "count"]) fun _ _ _ _ _ _ us hl => match us, hl with | [_, _], _ => rfl
  have o6 : OexC K C6 := ⟨⟨_, _, _, _, _, _, _, _, _, _, _, _, _, _, _, X6, v6⟩, sa6, e6, T6, K6⟩
  have G6 := fun_mk (st := s_NotLeft) le6 ce6 ke6
  have B6 := G6.binds (ps := ["self", "filling"]) fun _ _ _ _ _ _ us hl => match us, hl with | [_, _], _ => rfl
  refine ⟨PySem.W.fnOf "law" "law" (defArgs s_law) (defBody s_law) (defScope s_law) .none kV42 dc42 pm42 an42 cd42 ct42, fun i => [C0, C1, C2, C3, C4, C5, C6, C7, C8].getD i 0, fun s v => .of_eq rfl, fun base hK hN => ?_⟩
  have T : Txt PySem.Challenge.pw_leastspare_k03_drives w K mg base (fun i => [C0, C1, C2, C3, C4, C5, C6, C7, C8].getD i 0) :=
    { b_abs := PySem.W.mg_none_of X G z0,
      b_all := PySem.W.mg_none_of X G z1,
      b_bool := PySem.W.mg_none_of X G z2,
      b_dict := PySem.W.mg_none_of X G z3,
      b_int := PySem.W.mg_none_of X G z4,
      b_isinstance := PySem.W.mg_none_of X G z5,
      b_len := PySem.W.mg_none_of X G z6,
      b_list := PySem.W.mg_none_of X G z7,
      b_max := PySem.W.mg_none_of X G z8,
      b_min := PySem.W.mg_none_of X G z9,
      b_range := PySem.W.mg_none_of X G z10,
      b_repr := PySem.W.mg_none_of X G z11,
      b_set := PySem.W.mg_none_of X G z12,
      b_sorted := PySem.W.mg_none_of X G z13,
      b_sum := PySem.W.mg_none_of X G z14,
      b_tuple := PySem.W.mg_none_of X G z15,
      b_zip := PySem.W.mg_none_of X G z16,
      k_MOST_BLOCKS := ⟨_, PySem.W.mg_of X G gc0⟩,
      k_MOST_CONTENTS := ⟨_, PySem.W.mg_of X G gc1⟩,
      k_MOST_FILLINGS := ⟨_, PySem.W.mg_of X G gc2⟩,
      f_is_whole := ⟨_, _, PySem.W.mg_of X G a0, F0, b0⟩,
      f_is_between := ⟨_, _, PySem.W.mg_of X G a1, F1, b1⟩,
      f_is_tuple_of := ⟨_, _, PySem.W.mg_of X G a2, F2, b2⟩,
      f_is_contents := ⟨_, _, PySem.W.mg_of X G a3, F3, b3⟩,
      f_Disk___init__ := ⟨_, _, a4, beq_iff_eq.mpr (beq_iff_eq.mp w4), F4, b4⟩,
      f_Disk___eq__ := ⟨_, _, a5, beq_iff_eq.mpr (beq_iff_eq.mp w5), F5, b5⟩,
      f_figures := ⟨_, _, PySem.W.mg_of X G a6, F6, b6⟩,
      f_is_block := ⟨_, _, PySem.W.mg_of X G a7, F7, b7⟩,
      f_is_content := ⟨_, _, PySem.W.mg_of X G a8, F8, b8⟩,
      f_is_filling := ⟨_, _, PySem.W.mg_of X G a9, F9, b9⟩,
      f_check_filling := ⟨_, _, PySem.W.mg_of X G a10, F10, b10⟩,
      f_after := ⟨_, _, PySem.W.mg_of X G a11, F11, b11⟩,
      f_menus := ⟨_, _, PySem.W.mg_of X G a12, F12, b12⟩,
      f_left_count := ⟨_, _, PySem.W.mg_of X G a13, F13, b13⟩,
      f_left_numbers := ⟨_, _, PySem.W.mg_of X G a14, F14, b14⟩,
      f_Drive___init__ := ⟨_, _, a15, beq_iff_eq.mpr (beq_iff_eq.mp w15), F15⟩,
      f_Drive_write := ⟨_, _, a16, beq_iff_eq.mpr (beq_iff_eq.mp w16), F16, b16⟩,
      f_Drive_pending := ⟨_, _, a17, beq_iff_eq.mpr (beq_iff_eq.mp w17), F17, b17⟩,
      f_Drive_settled := ⟨_, _, a18, beq_iff_eq.mpr (beq_iff_eq.mp w18), F18, b18⟩,
      f_Drive_filling := ⟨_, _, a19, beq_iff_eq.mpr (beq_iff_eq.mp w19), F19, b19⟩,
      f_Drive_sync := ⟨_, _, a20, beq_iff_eq.mpr (beq_iff_eq.mp w20), F20, b20⟩,
      f_Drive_left := ⟨_, _, a21, beq_iff_eq.mpr (beq_iff_eq.mp w21), F21, b21⟩,
      f_Drive_may_leave := ⟨_, _, a22, beq_iff_eq.mpr (beq_iff_eq.mp w22), F22, b22⟩,
      f_Drive_cut := ⟨_, _, a23, beq_iff_eq.mpr (beq_iff_eq.mp w23), F23, b23⟩,
      f__law_cell := ⟨_, _, PySem.W.mg_of X G a24, F24, b24⟩,
      f__law_box := ⟨_, _, PySem.W.mg_of X G a25, F25, b25⟩,
      f__law_take := ⟨_, _, PySem.W.mg_of X G a26, F26, b26⟩,
      f__law_sizes := ⟨_, _, PySem.W.mg_of X G a27, F27, b27⟩,
      f__law_odd_filling := ⟨_, _, PySem.W.mg_of X G a28, F28, b28⟩,
      f__law_same := ⟨_, _, PySem.W.mg_of X G a29, F29, b29⟩,
      f__law_put := ⟨_, _, PySem.W.mg_of X G a30, F30, b30⟩,
      f__law_opened := ⟨_, _, PySem.W.mg_of X G a31, F31, b31⟩,
      f__law_told := ⟨_, _, PySem.W.mg_of X G a32, F32, b32⟩,
      f__law_stands := ⟨_, _, PySem.W.mg_of X G a33, F33, b33⟩,
      f__law_menu := ⟨_, _, PySem.W.mg_of X G a34, F34, b34⟩,
      f__law_write := ⟨_, _, PySem.W.mg_of X G a35, F35, b35⟩,
      f__law_refused_write := ⟨_, _, PySem.W.mg_of X G a36, F36, b36⟩,
      f__law_refused_cut := ⟨_, _, PySem.W.mg_of X G a37, F37, b37⟩,
      f__law_turn := ⟨_, _, PySem.W.mg_of X G a38, F38, b38⟩,
      f__law_begun := ⟨_, _, PySem.W.mg_of X G a39, F39, b39⟩,
      f__law_right := ⟨_, _, PySem.W.mg_of X G a40, F40, b40⟩,
      f__law_many_right := ⟨_, _, PySem.W.mg_of X G a41, F41, b41⟩,
      f_law := ⟨_, _, PySem.W.mg_of X G a42, F42, b42⟩,
      c_Disk := ⟨PySem.W.mg_of X G A7, ⟨⟨pg7, hd7, po7, sa7⟩, ha7, hn, ht, hm7, fun t => match t with | .tInt => su7_int | .tBool => su7_bool | .tStr => su7_str | .tList => su7_list | .tTuple => su7_tuple | .tDict => su7_dict⟩, mk7, K7, kitC_of (n := 9) (by decide) I7 T7 (fun c hc => by
          have z : ([C0, C1, C2, C3, C4, C5, C6, C7, C8] : List Addr).getD c 0 = 0 := by rw [List.getD_eq_getElem?_getD, List.getElem?_eq_none (by simpa using hc)]; rfl
          show PySem.W.hasDictIn K (([C0, C1, C2, C3, C4, C5, C6, C7, C8] : List Addr).getD c 0) = false
          rw [z]; exact h00) (fun c hc => by
          have hc' : c = 0 ∨ c = 1 ∨ c = 2 ∨ c = 3 ∨ c = 4 ∨ c = 5 ∨ c = 6 ∨ c = 7 ∨ c = 8 := by omega
          rcases hc' with rfl | rfl | rfl | rfl | rfl | rfl | rfl | rfl | rfl <;> first | exact s0_7 | exact s1_7 | exact s2_7 | exact s3_7 | exact s4_7 | exact s5_7 | exact s6_7 | exact s7_7 | exact s8_7) (fun k => match k with | none => sv7_NoneType | some .tInt => sv7_int | some .tBool => sv7_bool | some .tStr => sv7_str | some .tList => sv7_list | some .tTuple => sv7_tuple | some .tDict => sv7_dict)⟩,
      c_Drive := ⟨PySem.W.mg_of X G A8, ⟨⟨pg8, hd8, po8, sa8⟩, ha8, hn, ht, hm8, fun t => match t with | .tInt => su8_int | .tBool => su8_bool | .tStr => su8_str | .tList => su8_list | .tTuple => su8_tuple | .tDict => su8_dict⟩, mk8, K8, kitC_of (n := 9) (by decide) I8 T8 (fun c hc => by
          have z : ([C0, C1, C2, C3, C4, C5, C6, C7, C8] : List Addr).getD c 0 = 0 := by rw [List.getD_eq_getElem?_getD, List.getElem?_eq_none (by simpa using hc)]; rfl
          show PySem.W.hasDictIn K (([C0, C1, C2, C3, C4, C5, C6, C7, C8] : List Addr).getD c 0) = false
          rw [z]; exact h00) (fun c hc => by
          have hc' : c = 0 ∨ c = 1 ∨ c = 2 ∨ c = 3 ∨ c = 4 ∨ c = 5 ∨ c = 6 ∨ c = 7 ∨ c = 8 := by omega
          rcases hc' with rfl | rfl | rfl | rfl | rfl | rfl | rfl | rfl | rfl <;> first | exact s0_8 | exact s1_8 | exact s2_8 | exact s3_8 | exact s4_8 | exact s5_8 | exact s6_8 | exact s7_8 | exact s8_8) (fun k => match k with | none => sv8_NoneType | some .tInt => sv8_int | some .tBool => sv8_bool | some .tStr => sv8_str | some .tList => sv8_list | some .tTuple => sv8_tuple | some .tDict => sv8_dict)⟩,
      nf := fun ci hci => by
        have h0 : ∀ c, 9 ≤ c → PySem.W.hasDictIn K (([C0, C1, C2, C3, C4, C5, C6, C7, C8] : List Addr).getD c 0) = false := fun c hc => by
          have z : ([C0, C1, C2, C3, C4, C5, C6, C7, C8] : List Addr).getD c 0 = 0 := by rw [List.getD_eq_getElem?_getD, List.getElem?_eq_none (by simpa using hc)]; rfl
          rw [z]; exact h00
        have hci' : ci = 7 := by simpa [or_assoc] using hci
        rcases hci' with rfl
        · refine ⟨fun k => match k with | none => nf7_NoneType | some .tInt => nf7_int | some .tBool => nf7_bool | some .tStr => nf7_str | some .tList => nf7_list | some .tTuple => nf7_tuple | some .tDict => nf7_dict, fun c cx => ?_⟩
          have lt : c < 9 := Nat.lt_of_not_le fun z => by have y := h0 c z; rw [show PySem.W.hasDictIn K (([C0, C1, C2, C3, C4, C5, C6, C7, C8] : List Addr).getD c 0) = true from cx] at y; cases y
          have hc' : c = 0 ∨ c = 1 ∨ c = 2 ∨ c = 3 ∨ c = 4 ∨ c = 5 ∨ c = 6 ∨ c = 7 ∨ c = 8 := by omega
          rcases hc' with rfl | rfl | rfl | rfl | rfl | rfl | rfl | rfl | rfl <;> first | exact ng7_0 | exact ng7_1 | exact ng7_2 | exact ng7_3 | exact ng7_4 | exact ng7_5 | exact ng7_6 | exact ng7_7 | exact ng7_8,
      fd__pending := fun c hc => by
        have hc' : c = 8 := by simpa [or_assoc] using hc
        rcases hc' with rfl <;> first | exact na8__pending,
      fd__settled := fun c hc => by
        have hc' : c = 8 := by simpa [or_assoc] using hc
        rcases hc' with rfl <;> first | exact na8__settled,
      fd_blocks := fun c hc => by
        have hc' : c = 7 := by simpa [or_assoc] using hc
        rcases hc' with rfl <;> first | exact na7_blocks,
      fd_contents := fun c hc => by
        have hc' : c = 7 := by simpa [or_assoc] using hc
        rcases hc' with rfl <;> first | exact na7_contents,
      fd_disk := fun c hc => by
        have hc' : c = 8 := by simpa [or_assoc] using hc
        rcases hc' with rfl <;> first | exact na8_disk,
      fd_torn := fun c hc => by
        have hc' : c = 8 := by simpa [or_assoc] using hc
        rcases hc' with rfl <;> first | exact na8_torn,
      e_InvalidBlocks := ⟨PySem.W.mg_of X G A0, o0, u0, _, _, n0, y0, ok_InvalidBlocks G0 o0 at0, B0⟩,
      e_InvalidContents := ⟨PySem.W.mg_of X G A1, o1, u1, _, _, n1, y1, ok_InvalidContents G1 o1 at1, B1⟩,
      e_InvalidFilling := ⟨PySem.W.mg_of X G A2, o2, u2, _, _, n2, y2, ok_InvalidFilling G2 o2 at2, B2⟩,
      e_InvalidBlock := ⟨PySem.W.mg_of X G A3, o3, u3, _, _, n3, y3, ok_InvalidBlock G3 o3 at3, B3⟩,
      e_InvalidContent := ⟨PySem.W.mg_of X G A4, o4, u4, _, _, n4, y4, ok_InvalidContent G4 o4 at4, B4⟩,
      e_TooMany := ⟨PySem.W.mg_of X G A5, o5, u5, _, _, n5, y5, ok_TooMany G5 o5 at5, B5⟩,
      e_NotLeft := ⟨PySem.W.mg_of X G A6, o6, u6, _, _, n6, y6, ok_NotLeft G6 o6 at6, B6⟩,
      xa_filling := fun c hc => by
        have hc' : c = 6 := by simpa [or_assoc] using hc
        rcases hc' with rfl <;> first | exact at6,
      xa_given := fun c hc => by
        have hc' : c = 0 ∨ c = 1 ∨ c = 2 ∨ c = 3 ∨ c = 4 := by simpa [or_assoc] using hc
        rcases hc' with rfl | rfl | rfl | rfl | rfl <;> first | exact at0 | exact at1 | exact at2 | exact at3 | exact at4,
      ne := fun ci hci => by
        have hci' : ci = 7 := by simpa [or_assoc] using hci
        rcases hci' with rfl <;> first | exact ⟨ne7, so7⟩,
      x_m := fun k hk q hq => by
        have hk' : k = 0 ∨ k = 1 ∨ k = 2 ∨ k = 3 ∨ k = 4 ∨ k = 5 ∨ k = 6 := by omega
        have hq' : q = 0 ∨ q = 1 ∨ q = 2 ∨ q = 3 ∨ q = 4 ∨ q = 5 ∨ q = 6 := by omega
        rcases hk' with rfl | rfl | rfl | rfl | rfl | rfl | rfl <;> rcases hq' with rfl | rfl | rfl | rfl | rfl | rfl | rfl <;> first | exact exm_of e0 I0 T0 s0_0 | exact exm_of e1 I1 T1 s0_1 | exact exm_of e2 I2 T2 s0_2 | exact exm_of e3 I3 T3 s0_3 | exact exm_of e4 I4 T4 s0_4 | exact exm_of e5 I5 T5 s0_5 | exact exm_of e6 I6 T6 s0_6 | exact exm_of e0 I0 T0 s1_0 | exact exm_of e1 I1 T1 s1_1 | exact exm_of e2 I2 T2 s1_2 | exact exm_of e3 I3 T3 s1_3 | exact exm_of e4 I4 T4 s1_4 | exact exm_of e5 I5 T5 s1_5 | exact exm_of e6 I6 T6 s1_6 | exact exm_of e0 I0 T0 s2_0 | exact exm_of e1 I1 T1 s2_1 | exact exm_of e2 I2 T2 s2_2 | exact exm_of e3 I3 T3 s2_3 | exact exm_of e4 I4 T4 s2_4 | exact exm_of e5 I5 T5 s2_5 | exact exm_of e6 I6 T6 s2_6 | exact exm_of e0 I0 T0 s3_0 | exact exm_of e1 I1 T1 s3_1 | exact exm_of e2 I2 T2 s3_2 | exact exm_of e3 I3 T3 s3_3 | exact exm_of e4 I4 T4 s3_4 | exact exm_of e5 I5 T5 s3_5 | exact exm_of e6 I6 T6 s3_6 | exact exm_of e0 I0 T0 s4_0 | exact exm_of e1 I1 T1 s4_1 | exact exm_of e2 I2 T2 s4_2 | exact exm_of e3 I3 T3 s4_3 | exact exm_of e4 I4 T4 s4_4 | exact exm_of e5 I5 T5 s4_5 | exact exm_of e6 I6 T6 s4_6 | exact exm_of e0 I0 T0 s5_0 | exact exm_of e1 I1 T1 s5_1 | exact exm_of e2 I2 T2 s5_2 | exact exm_of e3 I3 T3 s5_3 | exact exm_of e4 I4 T4 s5_4 | exact exm_of e5 I5 T5 s5_5 | exact exm_of e6 I6 T6 s5_6 | exact exm_of e0 I0 T0 s6_0 | exact exm_of e1 I1 T1 s6_1 | exact exm_of e2 I2 T2 s6_2 | exact exm_of e3 I3 T3 s6_3 | exact exm_of e4 I4 T4 s6_4 | exact exm_of e5 I5 T5 s6_5 | exact exm_of e6 I6 T6 s6_6,
      x_x := fun k hk => by
        have hk' : k = 0 ∨ k = 1 ∨ k = 2 ∨ k = 3 ∨ k = 4 ∨ k = 5 ∨ k = 6 := by omega
        rcases hk' with rfl | rfl | rfl | rfl | rfl | rfl | rfl <;> first | exact ⟨⟨ga0, gg0, e0, hd0, ha0, hn, ht, hm0⟩, ⟨ga0, gg0, e0, hd0⟩, fun t => match t with | .tInt => su0_int | .tBool => su0_bool | .tStr => su0_str | .tList => su0_list | .tTuple => su0_tuple | .tDict => su0_dict⟩ | exact ⟨⟨ga1, gg1, e1, hd1, ha1, hn, ht, hm1⟩, ⟨ga1, gg1, e1, hd1⟩, fun t => match t with | .tInt => su1_int | .tBool => su1_bool | .tStr => su1_str | .tList => su1_list | .tTuple => su1_tuple | .tDict => su1_dict⟩ | exact ⟨⟨ga2, gg2, e2, hd2, ha2, hn, ht, hm2⟩, ⟨ga2, gg2, e2, hd2⟩, fun t => match t with | .tInt => su2_int | .tBool => su2_bool | .tStr => su2_str | .tList => su2_list | .tTuple => su2_tuple | .tDict => su2_dict⟩ | exact ⟨⟨ga3, gg3, e3, hd3, ha3, hn, ht, hm3⟩, ⟨ga3, gg3, e3, hd3⟩, fun t => match t with | .tInt => su3_int | .tBool => su3_bool | .tStr => su3_str | .tList => su3_list | .tTuple => su3_tuple | .tDict => su3_dict⟩ | exact ⟨⟨ga4, gg4, e4, hd4, ha4, hn, ht, hm4⟩, ⟨ga4, gg4, e4, hd4⟩, fun t => match t with | .tInt => su4_int | .tBool => su4_bool | .tStr => su4_str | .tList => su4_list | .tTuple => su4_tuple | .tDict => su4_dict⟩ | exact ⟨⟨ga5, gg5, e5, hd5, ha5, hn, ht, hm5⟩, ⟨ga5, gg5, e5, hd5⟩, fun t => match t with | .tInt => su5_int | .tBool => su5_bool | .tStr => su5_str | .tList => su5_list | .tTuple => su5_tuple | .tDict => su5_dict⟩ | exact ⟨⟨ga6, gg6, e6, hd6, ha6, hn, ht, hm6⟩, ⟨ga6, gg6, e6, hd6⟩, fun t => match t with | .tInt => su6_int | .tBool => su6_bool | .tStr => su6_str | .tList => su6_list | .tTuple => su6_tuple | .tDict => su6_dict⟩ }
  obtain ⟨f, fd, h1, F, h2, M⟩ := (d_law T).ex
  have e1 := hfa.symm.trans h1
  cases e1
  have e2 := F.fd_eq F42
  subst e2
  exact M
end K03
open PySem PySem.W PyProof.Rows
set_option maxRecDepth 110000 in
set_option maxHeartbeats 0 in
theorem PySem.Challenge.cw_leastspare_k03_drives_holds : PySem.Challenge.rw_leastspare_k03_drives.Holds := by
  w_on; o_law; k_head; (case hw => w_witness2)
  k_fill
  refine Br.walk_m (l := PySem.Challenge.rw_leastspare_k03_drives) (n := 63) (k := 11) (x := "script") (m := K03.m_law) rfl (by decide) rfl (by decide) (fun w h Y => PySem.W.kIn_of Y) ?F K03.law_right
  case F =>
    intro w mg fa h KX G hmg
    refine' K03.all_mk KX G hmg ?a0 ?l0 ?c0 ?k0 ?a1 ?l1 ?c1 ?k1 ?a2 ?l2 ?c2 ?k2 ?a3 ?l3 ?c3 ?k3 ?A7 ?a4 ?w4 ?l4 ?c4 ?k4 ?a5 ?w5 ?l5 ?c5 ?k5 ?a6 ?l6 ?c6 ?k6 ?a7 ?l7 ?c7 ?k7 ?a8 ?l8 ?c8 ?k8 ?a9 ?l9 ?c9 ?k9 ?a10 ?l10 ?c10 ?k10 ?a11 ?l11 ?c11 ?k11 ?a12 ?l12 ?c12 ?k12 ?a13 ?l13 ?c13 ?k13 ?a14 ?l14 ?c14 ?k14 ?A8 ?a15 ?w15 ?l15 ?c15 ?k15 ?df15_0 ?a16 ?w16 ?l16 ?c16 ?k16 ?a17 ?w17 ?l17 ?c17 ?k17 ?a18 ?w18 ?l18 ?c18 ?k18 ?a19 ?w19 ?l19 ?c19 ?k19 ?a20 ?w20 ?l20 ?c20 ?k20 ?a21 ?w21 ?l21 ?c21 ?k21 ?a22 ?w22 ?l22 ?c22 ?k22 ?a23 ?w23 ?l23 ?c23 ?k23 ?a24 ?l24 ?c24 ?k24 ?a25 ?l25 ?c25 ?k25 ?a26 ?l26 ?c26 ?k26 ?a27 ?l27 ?c27 ?k27 ?a28 ?l28 ?c28 ?k28 ?a29 ?l29 ?c29 ?k29 ?a30 ?l30 ?c30 ?k30 ?a31 ?l31 ?c31 ?k31 ?a32 ?l32 ?c32 ?k32 ?a33 ?l33 ?c33 ?k33 ?a34 ?l34 ?c34 ?k34 ?a35 ?l35 ?c35 ?k35 ?a36 ?l36 ?c36 ?k36 ?a37 ?l37 ?c37 ?k37 ?a38 ?l38 ?c38 ?k38 ?a39 ?l39 ?c39 ?k39 ?a40 ?l40 ?c40 ?k40 ?a41 ?l41 ?c41 ?k41 ?a42 ?l42 ?c42 ?k42 ?z0 ?z1 ?z2 ?z3 ?z4 ?z5 ?z6 ?z7 ?z8 ?z9 ?z10 ?z11 ?z12 ?z13 ?z14 ?z15 ?z16 ?gc0 ?gc1 ?gc2 ?A0 ?X0 ?v0 ?sa0 ?e0 ?T0 ?I0 ?K0 ?n0 ?y0 ?le0 ?ce0 ?ke0 ?ga0 ?gg0 ?hd0 ?at0 ?ha0 ?hm0 ?su0_int ?su0_bool ?su0_str ?su0_list ?su0_tuple ?su0_dict ?A1 ?X1 ?v1 ?sa1 ?e1 ?T1 ?I1 ?K1 ?n1 ?y1 ?le1 ?ce1 ?ke1 ?ga1 ?gg1 ?hd1 ?at1 ?ha1 ?hm1 ?su1_int ?su1_bool ?su1_str ?su1_list ?su1_tuple ?su1_dict ?A2 ?X2 ?v2 ?sa2 ?e2 ?T2 ?I2 ?K2 ?n2 ?y2 ?le2 ?ce2 ?ke2 ?ga2 ?gg2 ?hd2 ?at2 ?ha2 ?hm2 ?su2_int ?su2_bool ?su2_str ?su2_list ?su2_tuple ?su2_dict ?A3 ?X3 ?v3 ?sa3 ?e3 ?T3 ?I3 ?K3 ?n3 ?y3 ?le3 ?ce3 ?ke3 ?ga3 ?gg3 ?hd3 ?at3 ?ha3 ?hm3 ?su3_int ?su3_bool ?su3_str ?su3_list ?su3_tuple ?su3_dict ?A4 ?X4 ?v4 ?sa4 ?e4 ?T4 ?I4 ?K4 ?n4 ?y4 ?le4 ?ce4 ?ke4 ?ga4 ?gg4 ?hd4 ?at4 ?ha4 ?hm4 ?su4_int ?su4_bool ?su4_str ?su4_list ?su4_tuple ?su4_dict ?A5 ?X5 ?v5 ?sa5 ?e5 ?T5 ?I5 ?K5 ?n5 ?y5 ?le5 ?ce5 ?ke5 ?ga5 ?gg5 ?hd5 ?at5 ?ha5 ?hm5 ?su5_int ?su5_bool ?su5_str ?su5_list ?su5_tuple ?su5_dict ?A6 ?X6 ?v6 ?sa6 ?e6 ?T6 ?I6 ?K6 ?n6 ?y6 ?le6 ?ce6 ?ke6 ?ga6 ?gg6 ?hd6 ?at6 ?ha6 ?hm6 ?su6_int ?su6_bool ?su6_str ?su6_list ?su6_tuple ?su6_dict ?hn ?ht ?h00 ?pg7 ?hd7 ?po7 ?sa7 ?ha7 ?hm7 ?mk7 ?K7 ?I7 ?T7 ?su7_int ?su7_bool ?su7_str ?su7_list ?su7_tuple ?su7_dict ?sv7_int ?sv7_bool ?sv7_str ?sv7_list ?sv7_tuple ?sv7_dict ?sv7_NoneType ?s0_7 ?s1_7 ?s2_7 ?s3_7 ?s4_7 ?s5_7 ?s6_7 ?s7_7 ?s8_7 ?nf7_int ?nf7_bool ?nf7_str ?nf7_list ?nf7_tuple ?nf7_dict ?nf7_NoneType ?ng7_0 ?ng7_1 ?ng7_2 ?ng7_3 ?ng7_4 ?ng7_5 ?ng7_6 ?ng7_7 ?ng7_8 ?ne7 ?so7 ?na7_blocks ?na7_contents ?pg8 ?hd8 ?po8 ?sa8 ?ha8 ?hm8 ?mk8 ?K8 ?I8 ?T8 ?su8_int ?su8_bool ?su8_str ?su8_list ?su8_tuple ?su8_dict ?sv8_int ?sv8_bool ?sv8_str ?sv8_list ?sv8_tuple ?sv8_dict ?sv8_NoneType ?s0_8 ?s1_8 ?s2_8 ?s3_8 ?s4_8 ?s5_8 ?s6_8 ?s7_8 ?s8_8 ?na8__pending ?na8__settled ?na8_disk ?na8_torn ?s0_0 ?s0_1 ?s0_2 ?s0_3 ?s0_4 ?s0_5 ?s0_6 ?s1_0 ?s1_1 ?s1_2 ?s1_3 ?s1_4 ?s1_5 ?s1_6 ?s2_0 ?s2_1 ?s2_2 ?s2_3 ?s2_4 ?s2_5 ?s2_6 ?s3_0 ?s3_1 ?s3_2 ?s3_3 ?s3_4 ?s3_5 ?s3_6 ?s4_0 ?s4_1 ?s4_2 ?s4_3 ?s4_4 ?s4_5 ?s4_6 ?s5_0 ?s5_1 ?s5_2 ?s5_3 ?s5_4 ?s5_5 ?s5_6 ?s6_0 ?s6_1 ?s6_2 ?s6_3 ?s6_4 ?s6_5 ?s6_6
    (case a0 => k_is)
    (case l0 => k_is)
    (case c0 => k_is)
    (case k0 => k_is)
    (case a1 => k_is)
    (case l1 => k_is)
    (case c1 => k_is)
    (case k1 => k_is)
    (case a2 => k_is)
    (case l2 => k_is)
    (case c2 => k_is)
    (case k2 => k_is)
    (case a3 => k_is)
    (case l3 => k_is)
    (case c3 => k_is)
    (case k3 => k_is)
    (case A7 => k_is)
    (case a4 => k_is)
    (case w4 => k_is)
    (case l4 => k_is)
    (case c4 => k_is)
    (case k4 => k_is)
    (case a5 => k_is)
    (case w5 => k_is)
    (case l5 => k_is)
    (case c5 => k_is)
    (case k5 => k_is)
    (case a6 => k_is)
    (case l6 => k_is)
    (case c6 => k_is)
    (case k6 => k_is)
    (case a7 => k_is)
    (case l7 => k_is)
    (case c7 => k_is)
    (case k7 => k_is)
    (case a8 => k_is)
    (case l8 => k_is)
    (case c8 => k_is)
    (case k8 => k_is)
    (case a9 => k_is)
    (case l9 => k_is)
    (case c9 => k_is)
    (case k9 => k_is)
    (case a10 => k_is)
    (case l10 => k_is)
    (case c10 => k_is)
    (case k10 => k_is)
    (case a11 => k_is)
    (case l11 => k_is)
    (case c11 => k_is)
    (case k11 => k_is)
    (case a12 => k_is)
    (case l12 => k_is)
    (case c12 => k_is)
    (case k12 => k_is)
    (case a13 => k_is)
    (case l13 => k_is)
    (case c13 => k_is)
    (case k13 => k_is)
    (case a14 => k_is)
    (case l14 => k_is)
    (case c14 => k_is)
    (case k14 => k_is)
    (case A8 => k_is)
    (case a15 => k_is)
    (case w15 => k_is)
    (case l15 => k_is)
    (case c15 => k_is)
    (case k15 => k_is)
    (case df15_0 => k_is)
    (case a16 => k_is)
    (case w16 => k_is)
    (case l16 => k_is)
    (case c16 => k_is)
    (case k16 => k_is)
    (case a17 => k_is)
    (case w17 => k_is)
    (case l17 => k_is)
    (case c17 => k_is)
    (case k17 => k_is)
    (case a18 => k_is)
    (case w18 => k_is)
    (case l18 => k_is)
    (case c18 => k_is)
    (case k18 => k_is)
    (case a19 => k_is)
    (case w19 => k_is)
    (case l19 => k_is)
    (case c19 => k_is)
    (case k19 => k_is)
    (case a20 => k_is)
    (case w20 => k_is)
    (case l20 => k_is)
    (case c20 => k_is)
    (case k20 => k_is)
    (case a21 => k_is)
    (case w21 => k_is)
    (case l21 => k_is)
    (case c21 => k_is)
    (case k21 => k_is)
    (case a22 => k_is)
    (case w22 => k_is)
    (case l22 => k_is)
    (case c22 => k_is)
    (case k22 => k_is)
    (case a23 => k_is)
    (case w23 => k_is)
    (case l23 => k_is)
    (case c23 => k_is)
    (case k23 => k_is)
    (case a24 => k_is)
    (case l24 => k_is)
    (case c24 => k_is)
    (case k24 => k_is)
    (case a25 => k_is)
    (case l25 => k_is)
    (case c25 => k_is)
    (case k25 => k_is)
    (case a26 => k_is)
    (case l26 => k_is)
    (case c26 => k_is)
    (case k26 => k_is)
    (case a27 => k_is)
    (case l27 => k_is)
    (case c27 => k_is)
    (case k27 => k_is)
    (case a28 => k_is)
    (case l28 => k_is)
    (case c28 => k_is)
    (case k28 => k_is)
    (case a29 => k_is)
    (case l29 => k_is)
    (case c29 => k_is)
    (case k29 => k_is)
    (case a30 => k_is)
    (case l30 => k_is)
    (case c30 => k_is)
    (case k30 => k_is)
    (case a31 => k_is)
    (case l31 => k_is)
    (case c31 => k_is)
    (case k31 => k_is)
    (case a32 => k_is)
    (case l32 => k_is)
    (case c32 => k_is)
    (case k32 => k_is)
    (case a33 => k_is)
    (case l33 => k_is)
    (case c33 => k_is)
    (case k33 => k_is)
    (case a34 => k_is)
    (case l34 => k_is)
    (case c34 => k_is)
    (case k34 => k_is)
    (case a35 => k_is)
    (case l35 => k_is)
    (case c35 => k_is)
    (case k35 => k_is)
    (case a36 => k_is)
    (case l36 => k_is)
    (case c36 => k_is)
    (case k36 => k_is)
    (case a37 => k_is)
    (case l37 => k_is)
    (case c37 => k_is)
    (case k37 => k_is)
    (case a38 => k_is)
    (case l38 => k_is)
    (case c38 => k_is)
    (case k38 => k_is)
    (case a39 => k_is)
    (case l39 => k_is)
    (case c39 => k_is)
    (case k39 => k_is)
    (case a40 => k_is)
    (case l40 => k_is)
    (case c40 => k_is)
    (case k40 => k_is)
    (case a41 => k_is)
    (case l41 => k_is)
    (case c41 => k_is)
    (case k41 => k_is)
    (case a42 => k_is)
    (case l42 => k_is)
    (case c42 => k_is)
    (case k42 => k_is)
    (case z0 => k_is)
    (case z1 => k_is)
    (case z2 => k_is)
    (case z3 => k_is)
    (case z4 => k_is)
    (case z5 => k_is)
    (case z6 => k_is)
    (case z7 => k_is)
    (case z8 => k_is)
    (case z9 => k_is)
    (case z10 => k_is)
    (case z11 => k_is)
    (case z12 => k_is)
    (case z13 => k_is)
    (case z14 => k_is)
    (case z15 => k_is)
    (case z16 => k_is)
    (case gc0 => k_is)
    (case gc1 => k_is)
    (case gc2 => k_is)
    (case A0 => k_is)
    (case X0 => k_is)
    (case v0 => rfl)
    (case sa0 => k_is)
    (case e0 => k_is)
    (case T0 => k_is)
    (case I0 => k_is)
    (case K0 => k_is)
    (case n0 => k_is)
    (case y0 => k_is)
    (case le0 => k_is)
    (case ce0 => k_is)
    (case ke0 => k_is)
    (case ga0 => k_is)
    (case gg0 => k_is)
    (case hd0 => k_is)
    (case at0 => k_is)
    (case ha0 => k_is)
    (case hm0 => k_is)
    (case su0_int => k_is)
    (case su0_bool => k_is)
    (case su0_str => k_is)
    (case su0_list => k_is)
    (case su0_tuple => k_is)
    (case su0_dict => k_is)
    (case A1 => k_is)
    (case X1 => k_is)
    (case v1 => rfl)
    (case sa1 => k_is)
    (case e1 => k_is)
    (case T1 => k_is)
    (case I1 => k_is)
    (case K1 => k_is)
    (case n1 => k_is)
    (case y1 => k_is)
    (case le1 => k_is)
    (case ce1 => k_is)
    (case ke1 => k_is)
    (case ga1 => k_is)
    (case gg1 => k_is)
    (case hd1 => k_is)
    (case at1 => k_is)
    (case ha1 => k_is)
    (case hm1 => k_is)
    (case su1_int => k_is)
    (case su1_bool => k_is)
    (case su1_str => k_is)
    (case su1_list => k_is)
    (case su1_tuple => k_is)
    (case su1_dict => k_is)
    (case A2 => k_is)
    (case X2 => k_is)
    (case v2 => rfl)
    (case sa2 => k_is)
    (case e2 => k_is)
    (case T2 => k_is)
    (case I2 => k_is)
    (case K2 => k_is)
    (case n2 => k_is)
    (case y2 => k_is)
    (case le2 => k_is)
    (case ce2 => k_is)
    (case ke2 => k_is)
    (case ga2 => k_is)
    (case gg2 => k_is)
    (case hd2 => k_is)
    (case at2 => k_is)
    (case ha2 => k_is)
    (case hm2 => k_is)
    (case su2_int => k_is)
    (case su2_bool => k_is)
    (case su2_str => k_is)
    (case su2_list => k_is)
    (case su2_tuple => k_is)
    (case su2_dict => k_is)
    (case A3 => k_is)
    (case X3 => k_is)
    (case v3 => rfl)
    (case sa3 => k_is)
    (case e3 => k_is)
    (case T3 => k_is)
    (case I3 => k_is)
    (case K3 => k_is)
    (case n3 => k_is)
    (case y3 => k_is)
    (case le3 => k_is)
    (case ce3 => k_is)
    (case ke3 => k_is)
    (case ga3 => k_is)
    (case gg3 => k_is)
    (case hd3 => k_is)
    (case at3 => k_is)
    (case ha3 => k_is)
    (case hm3 => k_is)
    (case su3_int => k_is)
    (case su3_bool => k_is)
    (case su3_str => k_is)
    (case su3_list => k_is)
    (case su3_tuple => k_is)
    (case su3_dict => k_is)
    (case A4 => k_is)
    (case X4 => k_is)
    (case v4 => rfl)
    (case sa4 => k_is)
    (case e4 => k_is)
    (case T4 => k_is)
    (case I4 => k_is)
    (case K4 => k_is)
    (case n4 => k_is)
    (case y4 => k_is)
    (case le4 => k_is)
    (case ce4 => k_is)
    (case ke4 => k_is)
    (case ga4 => k_is)
    (case gg4 => k_is)
    (case hd4 => k_is)
    (case at4 => k_is)
    (case ha4 => k_is)
    (case hm4 => k_is)
    (case su4_int => k_is)
    (case su4_bool => k_is)
    (case su4_str => k_is)
    (case su4_list => k_is)
    (case su4_tuple => k_is)
    (case su4_dict => k_is)
    (case A5 => k_is)
    (case X5 => k_is)
    (case v5 => rfl)
    (case sa5 => k_is)
    (case e5 => k_is)
    (case T5 => k_is)
    (case I5 => k_is)
    (case K5 => k_is)
    (case n5 => k_is)
    (case y5 => k_is)
    (case le5 => k_is)
    (case ce5 => k_is)
    (case ke5 => k_is)
    (case ga5 => k_is)
    (case gg5 => k_is)
    (case hd5 => k_is)
    (case at5 => k_is)
    (case ha5 => k_is)
    (case hm5 => k_is)
    (case su5_int => k_is)
    (case su5_bool => k_is)
    (case su5_str => k_is)
    (case su5_list => k_is)
    (case su5_tuple => k_is)
    (case su5_dict => k_is)
    (case A6 => k_is)
    (case X6 => k_is)
    (case v6 => rfl)
    (case sa6 => k_is)
    (case e6 => k_is)
    (case T6 => k_is)
    (case I6 => k_is)
    (case K6 => k_is)
    (case n6 => k_is)
    (case y6 => k_is)
    (case le6 => k_is)
    (case ce6 => k_is)
    (case ke6 => k_is)
    (case ga6 => k_is)
    (case gg6 => k_is)
    (case hd6 => k_is)
    (case at6 => k_is)
    (case ha6 => k_is)
    (case hm6 => k_is)
    (case su6_int => k_is)
    (case su6_bool => k_is)
    (case su6_str => k_is)
    (case su6_list => k_is)
    (case su6_tuple => k_is)
    (case su6_dict => k_is)
    (case hn => k_is)
    (case ht => k_is)
    (case h00 => k_is)
    (case pg7 => k_is)
    (case hd7 => k_is)
    (case po7 => k_is)
    (case sa7 => k_is)
    (case ha7 => k_is)
    (case hm7 => k_is)
    (case mk7 => k_is)
    (case K7 => k_is)
    (case I7 => k_is)
    (case T7 => k_is)
    (case su7_int => k_is)
    (case su7_bool => k_is)
    (case su7_str => k_is)
    (case su7_list => k_is)
    (case su7_tuple => k_is)
    (case su7_dict => k_is)
    (case sv7_int => k_is)
    (case sv7_bool => k_is)
    (case sv7_str => k_is)
    (case sv7_list => k_is)
    (case sv7_tuple => k_is)
    (case sv7_dict => k_is)
    (case sv7_NoneType => k_is)
    (case s0_7 => k_is)
    (case s1_7 => k_is)
    (case s2_7 => k_is)
    (case s3_7 => k_is)
    (case s4_7 => k_is)
    (case s5_7 => k_is)
    (case s6_7 => k_is)
    (case s7_7 => k_is)
    (case s8_7 => k_is)
    (case nf7_int => k_is)
    (case nf7_bool => k_is)
    (case nf7_str => k_is)
    (case nf7_list => k_is)
    (case nf7_tuple => k_is)
    (case nf7_dict => k_is)
    (case nf7_NoneType => k_is)
    (case ng7_0 => k_is)
    (case ng7_1 => k_is)
    (case ng7_2 => k_is)
    (case ng7_3 => k_is)
    (case ng7_4 => k_is)
    (case ng7_5 => k_is)
    (case ng7_6 => k_is)
    (case ng7_7 => k_is)
    (case ng7_8 => k_is)
    (case ne7 => k_is)
    (case so7 => k_is)
    (case na7_blocks => k_is)
    (case na7_contents => k_is)
    (case pg8 => k_is)
    (case hd8 => k_is)
    (case po8 => k_is)
    (case sa8 => k_is)
    (case ha8 => k_is)
    (case hm8 => k_is)
    (case mk8 => k_is)
    (case K8 => k_is)
    (case I8 => k_is)
    (case T8 => k_is)
    (case su8_int => k_is)
    (case su8_bool => k_is)
    (case su8_str => k_is)
    (case su8_list => k_is)
    (case su8_tuple => k_is)
    (case su8_dict => k_is)
    (case sv8_int => k_is)
    (case sv8_bool => k_is)
    (case sv8_str => k_is)
    (case sv8_list => k_is)
    (case sv8_tuple => k_is)
    (case sv8_dict => k_is)
    (case sv8_NoneType => k_is)
    (case s0_8 => k_is)
    (case s1_8 => k_is)
    (case s2_8 => k_is)
    (case s3_8 => k_is)
    (case s4_8 => k_is)
    (case s5_8 => k_is)
    (case s6_8 => k_is)
    (case s7_8 => k_is)
    (case s8_8 => k_is)
    (case na8__pending => k_is)
    (case na8__settled => k_is)
    (case na8_disk => k_is)
    (case na8_torn => k_is)
    (case s0_0 => k_is)
    (case s0_1 => k_is)
    (case s0_2 => k_is)
    (case s0_3 => k_is)
    (case s0_4 => k_is)
    (case s0_5 => k_is)
    (case s0_6 => k_is)
    (case s1_0 => k_is)
    (case s1_1 => k_is)
    (case s1_2 => k_is)
    (case s1_3 => k_is)
    (case s1_4 => k_is)
    (case s1_5 => k_is)
    (case s1_6 => k_is)
    (case s2_0 => k_is)
    (case s2_1 => k_is)
    (case s2_2 => k_is)
    (case s2_3 => k_is)
    (case s2_4 => k_is)
    (case s2_5 => k_is)
    (case s2_6 => k_is)
    (case s3_0 => k_is)
    (case s3_1 => k_is)
    (case s3_2 => k_is)
    (case s3_3 => k_is)
    (case s3_4 => k_is)
    (case s3_5 => k_is)
    (case s3_6 => k_is)
    (case s4_0 => k_is)
    (case s4_1 => k_is)
    (case s4_2 => k_is)
    (case s4_3 => k_is)
    (case s4_4 => k_is)
    (case s4_5 => k_is)
    (case s4_6 => k_is)
    (case s5_0 => k_is)
    (case s5_1 => k_is)
    (case s5_2 => k_is)
    (case s5_3 => k_is)
    (case s5_4 => k_is)
    (case s5_5 => k_is)
    (case s5_6 => k_is)
    (case s6_0 => k_is)
    (case s6_1 => k_is)
    (case s6_2 => k_is)
    (case s6_3 => k_is)
    (case s6_4 => k_is)
    (case s6_5 => k_is)
    (case s6_6 => k_is)
