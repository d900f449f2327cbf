import PyProof.Rows.All
import PyProof.EqLayable
import PyProof.ReprRoads
import Wide.All
import OpenK.AllK
import Wide.FinOn
import HandS.ForExc
import HandS.ForMost
import HandS.Wide
import HandS.Style
import HandS.IsInst
import HandS.ExcInit
import HandS.ExcField
import HandS.ExcIs
import HandS.Defaults
import HandS.Flow
import KE.KExcIs
import PyProof.RowDictHeap
import PyProof.InstNe
import HandS.TupAny
import HandS.TupMul
import HandS.Deep
import HandS.NoneIn
import PyProof.FitsInt
import PySem.Challenge.RW_leastspare_k01_disks_fillings_numbers
set_option Elab.async false
set_option autoImplicit false
set_option linter.all false
/-! Mini: a small deterministic machine over a heap of cells. Plain Lean: no program of Python in sight. -/
namespace Mini
open PySem (Str PyData)
/-- values -/
inductive W where
  | non | bl (b : Bool) | int (i : Int) | str (s : Str) | ref (n : Nat)
  deriving DecidableEq
/-- what stands in a cell -/
inductive Cell where
  | lst (xs : List W)
  | tup (xs : List W)
  /-- a list that is read alone -/
  | fz (xs : List W)
  /-- a list that the text's top has written -/
  | cl (xs : List W)
  /-- a tuple that the text's top has written -/
  | ct (xs : List W)
  /-- a dict of texts and ints -/
  | dic (kvs : List (Sum Int Str × W))
  /-- an instance of the class with this number -/
  | ins (c : Nat) (fs : List (Str × W))
  /-- what an exception bears -/
  | xd (fs : List (Str × W))
  /-- an exception's object: of the class c, with what it bears at d -/
  | exo (c : Nat) (d : Option Nat)
abbrev MH := List Cell
/-- how a step ends -/
inductive R (α : Type) where
  | ok (a : α) (h : MH)
  | exc (c : Nat) (d : Option Nat) (h : MH)
  | bad
def R.bind {α β : Type} (r : R α) (f : α → MH → R β) : R β := match r with
  | .ok a h => f a h
  | .exc c d h => .exc c d h
  | .bad => .bad
abbrev Env := List (Option W)
abbrev E := Env → MH → R W
abbrev T := Env → MH → R Bool
abbrev A := Env → MH → R (List W)
abbrev F := List W → MH → R W
/-- how a statement ends -/
inductive Fl where
  | nx | rt (w : W) | bk | ct
inductive RS where
  | ok (f : Fl) (r : Env) (h : MH)
  | exc (c : Nat) (d : Option Nat) (r : Env) (h : MH)
  | bad
abbrev S := Env → MH → RS
/-! ### expressions -/
@[simp] def eVar (i : Nat) : E := fun r h => match r[i]? with
  | some (some w) => .ok w h
  | _ => .bad
@[simp] def eC (w : W) : E := fun _ h => .ok w h
@[simp] def eBin (g : W → W → MH → R W) (a b : E) : E := fun r h => (a r h).bind fun x h1 => (b r h1).bind fun y h2 => g x y h2
@[simp] def eUn (g : W → MH → R W) (a : E) : E := fun r h => (a r h).bind fun x h1 => g x h1
@[simp] def aNil : A := fun _ h => .ok [] h
@[simp] def aCons (e : E) (a : A) : A := fun r h => (e r h).bind fun x h1 => (a r h1).bind fun xs h2 => .ok (x :: xs) h2
def eTup (a : A) : E := fun r h => (a r h).bind fun xs h1 => if xs.length ≤ 1000 then .ok (.ref h1.length) (h1 ++ [.tup xs]) else .bad
def eLst (a : A) : E := fun r h => (a r h).bind fun xs h1 => if xs.length ≤ 1000 then .ok (.ref h1.length) (h1 ++ [.lst xs]) else .bad
def eDic0 : E := fun _ h => .ok (.ref h.length) (h ++ [.dic []])
@[simp] def eCall (f : F) (a : A) : E := fun r h => (a r h).bind f
/-- counted -/
@[simp] def aN (n : Nat) (a : A) : A := fun r h => (a r h).bind fun xs h1 => if xs.length = n then .ok xs h1 else .bad
/-- items by their places -/
def pick {α : Type} (is : List Nat) (l : List α) : List α := is.filterMap fun i => l[i]?
/-- f(a, .., k = b, ..): what stands at the places is are the parameters in order -/
@[simp] def eCallK (f : F) (is : List Nat) (a b : A) : E := fun r h => (a r h).bind fun xs h1 => (b r h1).bind fun ys h2 => f (pick is (xs ++ ys)) h2
/-- a built-in by its values -/
@[simp] def eFn (g : List W → MH → R W) (a : A) : E := fun r h => (a r h).bind g
/-! ### tests -/
/-- a value's truth -/
def tru (w : W) (h : MH) : Option Bool := match w with
  | .non => some false
  | .bl b => some b
  | .int i => some (i != 0)
  | .str s => if s.length ≤ 1000000 then some (s.length != 0) else none
  | .ref n => match h[n]? with
    | some (.lst xs) => some (!xs.isEmpty)
    | some (.fz xs) => some (!xs.isEmpty)
    | some (.cl xs) => some (!xs.isEmpty)
    | some (.tup xs) => some (!xs.isEmpty)
    | some (.ct xs) => some (!xs.isEmpty)
    | some (.dic kvs) => some (!kvs.isEmpty)
    | _ => none
@[simp] def tTru (a : E) : T := fun r h => (a r h).bind fun x h1 => match tru x h1 with
  | some b => .ok b h1
  | none => .bad
/-- a truth value -/
@[simp] def tBl (a : E) : T := fun r h => (a r h).bind fun x h1 => match x with
  | .bl b => .ok b h1
  | _ => .bad
@[simp] def tAnd (a b : T) : T := fun r h => (a r h).bind fun c h1 => if c = true then b r h1 else .ok false h1
@[simp] def tOr (a b : T) : T := fun r h => (a r h).bind fun c h1 => if c = true then .ok true h1 else b r h1
@[simp] def tNot (a : T) : T := fun r h => (a r h).bind fun c h1 => .ok (!c) h1
@[simp] def eIf (t : T) (a b : E) : E := fun r h => (t r h).bind fun c h1 => if c = true then a r h1 else b r h1
/-- and, or, not as values: truth values -/
@[simp] def eAnd (a b : E) : E := fun r h => (a r h).bind fun x h1 => match x with
  | .bl true => b r h1
  | .bl false => .ok (.bl false) h1
  | _ => .bad
@[simp] def eOr (a b : E) : E := fun r h => (a r h).bind fun x h1 => match x with
  | .bl true => .ok (.bl true) h1
  | .bl false => b r h1
  | _ => .bad
@[simp] def eNot (a : E) : E := fun r h => (a r h).bind fun x h1 => match x with
  | .bl b => .ok (.bl (!b)) h1
  | _ => .bad
/-- a OP b OP' c -/
@[simp] def eChain (g g' : W → W → MH → R W) (a b c : E) : E := fun r h => (a r h).bind fun x h1 => (b r h1).bind fun y h2 => (g x y h2).bind fun z h3 => match z with
  | .bl true => (c r h3).bind fun u h4 => g' y u h4
  | .bl false => .ok (.bl false) h3
  | _ => .bad
/-! ### operators -/
def intOp (f : Int → Int → Int) : W → W → MH → R W := fun x y h => match x, y with
  | .int i, .int j => .ok (.int (f i j)) h
  | _, _ => .bad
def intOpC (c : Int → Int → Bool) (f : Int → Int → Int) : W → W → MH → R W := fun x y h => match x, y with
  | .int i, .int j => if c i j = true then .ok (.int (f i j)) h else .bad
  | _, _ => .bad
def intCmp (f : Int → Int → Bool) : W → W → MH → R W := fun x y h => match x, y with
  | .int i, .int j => .ok (.bl (f i j)) h
  | _, _ => .bad
def two64 : Nat := 18446744073709551616
def mulOk (i j : Int) : Bool := decide (i.natAbs < two64) || decide (j.natAbs < two64) || decide (i.natAbs.log2 + j.natAbs.log2 < 1000000)
def divOk (_ j : Int) : Bool := decide (0 < j) && decide (j.natAbs.log2 < 9000)
def modOk (_ j : Int) : Bool := decide (0 < j)
def powOk (i j : Int) : Bool := decide (0 ≤ j) && decide (j ≤ 1000000) && decide (i.natAbs < two64)
def gSub := intOp fun i j => i - j
def gMul := intOpC mulOk fun i j => i * j
def gDiv := intOpC divOk fun i j => i / j
def gMod := intOpC modOk fun i j => i % j
def gPow := intOpC powOk fun i j => i ^ j.toNat
def gLt := intCmp fun i j => decide (i < j)
def gLe := intCmp fun i j => decide (i ≤ j)
def gGt := intCmp fun i j => decide (j < i)
def gGe := intCmp fun i j => decide (j ≤ i)
/-- the items of a sequence -/
def seqAt (h : MH) (n : Nat) : Option (List W) := match h[n]? with
  | some (.lst xs) => some xs
  | some (.fz xs) => some xs
  | some (.cl xs) => some xs
  | some (.tup xs) => some xs
  | some (.ct xs) => some xs
  | _ => none
/-- a + b: ints, texts, two lists of the call's own -/
def gAdd : W → W → MH → R W := fun x y h => match x, y with
  | .int i, .int j => .ok (.int (i + j)) h
  | .str s, .str t => if s.length + t.length ≤ 1000000 then .ok (.str (s ++ t)) h else .bad
  | .ref a, .ref b => match h[a]?, h[b]? with
    | some (.lst xs), some (.lst ys) => if xs.length + ys.length ≤ 10000000 then .ok (.ref h.length) (h ++ [.lst (xs ++ ys)]) else .bad
    | _, _ => .bad
  | _, _ => .bad
def gNeg : W → MH → R W := fun x h => match x with
  | .int i => .ok (.int (-i)) h
  | _ => .bad
/-- data: what a value is, to a depth -/
def dataAll (f : W → Option PyData) : List W → Option (List PyData)
  | [] => some []
  | x :: xs => match f x, dataAll f xs with
    | some u, some us => some (u :: us)
    | _, _ => none
def dataOf (h : MH) : Nat → W → Option PyData
  | 0, _ => none
  | n + 1, w => match w with
    | .non => some .none
    | .bl b => some (.bool b)
    | .int i => some (.int i)
    | .str s => some (.str s)
    | .ref a => match h[a]? with
      | some (.lst xs) => (dataAll (dataOf h n) xs).map .list
      | some (.fz xs) => (dataAll (dataOf h n) xs).map .list
      | some (.cl xs) => (dataAll (dataOf h n) xs).map .list
      | some (.tup xs) => (dataAll (dataOf h n) xs).map .tuple
      | some (.ct xs) => (dataAll (dataOf h n) xs).map .tuple
      | _ => none
def dep : Nat := 12
/-- two values that stand for themselves -/
def scl : W → W → Bool
  | .non, .non => true | .non, .int _ => true | .non, .bl _ => true | .non, .str _ => true
  | .int _, .non => true | .bl _, .non => true | .str _, .non => true
  | .int _, .int _ => true | .bl _, .bl _ => true | .str _, .str _ => true
  | .int _, .str _ => true | .bl _, .str _ => true
  | .str _, .int _ => true | .str _, .bl _ => true
  | _, _ => false
/-- == -/
def eqB (x y : W) (h : MH) : Option Bool :=
  if scl x y = true then some (decide (x = y)) else
    match dataOf h dep x, dataOf h dep y with
    | some d, some e => if PySem.SeqAt.shaped d = true ∧ PySem.SeqAt.shaped e = true then some (PyData.eqv d e) else none
    | _, _ => none
def gEq : W → W → MH → R W := fun x y h => match eqB x y h with
  | some b => .ok (.bl b) h
  | none => .bad
def gNe : W → W → MH → R W := fun x y h => match eqB x y h with
  | some b => .ok (.bl (!b)) h
  | none => .bad
def gIsN : W → W → MH → R W := fun x y h => match y with
  | .non => .ok (.bl (decide (x = .non))) h
  | _ => .bad
def gNotN : W → W → MH → R W := fun x y h => match y with
  | .non => .ok (.bl (!decide (x = .non))) h
  | _ => .bad
/-- the place of an index -/
def ixOf (n : Nat) (i : Int) : Option Nat := if 0 ≤ i then (if i < n then some i.toNat else none) else if -(n : Int) ≤ i then some (i + n).toNat else none
def gIx : W → W → MH → R W := fun x y h => match x, y with
  | .ref a, .int i => match seqAt h a with
    | some xs => match (ixOf xs.length i).bind fun j => xs[j]? with
      | some w => .ok w h
      | none => .bad
    | none => .bad
  | _, _ => .bad
/-- where a bound of a slice falls among n items; d if there is none -/
def sIx (n d : Nat) : (Option Int) → Nat
  | none => d
  | some i => if i < 0 then (i + (n : Int)).toNat else min i.toNat n
def cut (xs : List W) (lo hi : Option Int) : List W := (xs.drop (sIx xs.length 0 lo)).take (sIx xs.length xs.length hi - sIx xs.length 0 lo)
/-! ### built-in functions, by their values -/
def fLen : List W → MH → R W := fun ws h => match ws with
  | [.ref a] => match seqAt h a with
    | some xs => .ok (.int xs.length) h
    | none => .bad
  | [.str s] => if s.length ≤ 1000000 then .ok (.int s.length) h else .bad
  | _ => .bad
def fAbs : List W → MH → R W := fun ws h => match ws with
  | [.int i] => .ok (.int (if i < 0 then -i else i)) h
  | _ => .bad
def fInt : List W → MH → R W := fun ws h => match ws with
  | [.int i] => .ok (.int i) h
  | _ => .bad
def fMax2 : List W → MH → R W := fun ws h => match ws with
  | [.int i, .int j] => .ok (.int (if j > i then j else i)) h
  | _ => .bad
def fMin2 : List W → MH → R W := fun ws h => match ws with
  | [.int i, .int j] => .ok (.int (if j < i then j else i)) h
  | _ => .bad
def intsOf : List W → Option (List Int)
  | [] => some []
  | .int i :: r => (intsOf r).map (i :: ·)
  | _ :: _ => none
def fSum : List W → MH → R W := fun ws h => match ws with
  | [.ref a] => match h[a]? with
    | some (.lst xs) => match intsOf xs with
      | some ns => .ok (.int ns.sum) h
      | none => .bad
    | _ => .bad
  | _ => .bad
def fList : List W → MH → R W := fun ws h => match ws with
  | [.ref a] => match seqAt h a with
    | some xs => .ok (.ref h.length) (h ++ [.lst xs])
    | none => .bad
  | _ => .bad
/-- data, a flat dict too -/
def sclData : W → Option PyData
  | .non => some .none
  | .bl b => some (.bool b)
  | .int i => some (.int i)
  | .str s => some (.str s)
  | .ref _ => none
def keyData : Sum Int Str → PyData
  | .inl i => .int i
  | .inr s => .str s
def kvData : List (Sum Int Str × W) → Option (List (PyData × PyData))
  | [] => some []
  | p :: r => match sclData p.2, kvData r with
    | some d, some ds => some ((keyData p.1, d) :: ds)
    | _, _ => none
def dicAt (h : MH) : W → Option (List (Sum Int Str × W))
  | .ref a => match h[a]? with
    | some (.dic kvs) => some kvs
    | _ => none
  | _ => none
def dataR (h : MH) (w : W) : Option PyData := match dicAt h w with
  | some kvs => (kvData kvs).map .dict
  | none => dataOf h dep w
def fRepr : List W → MH → R W := fun ws h => match ws with
  | [w] => match dataR h w with
    | some d => if d.showable = true ∧ d.depth ≤ 64 ∧ d.shown.length ≤ 10000000 then .ok (.str d.shown) h else .bad
    | none => .bad
  | _ => .bad
/-- isinstance(x, T) for a built-in T -/
inductive Ty where
  | tInt | tBool | tStr | tList | tTuple | tDict
  deriving DecidableEq
def kindOf (w : W) (h : MH) : Option Ty := match w with
  | .non => none
  | .bl _ => some .tBool
  | .int _ => some .tInt
  | .str _ => some .tStr
  | .ref n => match h[n]? with
    | some (.lst _) => some .tList
    | some (.fz _) => some .tList
    | some (.cl _) => some .tList
    | some (.tup _) => some .tTuple
    | some (.ct _) => some .tTuple
    | some (.dic _) => some .tDict
    | _ => none
/-- what an exception bears is there -/
def xdAt (h : MH) : Option Nat → Bool
  | none => true
  | some k => match h[k]? with
    | some (.xd _) => true
    | _ => false
/-- is the kind known, and does the kind k belong to t -/
def known (w : W) (h : MH) : Bool := match w with
  | .ref n => match h[n]? with
    | some (.lst _) => true
    | some (.fz _) => true
    | some (.cl _) => true
    | some (.tup _) => true
    | some (.ct _) => true
    | some (.dic _) => true
    | some (.ins _ _) => true
    | some (.exo _ d) => xdAt h d
    | _ => false
  | _ => true
def isTy (k : Option Ty) (t : Ty) : Bool := k == some t || (k == some .tBool && t == .tInt)
def gIsi (t : Ty) : W → MH → R W := fun w h => if known w h = true then .ok (.bl (isTy (kindOf w h) t)) h else .bad
def gIsi2 (t u : Ty) : W → MH → R W := fun w h => if known w h = true then .ok (.bl (isTy (kindOf w h) t || isTy (kindOf w h) u)) h else .bad
/-! ### statements -/
def sNx : S := fun r h => .ok .nx r h
def sSeq (a b : S) : S := fun r h => match a r h with
  | .ok .nx r1 h1 => b r1 h1
  | x => x
def sExpr (e : E) : S := fun r h => match e r h with
  | .ok _ h1 => .ok .nx r h1
  | .exc c d h1 => .exc c d r h1
  | .bad => .bad
def sRet (e : E) : S := fun r h => match e r h with
  | .ok w h1 => .ok (.rt w) r h1
  | .exc c d h1 => .exc c d r h1
  | .bad => .bad
def sBrk : S := fun r h => .ok .bk r h
def sCnt : S := fun r h => .ok .ct r h
def sIf (t : T) (a b : S) : S := fun r h => match t r h with
  | .ok c h1 => if c = true then a r h1 else b r h1
  | .exc c d h1 => .exc c d r h1
  | .bad => .bad
/-- targets -/
abbrev G := W → Env → MH → R Env
@[simp] def gSet (i : Nat) : G := fun w r h => .ok (r.set i (some w)) h
@[simp] def gAll : List G → List W → Env → MH → R Env
  | [], [], r, h => .ok r h
  | g :: gs, w :: ws, r, h => (g w r h).bind fun r1 h1 => gAll gs ws r1 h1
  | _, _, _, _ => .bad
/-- a, b, .. = (a tuple) -/
def gTupT (gs : List G) : G := fun w r h => match w with
  | .ref n => match h[n]? with
    | some (.tup xs) => gAll gs xs r h
    | some (.ct xs) => gAll gs xs r h
    | _ => .bad
  | _ => .bad
/-- o[i] = w, o a list -/
def putL (w : W) (r : Env) : W → W → MH → R Env := fun x y h => match x, y with
  | .ref a, .int k => match h[a]? with
    | some (.lst xs) => match ixOf xs.length k with
      | some j => .ok r (h.set a (.lst (xs.set j w)))
      | none => .bad
    | _ => .bad
  | _, _ => .bad
def gSubL (o i : E) : G := fun w r h => (o r h).bind fun x h1 => (i r h1).bind fun y h2 => putL w r x y h2
def sAsg (e : E) (g : G) : S := fun r h => match e r h with
  | .ok w h1 => match g w r h1 with
    | .ok r1 h2 => .ok .nx r1 h2
    | _ => .bad
  | .exc c d h1 => .exc c d r h1
  | .bad => .bad
def sSet (i : Nat) (e : E) : S := sAsg e (gSet i)
/-- a, b = e1, e2 and a, b, c = e1, e2, e3, without a tuple -/
@[simp] def setAll : List Nat → List W → Env → Option Env
  | [], [], r => some r
  | i :: is, w :: ws, r => setAll is ws (r.set i (some w))
  | _, _, _ => none
def sPar (is : List Nat) (a : A) : S := fun r h => match a r h with
  | .ok ws h1 => match setAll is ws r with
    | some r1 => .ok .nx r1 h1
    | none => .bad
  | .exc c d h1 => .exc c d r h1
  | .bad => .bad
/-- x op= e -/
def sAug (i : Nat) (g : W → W → MH → R W) (e : E) : S := fun r h => match r[i]? with
  | some (some x) => match e r h with
    | .ok y h1 => match g x y h1 with
      | .ok z h2 => .ok .nx (r.set i (some z)) h2
      | _ => .bad
    | .exc c d h1 => .exc c d r h1
    | .bad => .bad
  | _ => .bad
/-- two targets: a = b = e -/
def sAsg2 (e : E) (i j : Nat) : S := fun r h => match e r h with
  | .ok w h1 => .ok .nx ((r.set i (some w)).set j (some w)) h1
  | .exc c d h1 => .exc c d r h1
  | .bad => .bad
def sWhile (t : T) (b : S) : Nat → S
  | 0 => fun _ _ => .bad
  | n + 1 => fun r h => match t r h with
    | .ok true h1 => match b r h1 with
      | .ok .nx r2 h2 => sWhile t b n r2 h2
      | .ok .ct r2 h2 => sWhile t b n r2 h2
      | .ok .bk r2 h2 => .ok .nx r2 h2
      | x => x
    | .ok false h1 => .ok .nx r h1
    | .exc c d h1 => .exc c d r h1
    | .bad => .bad
/-- what a for walks: from a list or tuple, from a range -/
inductive Src where
  | lst (a : Nat)
  | tup (a : Nat)
  | rng (lo : Int) (n : Nat)
def lstAt (h : MH) (n : Nat) : Option (List W) := match h[n]? with
  | some (.lst xs) => some xs
  | some (.fz xs) => some xs
  | some (.cl xs) => some xs
  | _ => none
def tupAt (h : MH) (n : Nat) : Option (List W) := match h[n]? with
  | some (.tup xs) => some xs
  | some (.ct xs) => some xs
  | _ => none
/-- the item of a turn: bad, the end, an item -/
def Src.at : Src → Nat → MH → Option (Option W)
  | .lst a, i, h => (lstAt h a).map fun xs => xs[i]?
  | .tup a, i, h => (tupAt h a).map fun xs => xs[i]?
  | .rng lo n, i, _ => some (if i < n then some (.int (lo + i)) else none)
def sTurns (src : Src) (g : G) (b : S) : Nat → Nat → S
  | 0, _ => fun _ _ => .bad
  | k + 1, i => fun r h => match src.at i h with
    | none => .bad
    | some none => .ok .nx r h
    | some (some w) => match g w r h with
      | .ok r1 h1 => match b r1 h1 with
        | .ok .nx r2 h2 => sTurns src g b k (i + 1) r2 h2
        | .ok .ct r2 h2 => sTurns src g b k (i + 1) r2 h2
        | .ok .bk r2 h2 => .ok .nx r2 h2
        | x => x
      | _ => .bad
/-- what is walked, and how many turns there are at most -/
abbrev I := Env → MH → R (Src × Nat)
def iSeq (e : E) : I := fun r h => (e r h).bind fun w h1 => match w with
  | .ref a => match lstAt h1 a with
    | some xs => .ok (.lst a, xs.length + 1) h1
    | none => match tupAt h1 a with
      | some xs => .ok (.tup a, xs.length + 1) h1
      | none => .bad
  | _ => .bad
def rOk (i : Int) : Bool := decide (-4611686018427387904 ≤ i) && decide (i < 4611686018427387904)
def iRng1 (e : E) : I := fun r h => (e r h).bind fun w h1 => match w with
  | .int n => if rOk n = true then .ok (.rng 0 n.toNat, n.toNat + 1) h1 else .bad
  | _ => .bad
def iRng2 (a b : E) : I := fun r h => (a r h).bind fun x h1 => (b r h1).bind fun y h2 => match x, y with
  | .int i, .int j => if rOk i = true ∧ rOk j = true then .ok (.rng i (j - i).toNat, (j - i).toNat + 1) h2 else .bad
  | _, _ => .bad
def sFor (it : I) (g : G) (b : S) : S := fun r h => match it r h with
  | .ok (src, k) h1 => sTurns src g b k 0 r h1
  | .exc c d h1 => .exc c d r h1
  | .bad => .bad
/-- the list comprehension with one for -/
def wipe (r : Env) : List Nat → Env
  | [] => r
  | i :: is => (wipe r is).set i none
/-- an item onto the list that is made, and on -/
def lcAdd (D : Nat) (x : W) (k : MH → R W) : MH → R W := fun h => match h[D]? with
  | some (.lst acc) => if acc.length < 10000000 then k (h.set D (.lst (acc ++ [x]))) else .bad
  | _ => .bad
def lcTurns (src : Src) (g : G) (t : T) (e : E) (r : Env) (D : Nat) : Nat → Nat → MH → R W
  | 0, _, _ => .bad
  | k + 1, i, h => match src.at i h with
    | none => .bad
    | some none => .ok (.ref D) h
    | some (some w) => match g w r h with
      | .ok r1 h1 => (t r1 h1).bind fun c h2 => if c = true then (e r1 h2).bind fun x h3 => lcAdd D x (lcTurns src g t e r D k (i + 1)) h3
        else lcTurns src g t e r D k (i + 1) h2
      | _ => .bad
/-- no exception leaves it -/
def R.quiet {α : Type} : R α → R α
  | .exc _ _ _ => .bad
  | x => x
def eLc (vs : List Nat) (it : I) (g : G) (t : T) (e : E) : E := fun r h => (it r h).bind fun q h1 => (lcTurns q.1 g t e (wipe r vs) h1.length q.2 0 (h1 ++ [.lst []])).quiet
@[simp] def tYes : T := fun _ h => .ok true h
/-- o.append(e) -/
def app (x y : W) : MH → R W := fun h => match x with
  | .ref a => match h[a]? with
    | some (.lst xs) => if xs.length < 10000000 then .ok .non (h.set a (.lst (xs ++ [y]))) else .bad
    | _ => .bad
  | _ => .bad
/-- is x a list here -/
def isLst (x : W) (h : MH) : Bool := match x with
  | .ref a => match h[a]? with
    | some (.lst _) => true
    | _ => false
  | _ => false
def eApp (o e : E) : E := fun r h => (o r h).bind fun x h1 => if isLst x h1 = true then (e r h1).bind fun y h2 => app x y h2 else .bad
/-- xs[a:b] -/
@[simp] def oNo : Env → MH → R (Option Int) := fun _ h => .ok none h
@[simp] def intSome : W → MH → R (Option Int) := fun w h => match w with
  | .int i => .ok (some i) h
  | _ => .bad
@[simp] def oSo (e : E) : Env → MH → R (Option Int) := fun r h => (e r h).bind intSome
/-- a new list; a new tuple, where it is not the whole one -/
def slice (w : W) (l u : Option Int) : MH → R W := fun h => match w with
  | .ref a => match h[a]? with
    | some (.lst xs) => .ok (.ref h.length) (h ++ [.lst (cut xs l u)])
    | some (.fz xs) => .ok (.ref h.length) (h ++ [.lst (cut xs l u)])
    | some (.cl xs) => .ok (.ref h.length) (h ++ [.lst (cut xs l u)])
    | some (.tup xs) => if sIx xs.length 0 l = 0 ∧ sIx xs.length xs.length u = xs.length then .bad else .ok (.ref h.length) (h ++ [.tup (cut xs l u)])
    | some (.ct xs) => if sIx xs.length 0 l = 0 ∧ sIx xs.length xs.length u = xs.length then .bad else .ok (.ref h.length) (h ++ [.tup (cut xs l u)])
    | _ => .bad
  | _ => .bad
def eSl (e : E) (lo hi : Env → MH → R (Option Int)) : E := fun r h => (e r h).bind fun w h1 => (lo r h1).bind fun l h2 => (hi r h2).bind fun u h3 => slice w l u h3
/-- d[k] = v, k an int or a text -/
def putD (kvs : List (Sum Int Str × W)) (k : Sum Int Str) (w : W) : List (Sum Int Str × W) :=
  if (kvs.any fun kv => decide (kv.1 = k)) = true then kvs.map (fun kv => if kv.1 = k then (kv.1, w) else kv) else kvs ++ [(k, w)]
def keyOf : W → Option (Sum Int Str)
  | .int i => some (.inl i)
  | .str s => some (.inr s)
  | _ => none
def dput (w d k : W) : MH → R Unit := fun h => match d with
  | .ref a => match h[a]? with
    | some (.dic kvs) => match keyOf k with
      | some q => if kvs.length < 1000000 then .ok () (h.set a (.dic (putD kvs q w))) else .bad
      | none => .bad
    | _ => .bad
  | _ => .bad
def sDput (d k e : E) : S := fun r h => match (e r h).bind fun w h1 => (d r h1).bind fun x h2 => (k r h2).bind fun y h3 => dput w x y h3 with
  | .ok _ h1 => .ok .nx r h1
  | .exc c d h1 => .exc c d r h1
  | .bad => .bad
/-- raise C(e): C's __init__ keeps its argument under f -/
def sRaise (c : Nat) (f : Str) (e : E) : S := fun r h => match e r h with
  | .ok w h1 => .exc c (some h1.length) r (h1 ++ [.xd [(f, w)]])
  | .exc c d h1 => .exc c d r h1
  | .bad => .bad
/-- the attribute of an exception, of a class that ok tells -/
def xfOf (ok : Nat → Bool) (f : Str) : W → MH → R W := fun x h => match x with
  | .ref a => match h[a]? with
    | some (.exo c (some d)) => match h[d]? with
      | some (.xd fs) => match fs.lookup f with
        | some w => if ok c = true then .ok w h else .bad
        | none => .bad
      | _ => .bad
    | _ => .bad
  | _ => .bad
def eXfl (ok : Nat → Bool) (f : Str) (o : E) : E := fun r h => (o r h).bind (xfOf ok f)
/-- C(e), an exception's object that is not raised -/
def eErr (c : Nat) (f : Str) (e : E) : E := fun r h => (e r h).bind fun w h1 => .ok (.ref (h1.length + 1)) (h1 ++ [.xd [(f, w)], .exo c (some h1.length)])
/-- except clauses: which classes they take, the slot of their name, what their suite does with what the exception bears -/
structure Hd where
  m : Nat → Bool
  i : Option Nat
  s : S
@[simp] def noSlot (i : Option Nat) (r : Env) : Env := match i with
  | some i => r.set i none
  | none => r
@[simp] def onSlot (i : Option Nat) (n : Nat) (r : Env) : Env := match i with
  | some i => r.set i (some (.ref n))
  | none => r
def hEnd (i : Option Nat) : RS → RS
  | .ok f r h => .ok f (noSlot i r) h
  | _ => .bad
@[simp] def hRun (n c : Nat) (d : Option Nat) : List Hd → S
  | [] => fun r h => .exc c d r h
  | k :: ks => fun r h => if c < n then (if k.m c = true then hEnd k.i (k.s (onSlot k.i h.length r) (h ++ [.exo c d])) else hRun n c d ks r h) else .bad
/-- n classes of errors, len slots -/
def sTry (n len : Nat) (b : S) (hs : List Hd) : S := fun r h => match b r h with
  | .exc c d r1 h1 => if r1.length = len then hRun n c d hs r1 h1 else .bad
  | x => x
/-! ### defs -/
@[simp] def begin_ (n : Nat) (ws : List W) : Env := ws.map some ++ List.replicate (n - ws.length) none
def fnOf (n p : Nat) (b : S) : F := fun ws h => if ws.length = p then match b (begin_ n ws) h with
    | .ok (.rt w) _ h1 => .ok w h1
    | .ok .nx _ h1 => .ok .non h1
    | .exc c d _ h1 => .exc c d h1
    | _ => .bad
  else .bad
end Mini
set_option Elab.async false
set_option autoImplicit false
set_option linter.all false
/-! Mini, instances of own classes. -/
namespace Mini
open PySem (Str PyData)
/-- o.f of an instance of a class that ok tells -/
def fldOf (ok : Nat → Bool) (f : Str) : W → MH → R W := fun x h => match x with
  | .ref a => match h[a]? with
    | some (.ins c fs) => match fs.lookup f with
      | some w => if ok c = true then .ok w h else .bad
      | none => .bad
    | _ => .bad
  | _ => .bad
def eFld (ok : Nat → Bool) (f : Str) (o : E) : E := fun r h => (o r h).bind (fldOf ok f)
def putFs (f : Str) (w : W) : List (Str × W) → List (Str × W)
  | [] => [(f, w)]
  | (g, x) :: r => if g = f then (g, w) :: r else (g, x) :: putFs f w r
def fldPut (ok : Nat → Bool) (f : Str) (w : W) : W → MH → R Unit := fun x h => match x with
  | .ref a => match h[a]? with
    | some (.ins c fs) => if ok c = true ∧ fs.length < 1000 then .ok () (h.set a (.ins c (putFs f w fs))) else .bad
    | _ => .bad
  | _ => .bad
/-- o.f = e -/
def sFldSet (ok : Nat → Bool) (f : Str) (o e : E) : S := fun r h => match (e r h).bind fun w h1 => (o r h1).bind fun x h2 => fldPut ok f w x h2 with
  | .ok _ h1 => .ok .nx r h1
  | .exc c d h1 => .exc c d r h1
  | .bad => .bad
/-- C(..): a new instance, then __init__ -/
def newIns (c : Nat) (f : F) (ws : List W) : MH → R W := fun h => (f (.ref h.length :: ws) (h ++ [.ins c []])).bind fun u h2 => match u with
  | .non => .ok (.ref h.length) h2
  | _ => .bad
def eMake (c : Nat) (f : F) (a : A) : E := fun r h => (a r h).bind fun ws h1 => newIns c f ws h1
def eMakeK (c : Nat) (f : F) (is : List Nat) (b : A) : E := fun r h => (b r h).bind fun ws h1 => newIns c f (pick is ws) h1
def insOf (w : W) (h : MH) : Option Nat := match w with
  | .ref n => match h[n]? with
    | some (.ins c _) => some c
    | _ => none
  | _ => none
/-- the class of an exception's object -/
def excOf (w : W) (h : MH) : Option Nat := match w with
  | .ref n => match h[n]? with
    | some (.exo c _) => some c
    | _ => none
  | _ => none
def clsOf (w : W) (h : MH) : Option Nat := match w with
  | .ref n => match h[n]? with
    | some (.ins c _) => some c
    | some (.exo c _) => some c
    | _ => none
  | _ => none
/-- isinstance(x, C), C an own class -/
def gIsiC (c : Nat) : W → MH → R W := fun w h => if known w h = true then .ok (.bl (clsOf w h == some c)) h else .bad
end Mini
namespace Mini
/-- x == y: an instance's own __eq__ -/
def eqO (me : Nat → Option F) : W → W → MH → R W := fun x y h => match insOf x h with
  | none => gEq x y h
  | some c => match me c with
    | some f => if known y h = true then (f [x, y] h).quiet.bind fun w h1 => (match w with
        | .bl b => .ok (.bl b) h1
        | _ => .bad)
      else .bad
    | none => .bad
/-- x != y: by an instance's own __eq__ -/
def neO (me : Nat → Option F) : W → W → MH → R W := fun x y h => match insOf x h with
  | none => gNe x y h
  | some c => match me c with
    | some f => if insOf y h = some c then (f [x, y] h).quiet.bind fun w h1 => (match w with
        | .bl b => .ok (.bl (!b)) h1
        | _ => .bad)
      else .bad
    | none => .bad
end Mini
namespace Mini
open PySem (Str PyData)
/-! ### more built-ins and operators -/
def tupOf (h : MH) : W → Option (List W)
  | .ref a => tupAt h a
  | _ => none
/-- tuple(x) -/
def fTuple : List W → MH → R W := fun ws h => match ws with
  | [.ref a] => match lstAt h a with
    | some xs => .ok (.ref h.length) (h ++ [.tup xs])
    | none => match tupAt h a with
      | some _ => .ok (.ref a) h
      | none => .bad
  | _ => .bad
def boolsOf : List W → Option (List Bool)
  | [] => some []
  | .bl b :: r => (boolsOf r).map (b :: ·)
  | _ :: _ => none
/-- all(a list of truth values) -/
def fAll : List W → MH → R W := fun ws h => match ws with
  | [.ref a] => match (lstAt h a).bind boolsOf with
    | some bs => .ok (.bl (bs.all id)) h
    | none => .bad
  | _ => .bad
/-- xs[::-1], a list -/
def revL : W → MH → R W := fun x h => match x with
  | .ref a => match lstAt h a with
    | some xs => .ok (.ref h.length) (h ++ [.lst xs.reverse])
    | none => .bad
  | _ => .bad
def eRev (e : E) : E := fun r h => (e r h).bind revL
/-- +, of tuples too -/
def gAddX : W → W → MH → R W := fun x y h => match tupOf h x, tupOf h y with
  | some xs, some ys => if xs.length + ys.length ≤ 10000000 then (if xs = [] then .ok y h else if ys = [] then .ok x h else .ok (.ref h.length) (h ++ [.tup (xs ++ ys)])) else .bad
  | _, _ => gAdd x y h
/-- x in a list or tuple of data -/
def gIn : W → W → MH → R W := fun x y h => match dataOf h dep x, dataOf h dep y with
  | some d, some (.list ds) => if PySem.SeqAt.shaped d = true ∧ PySem.SeqAt.shaped (.list ds) = true then .ok (.bl (ds.any fun z => PyData.eqv z d)) h else .bad
  | _, _ => .bad
def gNotIn : W → W → MH → R W := fun x y h => match dataOf h dep x, dataOf h dep y with
  | some d, some (.list ds) => if PySem.SeqAt.shaped d = true ∧ PySem.SeqAt.shaped (.list ds) = true then .ok (.bl (!ds.any fun z => PyData.eqv z d)) h else .bad
  | _, _ => .bad
end Mini
namespace Mini
/-! ### methods of lists -/
def eMet0 (g : W → MH → R W) (o : E) : E := fun r h => (o r h).bind fun x h1 => if isLst x h1 = true then g x h1 else .bad
def eMet1 (g : W → W → MH → R W) (o e : E) : E := fun r h => (o r h).bind fun x h1 => if isLst x h1 = true then (e r h1).bind fun y h2 => g x y h2 else .bad
def lstM (h : MH) : W → Option (Nat × List W)
  | .ref a => match h[a]? with
    | some (.lst xs) => some (a, xs)
    | _ => none
  | _ => none
/-- xs.extend(ys), both lists of the call's own -/
def gExt : W → W → MH → R W := fun x y h => match lstM h x, lstM h y with
  | some (a, xs), some (_, ys) => if xs.length + ys.length ≤ 10000000 then .ok .non (h.set a (.lst (xs ++ ys))) else .bad
  | _, _ => .bad
/-- xs.pop() -/
def gPop : W → MH → R W := fun x h => match lstM h x with
  | some (a, xs) => match xs[xs.length - 1]? with
    | some y => .ok y (h.set a (.lst xs.dropLast))
    | none => .bad
  | none => .bad
/-- xs.pop(i), 0 ≤ i -/
def gPopAt : W → W → MH → R W := fun x y h => match lstM h x, y with
  | some (a, xs), .int i => if 0 ≤ i ∧ i < 9223372036854775808 then (match xs[i.toNat]? with
      | some w => .ok w (h.set a (.lst (xs.eraseIdx i.toNat)))
      | none => .bad) else .bad
  | _, _ => .bad
/-- xs.reverse() -/
def gRevM : W → MH → R W := fun x h => match lstM h x with
  | some (a, xs) => .ok .non (h.set a (.lst xs.reverse))
  | none => .bad
end Mini
namespace Mini
/-- *, of a tuple by a number too -/
def gMulX : W → W → MH → R W := fun x y h => match tupOf h x, y with
  | some xs, .int k => if xs = [] then .bad else if k = 1 then .ok x h else if k = 0 then .ok (.ref h.length) (h ++ [.tup []])
    else if 2 ≤ k ∧ k ≤ 1000 ∧ xs.length ≤ 1000 then .ok (.ref h.length) (h ++ [.tup (List.replicate k.toNat xs).flatten]) else .bad
  | _, _ => gMul x y h
end Mini
namespace Mini
/-- x is None, x is True, x is False of a truth value -/
def gIs : W → W → MH → R W := fun x y h => match x, y with
  | .bl b, .bl c => .ok (.bl (decide (b = c))) h
  | x, y => gIsN x y h
def gIsNot : W → W → MH → R W := fun x y h => match x, y with
  | .bl b, .bl c => .ok (.bl (!decide (b = c))) h
  | x, y => gNotN x y h
end Mini
namespace Mini
open PySem (Str PyData)
/-- str(i) -/
def fStr : List W → MH → R W := fun ws h => match ws with
  | [.int i] => if i.natAbs.log2 < 1920 then .ok (.str (Str.ofString (toString i))) h else .bad
  | _ => .bad
end Mini
namespace Mini
/-- two rows of numbers, by the first that differ -/
def rowLt : List Int → List Int → Bool
  | [], [] => false
  | [], _ :: _ => true
  | _ :: _, [] => false
  | a :: l, b :: m => if a = b then rowLt l m else decide (a < b)
/-- <, of tuples of ints too -/
def gLtX : W → W → MH → R W := fun x y h => match (tupOf h x).bind intsOf, (tupOf h y).bind intsOf with
  | some ns, some ms => .ok (.bl (rowLt ns ms)) h
  | _, _ => gLt x y h
end Mini
namespace Mini
/-- a, b, .. = (a tuple or a list) -/
def gSeqT (gs : List G) : G := fun w r h => match w with
  | .ref n => match seqAt h n with
    | some xs => gAll gs xs r h
    | none => .bad
  | _ => .bad
end Mini
set_option Elab.async false
set_option autoImplicit false
set_option linter.all false
set_option maxRecDepth 100000
set_option maxHeartbeats 1100000
/-! Bridge: what the machine of Mini does is what the program does. -/
namespace Br
open PySem PySem.Spec PyProof.Rows L2 Mini
/-- a value of Mini, its cells at the addresses ph -/
def vW (ph : Nat → Addr) : Mini.W → V
  | .non => .non
  | .bl b => .bl b
  | .int i => .int i
  | .str s => .str s
  | .ref n => .ref (ph n)
/-- its cell stands below n -/
def wf (n : Nat) : Mini.W → Prop
  | .ref k => k < n
  | _ => True
def fsV (ph : Nat → Addr) (fs : List (Str × Mini.W)) : List (Str × V) := fs.map fun p => (p.1, vW ph p.2)
def kvV (ph : Nat → Addr) (kvs : List (Sum Int Str × Mini.W)) : List (Key × V) := kvs.map fun p => (p.1, vW ph p.2)
/-- is it tracked by the abstract heap -/
def trk : Cell → Prop
  | .ct _ => False
  | .cl _ => False
  | _ => True
/-! built-in kinds by name -/
def tyName : Mini.Ty → String
  | .tInt => "int" | .tBool => "bool" | .tStr => "str" | .tList => "list" | .tTuple => "tuple" | .tDict => "dict"
/-- an own class, as isinstance and attribute reads ask of it -/
structure ClsX (K : PySem.W.Frag) (C : Addr) : Prop where
  cl : Cls K C
  ha : (PySem.W.findIn K (.ref C) "__class__" = some (some (.builtin "object.__class__")))
  hn : (PySem.W.specialIn K (.builtin "object.__class__") "__get__" = some (some (.builtin "getset_descriptor.__get__")))
  htk : (PySem.W.takesIn K (.builtin "object.__class__") = some true)
  hm : (PySem.W.mroIn K C (.type "object") = some true)
  sub : ∀ t : Mini.Ty, PySem.W.subIn K (.ref C) (.type (tyName t)) = some false
/-- an own exception's class, as isinstance and attribute reads ask of it -/
structure ExcX (K : PySem.W.Frag) (C : Addr) : Prop where
  ec : ExcC K C
  xf : XfC K C
  sub : ∀ t : Mini.Ty, PySem.W.subIn K (.ref C) (.type (tyName t)) = some false
/-- an exception's object, of the class cls, its own dict at d -/
def ExQ (cls : Value) (d : Option Addr) (a : Addr) : HO := .ext fun h => ∃ oe, h.get? a = some oe ∧ Zc cls d oe ∧ ∃ vs, oe.data = .fields vs
section
variable (K : PySem.W.Frag) (Ga : Nat → Addr)
/-- the cell c, in a heap of n cells, stands at a -/
def CellAt (ph : Nat → Addr) (n : Nat) (H : Hp) (a : Addr) : Cell → Prop
  | .lst xs => H a = some (.lst (xs.map (vW ph))) ∧ ∀ x ∈ xs, wf n x
  | .tup xs => H a = some (.tup (xs.map (vW ph))) ∧ ∀ x ∈ xs, wf n x
  | .fz xs => (∃ o, H a = some (.frz o (.lst (xs.map (vW ph))))) ∧ ∀ x ∈ xs, wf n x
  | .ct xs => (∃ (o : Obj) (its : Array Value) (m : Nat), K.lookup a = some o ∧ o.cls = .type "tuple" ∧ o.data = .seq its m ∧ its.size ≤ sizeLine ∧ Vals (xs.map (vW ph)) its.toList) ∧ ∀ x ∈ xs, wf n x
  | .cl xs => (∃ (o : Obj) (its : Array Value) (m : Nat), K.lookup a = some o ∧ o.cls = .type "list" ∧ o.dict = none ∧ o.data = .seq its m ∧ its.size ≤ sizeLine ∧ Vals (xs.map (vW ph)) its.toList) ∧ ∀ x ∈ xs, wf n x
  | .dic kvs => H a = some (.dK (kvV ph kvs)) ∧ ∀ p ∈ kvs, wf n p.2
  | .ins c fs => (∃ dx, H a = some (.ins (Ga c) dx (fsV ph fs)) ∧ ClsX K (Ga c)) ∧ ∀ p ∈ fs, wf n p.2
  | .xd fs => H a = some (.xd (fsV ph fs)) ∧ ∀ p ∈ fs, wf n p.2
  | .exo c d => (H a = some (ExQ (.ref (Ga c)) (d.map ph) a) ∧ ExcX K (Ga c)) ∧ ∀ k, d = some k → k < n
/-- the heap h of Mini is held by H -/
structure HR (ph : Nat → Addr) (h : MH) (H : Hp) : Prop where
  cells : ∀ i c, h[i]? = some c → CellAt K Ga ph h.length H (ph i) c
  inj : ∀ i j ci cj, i ≠ j → h[i]? = some ci → h[j]? = some cj → trk ci → trk cj → ph i ≠ ph j
end
/-- what stood stands at its address -/
structure Grow (ph : Nat → Addr) (h : MH) (ph' : Nat → Addr) (h' : MH) : Prop where
  le : h.length ≤ h'.length
  eq : ∀ i, i < h.length → ph' i = ph i
theorem Grow.refl (ph : Nat → Addr) (h : MH) : Grow ph h ph h := ⟨Nat.le_refl _, fun _ _ => rfl⟩
theorem Grow.trans {p1 p2 p3 : Nat → Addr} {h1 h2 h3 : MH} (a : Grow p1 h1 p2 h2) (b : Grow p2 h2 p3 h3) : Grow p1 h1 p3 h3 :=
  ⟨Nat.le_trans a.le b.le, fun i hi => (b.eq i (Nat.lt_of_lt_of_le hi a.le)).trans (a.eq i hi)⟩
theorem wf.mono {n m : Nat} (h : n ≤ m) : ∀ {w : Mini.W}, wf n w → wf m w
  | .ref k, q => Nat.lt_of_lt_of_le (show k < n from q) h
  | .non, _ => trivial
  | .bl _, _ => trivial
  | .int _, _ => trivial
  | .str _, _ => trivial
theorem Grow.v {p1 p2 : Nat → Addr} {h1 h2 : MH} (g : Grow p1 h1 p2 h2) : ∀ {w : Mini.W}, wf h1.length w → vW p2 w = vW p1 w
  | .ref k, q => congrArg V.ref (g.eq k q)
  | .non, _ => rfl
  | .bl _, _ => rfl
  | .int _, _ => rfl
  | .str _, _ => rfl
theorem Grow.vs {p1 p2 : Nat → Addr} {h1 h2 : MH} (g : Grow p1 h1 p2 h2) {xs : List Mini.W} (q : ∀ x ∈ xs, wf h1.length x) : xs.map (vW p2) = xs.map (vW p1) :=
  List.map_congr_left fun x hx => g.v (q x hx)
theorem Grow.fs {p1 p2 : Nat → Addr} {h1 h2 : MH} (g : Grow p1 h1 p2 h2) {xs : List (Str × Mini.W)} (q : ∀ x ∈ xs, wf h1.length x.2) : fsV p2 xs = fsV p1 xs :=
  List.map_congr_left fun x hx => by rw [g.v (q x hx)]
theorem Grow.kv {p1 p2 : Nat → Addr} {h1 h2 : MH} (g : Grow p1 h1 p2 h2) {xs : List (Sum Int Str × Mini.W)} (q : ∀ x ∈ xs, wf h1.length x.2) : kvV p2 xs = kvV p1 xs :=
  List.map_congr_left fun x hx => by rw [g.v (q x hx)]
section
variable {K : PySem.W.Frag} {Ga : Nat → Addr}
/-- a cell's description under more cells, at another heap that is the same at its address -/
theorem CellAt.to {p1 p2 : Nat → Addr} {n m : Nat} {H H' : Hp} {a : Addr} (hn : n ≤ m) (hp : ∀ i, i < n → p2 i = p1 i) : ∀ {c : Cell}, (trk c → H' a = H a) → CellAt K Ga p1 n H a c → CellAt K Ga p2 m H' a c := by
  intro c hH q
  have v : ∀ {w : Mini.W}, wf n w → vW p2 w = vW p1 w := fun {w} z => by
    cases w with
    | ref k => exact congrArg V.ref (hp k z)
    | _ => rfl
  have vs : ∀ {xs : List Mini.W}, (∀ x ∈ xs, wf n x) → xs.map (vW p2) = xs.map (vW p1) := fun z => List.map_congr_left fun x hx => v (z x hx)
  have fs : ∀ {xs : List (Str × Mini.W)}, (∀ x ∈ xs, wf n x.2) → fsV p2 xs = fsV p1 xs := fun z => List.map_congr_left fun x hx => by rw [v (z x hx)]
  have kv : ∀ {xs : List (Sum Int Str × Mini.W)}, (∀ x ∈ xs, wf n x.2) → kvV p2 xs = kvV p1 xs := fun z => List.map_congr_left fun x hx => by rw [v (z x hx)]
  cases c with
  | lst xs => exact ⟨by rw [hH trivial, vs q.2]; exact q.1, fun x hx => (q.2 x hx).mono hn⟩
  | tup xs => exact ⟨by rw [hH trivial, vs q.2]; exact q.1, fun x hx => (q.2 x hx).mono hn⟩
  | fz xs =>
    obtain ⟨⟨o, e⟩, z⟩ := q
    exact ⟨⟨o, by rw [hH trivial, vs z]; exact e⟩, fun x hx => (z x hx).mono hn⟩
  | ct xs =>
    obtain ⟨⟨o, its, k, e1, e2, e3, e4, e5⟩, z⟩ := q
    exact ⟨⟨o, its, k, e1, e2, e3, e4, by rw [vs z]; exact e5⟩, fun x hx => (z x hx).mono hn⟩
  | cl xs =>
    obtain ⟨⟨o, its, k, e1, e2, e3, e4, e5, e6⟩, z⟩ := q
    exact ⟨⟨o, its, k, e1, e2, e3, e4, e5, by rw [vs z]; exact e6⟩, fun x hx => (z x hx).mono hn⟩
  | dic kvs => exact ⟨by rw [hH trivial, kv q.2]; exact q.1, fun x hx => (q.2 x hx).mono hn⟩
  | ins c fs' =>
    obtain ⟨⟨dx, e, cx⟩, z⟩ := q
    exact ⟨⟨dx, (by rw [hH trivial, fs z]; exact e), cx⟩, fun x hx => (z x hx).mono hn⟩
  | xd fs' => exact ⟨by rw [hH trivial, fs q.2]; exact q.1, fun x hx => (q.2 x hx).mono hn⟩
  | exo c d =>
    obtain ⟨⟨e, cx⟩, z⟩ := q
    refine ⟨⟨?_, cx⟩, fun k hk => Nat.lt_of_lt_of_le (z k hk) hn⟩
    rw [hH trivial, e]
    cases d with
    | none => rfl
    | some k => show some (ExQ _ (some (p1 k)) a) = some (ExQ _ (some (p2 k)) a); rw [hp k (z k rfl)]
theorem CellAt.some {ph : Nat → Addr} {n : Nat} {H : Hp} {a : Addr} : ∀ {c : Cell}, trk c → CellAt K Ga ph n H a c → ∃ o, H a = some o
  | .lst _, _, q => ⟨_, q.1⟩
  | .tup _, _, q => ⟨_, q.1⟩
  | .fz _, _, ⟨⟨_, e⟩, _⟩ => ⟨_, e⟩
  | .dic _, _, q => ⟨_, q.1⟩
  | .ins _ _, _, ⟨⟨_, e, _⟩, _⟩ => ⟨_, e⟩
  | .xd _, _, q => ⟨_, q.1⟩
  | .exo _ _, _, q => ⟨_, q.1.1⟩
/-- a new address for a new cell -/
def ext (ph : Nat → Addr) (n : Nat) (a : Addr) : Nat → Addr := fun i => if i = n then a else ph i
theorem ext_at {ph : Nat → Addr} {n : Nat} {a : Addr} : ext ph n a n = a := if_pos rfl
theorem ext_lt {ph : Nat → Addr} {n : Nat} {a : Addr} {i : Nat} (h : i < n) : ext ph n a i = ph i := if_neg (Nat.ne_of_lt h)
theorem Grow.ext {ph : Nat → Addr} {h : MH} {a : Addr} {c : Cell} : Grow ph h (ext ph h.length a) (h ++ [c]) :=
  ⟨by rw [List.length_append]; exact Nat.le_add_right _ _, fun _ hi => ext_lt hi⟩
/-- a new object is laid -/
theorem HR.push {ph : Nat → Addr} {h : MH} {H : Hp} {a : Addr} {o : HO} {c : Cell} (R : HR K Ga ph h H) (ha : H a = none) (hc : CellAt K Ga (ext ph h.length a) (h.length + 1) (upd H a o) a c) :
    HR K Ga (ext ph h.length a) (h ++ [c]) (upd H a o) := by
  have len : (h ++ [c]).length = h.length + 1 := by rw [List.length_append]; rfl
  have old : ∀ {i : Nat} {x : Cell}, i ≠ h.length → (h ++ [c])[i]? = some x → i < h.length ∧ h[i]? = some x := fun {i x} hi e => by
    have hl : i < (h ++ [c]).length := (List.getElem?_eq_some_iff.mp e).1
    have hl' : i < h.length := by omega
    rw [List.getElem?_append_left hl'] at e
    exact ⟨hl', e⟩
  have new : ∀ {x : Cell}, (h ++ [c])[h.length]? = some x → x = c := fun {x} e => by
    rw [List.getElem?_append_right (Nat.le_refl _), Nat.sub_self] at e
    exact (Option.some.inj e).symm
  have ne : ∀ {i : Nat} {x : Cell}, h[i]? = some x → trk x → ph i ≠ a := fun {i x} e t q => by
    obtain ⟨u, hu⟩ := (R.cells i x e).some t
    rw [q, ha] at hu
    cases hu
  constructor
  · intro i x e
    rw [len]
    by_cases hi : i = h.length
    · subst hi
      rw [new e, ext_at]
      exact hc
    · obtain ⟨hl, e'⟩ := old hi e
      rw [ext_lt hl]
      refine (R.cells i x e').to (Nat.le_succ _) (fun j hj => ext_lt hj) fun t => ?_
      exact upd_ne (ne e' t)
  · intro i j ci cj hij ei ej ti tj
    by_cases hi : i = h.length
    · subst hi
      have hj : j ≠ h.length := fun z => hij z.symm
      obtain ⟨hl, e'⟩ := old hj ej
      rw [ext_at, ext_lt hl]
      exact (ne e' tj).symm
    · obtain ⟨hl, e'⟩ := old hi ei
      by_cases hj : j = h.length
      · subst hj
        rw [ext_at, ext_lt hl]
        exact ne e' ti
      · obtain ⟨hl2, e2⟩ := old hj ej
        rw [ext_lt hl, ext_lt hl2]
        exact R.inj i j ci cj hij e' e2 ti tj
/-- an object is changed -/
theorem HR.set {ph : Nat → Addr} {h : MH} {H : Hp} {o : HO} {n : Nat} {c c' : Cell} (R : HR K Ga ph h H) (hn : h[n]? = some c) (ht : trk c) (ht' : trk c') (hc : CellAt K Ga ph h.length (upd H (ph n) o) (ph n) c') :
    HR K Ga ph (h.set n c') (upd H (ph n) o) := by
  have hl : n < h.length := (List.getElem?_eq_some_iff.mp hn).1
  have here : ∀ {x : Cell}, (h.set n c')[n]? = some x → x = c' := fun {x} e => by
    rw [List.getElem?_set_self hl] at e
    exact (Option.some.inj e).symm
  have there : ∀ {i : Nat} {x : Cell}, i ≠ n → (h.set n c')[i]? = some x → h[i]? = some x := fun {i x} hi e => by
    rw [List.getElem?_set_ne (Ne.symm hi)] at e
    exact e
  constructor
  · intro i x e
    rw [List.length_set]
    by_cases hi : i = n
    · subst hi
      rw [here e]
      exact hc
    · have e' := there hi e
      refine (R.cells i x e').to (Nat.le_refl _) (fun _ _ => rfl) fun t => ?_
      exact upd_ne (R.inj i n x c hi e' hn t ht)
  · intro i j ci cj hij ei ej ti tj
    by_cases hi : i = n
    · subst hi
      exact R.inj i j c cj hij hn (there (fun z => hij z.symm) ej) ht tj
    · by_cases hj : j = n
      · subst hj
        exact R.inj i j ci c hij (there hi ei) hn ti ht
      · exact R.inj i j ci cj hij (there hi ei) (there hj ej) ti tj
theorem Grow.set {ph : Nat → Addr} {h : MH} {n : Nat} {c : Cell} : Grow ph h ph (h.set n c) := ⟨by rw [List.length_set]; exact Nat.le_refl _, fun _ _ => rfl⟩
end
/-! ### slots -/
/-- a slot that holds the exception of a suite: at a, its own dict at d, which is the cell n -/
structure PinD where
  i : Nat
  a : Addr
  d : Option Addr
  n : Option Nat
abbrev Pin := Option PinD
def Pin.holds (p : Pin) (ph : Nat → Addr) (len : Nat) (sg : L2.St) : Prop := ∀ q : PinD, p = some q → sg[q.i]? = some (some (.ref q.a)) ∧ q.d = q.n.map ph ∧ ∀ k, q.n = some k → k < len
def Pin.lets (p : Pin) (j : Nat) : Prop := ∀ q : PinD, p = some q → j ≠ q.i
theorem lets0 {j : Nat} : Pin.lets none j := fun _ e => nomatch e
theorem lets1 {q : PinD} {j : Nat} (h : j ≠ q.i) : Pin.lets (some q) j := fun _ e => by cases e; exact h
section
variable (K : PySem.W.Frag) (Ga : Nat → Addr) (pin : Pin)
structure SR (ph : Nat → Addr) (h : MH) (r : Mini.Env) (sg : L2.St) (H : Hp) : Prop where
  hr : HR K Ga ph h H
  len : sg.length = r.length
  val : ∀ (i : Nat) (w : Mini.W), r[i]? = some (some w) → sg[i]? = some (some (vW ph w)) ∧ wf h.length w
  pin : pin.holds ph h.length sg
end
section
variable {K : PySem.W.Frag} {Ga : Nat → Addr} {pin : Pin} {ph ph' : Nat → Addr} {h h' : MH} {r : Mini.Env} {sg : L2.St} {H H' : Hp}
theorem SR.grow (s : SR K Ga pin ph h r sg H) (g : Grow ph h ph' h') (R : HR K Ga ph' h' H') : SR K Ga pin ph' h' r sg H' :=
  ⟨R, s.len, fun i w e => ⟨by rw [g.v (s.val i w e).2]; exact (s.val i w e).1, (s.val i w e).2.mono g.le⟩, fun q e => by
    obtain ⟨z1, z2, z3⟩ := s.pin q e
    refine ⟨z1, ?_, fun k z => Nat.lt_of_lt_of_le (z3 k z) g.le⟩
    rw [z2]
    cases en : q.n with
    | none => rfl
    | some k => exact congrArg some (g.eq k (z3 k en)).symm⟩
theorem SR.put {j : Nat} {w : Mini.W} (s : SR K Ga pin ph h r sg H) (hw : wf h.length w) (hj : pin.lets j) : SR K Ga pin ph h (r.set j (some w)) (sg.set j (some (vW ph w))) H := by
  refine ⟨s.hr, by rw [List.length_set, List.length_set, s.len], fun i x e => ?_, fun q e => ?_⟩
  · by_cases hi : j = i
    · subst hi
      by_cases hl : j < r.length
      · rw [List.getElem?_set_self hl] at e
        cases e
        exact ⟨List.getElem?_set_self (by rw [s.len]; exact hl), hw⟩
      · rw [List.getElem?_eq_none (by rw [List.length_set]; omega)] at e
        cases e
    · rw [List.getElem?_set_ne hi] at e
      rw [List.getElem?_set_ne hi]
      exact s.val i x e
  · rw [List.getElem?_set_ne (hj q e)]
    exact s.pin q e
end
/-! ### the readings that Mini gives -/
section
variable (K : PySem.W.Frag) (Ga : Nat → Addr) (pin : Pin) (Wd : WX)
/-- a run's end is good: with its value what follows holds -/
def rd {α β : Type} (rel : (Nat → Addr) → Nat → α → β → Prop) (ph : Nat → Addr) (h : MH) (sg : L2.St) (q : Mini.R α) (Q : β → Hp → Prop) : Prop := match q with
  | .ok a h' => ∀ ph' H' b, Grow ph h ph' h' → HR K Ga ph' h' H' → rel ph' h'.length a b → Q b H'
  | .exc c d h' => ∀ ph' H', Grow ph h ph' h' → HR K Ga ph' h' H' → (∀ n, d = some n → n < h'.length) → Wd (.ref (Ga c)) (d.map ph') sg H'
  | .bad => False
def relW (ph : Nat → Addr) (n : Nat) (w : Mini.W) (v : V) : Prop := v = vW ph w ∧ wf n w
def relB (_ : Nat → Addr) (_ : Nat) (b c : Bool) : Prop := c = b
def relA (ph : Nat → Addr) (n : Nat) (ws : List Mini.W) (vs : List V) : Prop := vs = ws.map (vW ph) ∧ ∀ w ∈ ws, wf n w
def tE (m : Mini.E) : TE := fun sg H Q => ∃ ph h r, SR K Ga pin ph h r sg H ∧ rd K Ga Wd relW ph h sg (m r h) Q
def tT (m : Mini.T) : TT := fun sg H Q => ∃ ph h r, SR K Ga pin ph h r sg H ∧ rd K Ga Wd relB ph h sg (m r h) Q
def tA (m : Mini.A) : TA := fun sg H Q => ∃ ph h r, SR K Ga pin ph h r sg H ∧ rd K Ga Wd relA ph h sg (m r h) Q
def rdS (ph : Nat → Addr) (h : MH) (q : RS) (D : Ends) : Prop := match q with
  | .ok .nx r' h' => ∀ ph' sg' H', Grow ph h ph' h' → SR K Ga pin ph' h' r' sg' H' → D.nx sg' H'
  | .ok .bk r' h' => ∀ ph' sg' H', Grow ph h ph' h' → SR K Ga pin ph' h' r' sg' H' → D.bk sg' H'
  | .ok .ct r' h' => ∀ ph' sg' H', Grow ph h ph' h' → SR K Ga pin ph' h' r' sg' H' → D.ct sg' H'
  | .ok (.rt w) _ h' => ∀ ph' H', Grow ph h ph' h' → HR K Ga ph' h' H' → wf h'.length w → D.rt (vW ph' w) H'
  | .exc c d r' h' => ∀ ph' sg' H', Grow ph h ph' h' → SR K Ga pin ph' h' r' sg' H' → (∀ n, d = some n → n < h'.length) → Wd (.ref (Ga c)) (d.map ph') sg' H'
  | .bad => False
def tS (m : Mini.S) : TS := fun D sg H => ∃ ph h r, SR K Ga pin ph h r sg H ∧ rdS K Ga pin Wd ph h (m r h) D
end
section
variable {K : PySem.W.Frag} {Ga : Nat → Addr} {pin : Pin} {Wd : WX} {ph ph1 : Nat → Addr} {h h1 : MH} {r : Mini.Env} {sg : L2.St} {H H1 : Hp} {α β γ δ : Type}
theorem rd.base {rel : (Nat → Addr) → Nat → α → β → Prop} {q : Mini.R α} {Q : β → Hp → Prop} (g : Grow ph h ph1 h1) (x : rd K Ga Wd rel ph h sg q Q) : rd K Ga Wd rel ph1 h1 sg q Q := by
  cases q with
  | ok a h' => exact fun ph' H' b g' R rl => x ph' H' b (g.trans g') R rl
  | exc c d h' => exact fun ph' H' g' R z => x ph' H' (g.trans g') R z
  | bad => exact x
theorem rdS.base {q : RS} {D : Ends} (g : Grow ph h ph1 h1) (x : rdS K Ga pin Wd ph h q D) : rdS K Ga pin Wd ph1 h1 q D := by
  cases q with
  | ok f r' h' =>
    cases f with
    | nx => exact fun ph' sg' H' g' R => x ph' sg' H' (g.trans g') R
    | bk => exact fun ph' sg' H' g' R => x ph' sg' H' (g.trans g') R
    | ct => exact fun ph' sg' H' g' R => x ph' sg' H' (g.trans g') R
    | rt w => exact fun ph' H' g' R z => x ph' H' (g.trans g') R z
  | exc c d r' h' => exact fun ph' sg' H' g' R z => x ph' sg' H' (g.trans g') R z
  | bad => exact x
/-- one run behind the other -/
theorem rd.bind {rel : (Nat → Addr) → Nat → α → β → Prop} {rel' : (Nat → Addr) → Nat → γ → δ → Prop} {q : Mini.R α} {f : α → MH → Mini.R γ} {Q : δ → Hp → Prop} {Q1 : β → Hp → Prop}
    (x : rd K Ga Wd rel' ph h sg (q.bind f) Q)
    (k : ∀ a h1, q = .ok a h1 → ∀ ph1 H1 b, Grow ph h ph1 h1 → HR K Ga ph1 h1 H1 → rel ph1 h1.length a b → rd K Ga Wd rel' ph1 h1 sg (f a h1) Q → Q1 b H1) : rd K Ga Wd rel ph h sg q Q1 := by
  cases q with
  | ok a h' => exact fun ph' H' b g R rl => k a h' rfl ph' H' b g R rl (rd.base g x)
  | exc c d h' => exact x
  | bad => exact x
end
theorem PE.imp {X : Cx} {e : Expr} {t t' : TE} (p : PE X e t) (k : ∀ sg H Q, t' sg H Q → t sg H Q) : PE X e t' := ⟨fun pins s sg H Q I h => p.run pins s sg H Q I (k sg H Q h)⟩
theorem PT.imp {X : Cx} {e : Expr} {t t' : TT} (p : PT X e t) (k : ∀ sg H Q, t' sg H Q → t sg H Q) : PT X e t' := ⟨fun pins s sg H Q I h => p.run pins s sg H Q I (k sg H Q h)⟩
theorem PW.imp {X : Cx} {e : Expr} {t t' : TT} (p : PW X e t) (k : ∀ sg H Q, t' sg H Q → t sg H Q) : PW X e t' := ⟨fun wh pins s sg H Q I h => p.run wh pins s sg H Q I (k sg H Q h)⟩
theorem PA.imp {X : Cx} {es : List Expr} {t t' : TA} (p : PA X es t) (k : ∀ sg H Q, t' sg H Q → t sg H Q) : PA X es t' := ⟨fun pos pins s sg H Q I h => p.run pos pins s sg H Q I (k sg H Q h)⟩
theorem PS.imp {X : Cx} {st : Stmt} {t t' : TS} (p : PS X st t) (k : ∀ D sg H, t' D sg H → t D sg H) : PS X st t' := ⟨fun pins s sg H D I h => p.run pins s sg H D I (k D sg H h)⟩
theorem PSs.imp {X : Cx} {st : List Stmt} {t t' : TS} (p : PSs X st t) (k : ∀ D sg H, t' D sg H → t D sg H) : PSs X st t' := ⟨fun pins s sg H D I h => p.run pins s sg H D I (k D sg H h)⟩
end Br
set_option Elab.async false
set_option autoImplicit false
set_option linter.all false
set_option maxRecDepth 100000
set_option maxHeartbeats 1200000
/-! isinstance of an exception's object that has a dict of its own -/
namespace Br
open PySem PySem.Spec PyProof.Rows L2 Mini
/-- a value's type, of exceptions too -/
inductive TyE (K : PySem.W.Frag) (H : Hp) : V → Value → Prop where
  | base {x : V} {t : Value} (h : TyX K H x t) : TyE K H x t
  | exc {a C : Addr} {d : Option Addr} (e : H a = some (ExQ (.ref C) d a)) (c : ExcC K C) (hd : ∀ dd, d = some dd → ∃ fs, H dd = some (.xd fs)) : TyE K H (.ref a) (.ref C)
section
variable {X : Cx} {s : Shared} {H : Hp} {pins : List (Addr × Obj)} {σ : L2.St}
theorem kitE_of {x : V} {u t : Value} (I : Inv X pins σ H s) (rx : RelV x u) (ty : TyE X.K H x t) : ∃ P : Heap → Prop, PySem.W.KitX X.K u t P ∧ P s.heap ∧ u ≠ .builtin "__main__.__loader__#opaque" := by
  cases ty with
  | base b => exact kit_of I rx b
  | @exc a C d e c hd =>
    have eu : u = Value.ref a := rx
    subst eu
    obtain ⟨⟨oe, he, hz, vs, hv⟩, _, _⟩ := I.hok a _ e
    have known : (PySem.W.clsIn X.K C).isSome = true := by
      obtain ⟨q, hq, _⟩ := PySem.W.any_some c.hd
      rw [hq] <;> rfl
    have plain : PySem.W.notCls oe := by unfold PySem.W.notCls; rw [hv] <;> rfl
    have inst : ∃ od, PySem.W.InstAt s.heap a oe C od := by
      cases ed : d with
      | none => exact ⟨none, he, hz.1, plain, by rw [hz.2, ed] <;> trivial⟩
      | some dd =>
        obtain ⟨fs, ef⟩ := hd dd ed
        obtain ⟨mA, own, _⟩ : ObjOk X.prog X.w H s.heap dd (.xd fs) := I.hok dd _ ef
        obtain ⟨od, at_, _⟩ := lookIn_ns own
        exact ⟨some od, he, hz.1, plain, by rw [hz.2, ed]; exact at_⟩
    obtain ⟨od, J⟩ := inst
    exact ⟨_, PySem.W.kitx_exc (od := od) known c.hg c.hk c.hs c.ha c.hn c.ht c.hm, J, fun z => nomatch z⟩
def rIsiE (K : PySem.W.Frag) : List V → Hp → VK → Prop := fun xs H Q => ∃ (x c : V) (t u : Value) (b : Bool), xs = [x, c] ∧ ClsV c u ∧ TyE K H x t ∧ PySem.W.kitOne K t u = some b ∧ Q (.bl b) H
theorem call_isiE : CallR X (.builtin "isinstance") (rIsiE X.K) := by
  intro pins s sg H xs us Q I rv want
  obtain ⟨x, c, t, u, b, rfl, k, ty, e, q⟩ := want
  obtain ⟨u1, u2, rfl, r1, r2⟩ := vals2 rv
  obtain rfl := k.eq r2
  obtain ⟨P, Z, p, hx⟩ := kitE_of I r1 ty
  exact PySem.W.kia_one Z I.kIn p e hx fun tk => ⟨.bl b, H, I.tok (tk : _), rfl, q⟩
def rIsiTE (K : PySem.W.Frag) : List V → Hp → VK → Prop := fun xs H Q => ∃ (x : V) (tp : Addr) (cs : List V) (t : Value) (us : List Value) (b : Bool), xs = [x, .ref tp] ∧ H tp = some (.tup cs) ∧ Paired ClsV cs us ∧ TyE K H x t ∧ PySem.W.kitAny K t us = some b ∧ Q (.bl b) H
theorem call_isiTE : CallR X (.builtin "isinstance") (rIsiTE X.K) := by
  intro pins s sg H xs us Q I rv want
  obtain ⟨x, tp, cs, t, vs, b, rfl, hT, k, ty, e, q⟩ := want
  obtain ⟨u1, u2, rfl, r1, r2⟩ := vals2 rv
  obtain rfl : u2 = Value.ref tp := r2
  obtain ⟨P, Z, p, hx⟩ := kitE_of I r1 ty
  obtain ⟨_, its, rv, o, h1, h2, n, h3⟩ := (show ObjOk X.prog X.w H s.heap tp (.tup cs) by exact I.hok tp _ hT)
  obtain rfl := ClsV.all k rv
  obtain ⟨oc, od, dt, sl⟩ := o
  simp only at h2 h3
  subst h2 h3
  exact PySem.W.kia_tup Z I.kIn p h1 e hx fun tk => ⟨.bl b, H, I.tok (tk : _), rfl, q⟩
end
end Br
set_option Elab.async false
set_option autoImplicit false
set_option linter.all false
set_option maxRecDepth 100000
set_option maxHeartbeats 1100000
namespace Br
open PySem PySem.Spec PyProof.Rows L2 Mini
section
variable {X : Cx} {Ga : Nat → Addr} {pin : Pin} {Wd : WX} {ph : Nat → Addr} {h : MH} {r : Mini.Env} {sg : L2.St} {H : Hp} {a b c e : Expr} {es : List Expr} {pos : Pos} {ma mb mc m : Mini.E}
theorem rd_ok {K : PySem.W.Frag} {w : Mini.W} {Q : VK} (x : rd K Ga Wd relW ph h sg (.ok w h) Q) (R : HR K Ga ph h H) (hw : wf h.length w) : Q (vW ph w) H := x ph H _ (Grow.refl _ _) R ⟨rfl, hw⟩
theorem rd_okB {K : PySem.W.Frag} {b : Bool} {Q : Bool → Hp → Prop} (x : rd K Ga Wd relB ph h sg (.ok b h) Q) (R : HR K Ga ph h H) : Q b H := x ph H _ (Grow.refl _ _) R rfl
theorem rd_okA {K : PySem.W.Frag} {ws : List Mini.W} {Q : List V → Hp → Prop} (x : rd K Ga Wd relA ph h sg (.ok ws h) Q) (R : HR K Ga ph h H) (hw : ∀ w ∈ ws, wf h.length w) : Q (ws.map (vW ph)) H := x ph H _ (Grow.refl _ _) R ⟨rfl, hw⟩
/-- a new cell, laid at any free place -/
theorem rd_new {K : PySem.W.Frag} {cl : Cell} {Q : VK} {o : Addr → HO} (x : rd K Ga Wd relW ph h sg (.ok (.ref h.length) (h ++ [cl])) Q) (R : HR K Ga ph h H) {p : Addr} (hp : H p = none)
    (hc : CellAt K Ga (ext ph h.length p) (h.length + 1) (upd H p (o p)) p cl) : Q (.ref p) (upd H p (o p)) := by
  have q := x (ext ph h.length p) (upd H p (o p)) (.ref p) Grow.ext (R.push hp hc) ⟨by show V.ref p = V.ref (ext ph h.length p h.length); rw [ext_at], by show h.length < (h ++ [cl]).length; rw [List.length_append]; exact Nat.lt_succ_self _⟩
  exact q
theorem ext_vs {p : Addr} {xs : List Mini.W} (q : ∀ x ∈ xs, wf h.length x) : xs.map (vW (ext ph h.length p)) = xs.map (vW ph) := (Grow.ext (c := .lst [])).vs q
theorem wf_up {xs : List Mini.W} (q : ∀ x ∈ xs, wf h.length x) : ∀ x ∈ xs, wf (h.length + 1) x := fun x hx => (q x hx).mono (Nat.le_succ _)
theorem at_lst {K : PySem.W.Frag} {p : Addr} {xs : List Mini.W} (q : ∀ x ∈ xs, wf h.length x) : CellAt K Ga (ext ph h.length p) (h.length + 1) (upd H p (.lst (xs.map (vW ph)))) p (.lst xs) := ⟨by rw [ext_vs q]; exact upd_same, wf_up q⟩
theorem at_tup {K : PySem.W.Frag} {p : Addr} {xs : List Mini.W} (q : ∀ x ∈ xs, wf h.length x) : CellAt K Ga (ext ph h.length p) (h.length + 1) (upd H p (.tup (xs.map (vW ph)))) p (.tup xs) := ⟨by rw [ext_vs q]; exact upd_same, wf_up q⟩
/-! ### leaves -/
theorem e_var {i : Nat} {x : Str} (hN : X.N[i]? = some x) (hv : Vis X.env.scope x) (hd : (x == ("__debug__" : Str)) = false := by decide) (hcd : (x == ("__classdict__" : Str)) = false := by decide) : PE X (.Name x pos) (tE X.K Ga pin Wd (eVar i)) := by
  refine PE.imp (pe_var hN hv hd hcd) fun sg H Q ⟨ph, h, r, s, x⟩ => ?_
  unfold eVar at x
  cases e : r[i]? with
  | none => rw [e] at x; exact x.elim
  | some o =>
    cases o with
    | none => rw [e] at x; exact x.elim
    | some w =>
      rw [e] at x
      obtain ⟨h1, h2⟩ := s.val i w e
      exact ⟨_, h1, rd_ok x s.hr h2⟩
theorem e_c {v : V} {w : Mini.W} (p : PE X e (tC v)) (hv : ∀ ph, vW ph w = v) (hw : ∀ n, wf n w) : PE X e (tE X.K Ga pin Wd (eC w)) := by
  refine PE.imp p fun sg H Q ⟨ph, h, r, s, x⟩ => ?_
  have q := rd_ok x s.hr (hw _)
  rw [hv] at q
  exact q
theorem e_int {i : Int} {j : Nat} : PE X (.Constant (.int i) j pos) (tE X.K Ga pin Wd (eC (.int i))) := e_c pe_int (fun _ => rfl) fun _ => trivial
theorem e_bl {i : Bool} {j : Nat} : PE X (.Constant (.bool i) j pos) (tE X.K Ga pin Wd (eC (.bl i))) := e_c pe_bl (fun _ => rfl) fun _ => trivial
theorem e_non {j : Nat} : PE X (.Constant .none j pos) (tE X.K Ga pin Wd (eC .non)) := e_c pe_non (fun _ => rfl) fun _ => trivial
theorem e_str {x : Str} {j : Nat} : PE X (.Constant (.str x) j pos) (tE X.K Ga pin Wd (eC (.str x))) := e_c pe_str (fun _ => rfl) fun _ => trivial
/-- a module's int -/
theorem e_gint {x : Str} {i : Int} {t : Tok} (hg : Gl X x) (hm : X.mg x = some (.int i t)) (hd : (x == ("__debug__" : Str)) = false := by decide) : PE X (.Name x pos) (tE X.K Ga pin Wd (eC (.int i))) :=
  e_c (pe_glob (v := .int i) hg hm ⟨t, rfl⟩ hd) (fun _ => rfl) fun _ => trivial
/-! ### operators -/
def BinS (X : Cx) (Ga : Nat → Addr) (g : Mini.W → Mini.W → MH → Mini.R Mini.W) (r : R2) : Prop :=
  ∀ (Wd : WX) (ph : Nat → Addr) (h : MH) (H : Hp) (sg : L2.St) (x y : Mini.W) (Q : VK), HR X.K Ga ph h H → wf h.length x → wf h.length y → rd X.K Ga Wd relW ph h sg (g x y h) Q → r (vW ph x) (vW ph y) H Q
theorem two_of {g : Mini.W → Mini.W → MH → Mini.R Mini.W} {Q : VK} {R : V → V → Hp → Prop} (x : tE X.K Ga pin Wd (eBin g ma mb) sg H Q)
    (k : ∀ (ph : Nat → Addr) (h : MH) (H : Hp) (x y : Mini.W), HR X.K Ga ph h H → wf h.length x → wf h.length y → rd X.K Ga Wd relW ph h sg (g x y h) Q → R (vW ph x) (vW ph y) H) :
    tE X.K Ga pin Wd ma sg H fun x H1 => tE X.K Ga pin Wd mb sg H1 fun y H2 => R x y H2 := by
  obtain ⟨ph, h, r, s, x⟩ := x
  refine ⟨ph, h, r, s, x.bind fun u h1 e1 ph1 H1 b1 g1 R1 ⟨eb1, w1⟩ x1 => ?_⟩
  refine ⟨ph1, h1, r, s.grow g1 R1, x1.bind fun v h2 e2 ph2 H2 b2 g2 R2 ⟨eb2, w2⟩ x2 => ?_⟩
  rw [eb1, eb2, ← g2.v w1]
  exact k ph2 h2 H2 u v R2 (w1.mono g2.le) w2 x2
theorem e_bin {op : Operator} {g : Mini.W → Mini.W → MH → Mini.R Mini.W} {r : R2} (ho : OpR X (binaryOp op) r) (hg : BinS X Ga g r) (ha : PE X a (tE X.K Ga pin Wd ma)) (hb : PE X b (tE X.K Ga pin Wd mb)) :
    PE X (.BinOp a op b pos) (tE X.K Ga pin Wd (eBin g ma mb)) :=
  PE.imp (pe_op ho ha hb) fun sg H Q x => two_of x fun ph h H u v R w1 w2 x2 => hg Wd ph h H sg u v Q R w1 w2 x2
theorem e_cmp {op : CmpOp} {g : Mini.W → Mini.W → MH → Mini.R Mini.W} {r : R2} (ho : OpR X (compareOp op) r) (hg : BinS X Ga g r) (ha : PE X a (tE X.K Ga pin Wd ma)) (hb : PE X b (tE X.K Ga pin Wd mb)) (hm : behindInMarks op b = false) :
    PE X (.Compare a [op] [b] pos) (tE X.K Ga pin Wd (eBin g ma mb)) :=
  PE.imp (pe_cmpR ho ha hb hm) fun sg H Q x => two_of x fun ph h H u v R w1 w2 x2 => hg Wd ph h H sg u v Q R w1 w2 x2
theorem e_ix {g : Mini.W → Mini.W → MH → Mini.R Mini.W} {r : R2} (ho : IxR X r) (hg : BinS X Ga g r) (ha : PE X a (tE X.K Ga pin Wd ma)) (hb : PE X b (tE X.K Ga pin Wd mb)) (hs : PlainIx b) :
    PE X (.Subscript a b pos) (tE X.K Ga pin Wd (eBin g ma mb)) :=
  PE.imp (pe_ix ho ha hb hs) fun sg H Q x => two_of x fun ph h H u v R w1 w2 x2 => hg Wd ph h H sg u v Q R w1 w2 x2
theorem s_intOp {f : Int → Int → Int} : BinS X Ga (intOp f) (rI0 fun i j => .int (f i j)) := by
  intro Wd ph h H sg x y Q R w1 w2 q
  cases x with
  | int i => cases y with
    | int j => exact ⟨i, j, rfl, rfl, rd_ok q R trivial⟩
    | _ => exact q.elim
  | _ => exact q.elim
theorem s_intOpC {cc : Int → Int → Bool} {C : Int → Int → Prop} {f : Int → Int → Int} (hC : ∀ i j, cc i j = true → C i j) : BinS X Ga (intOpC cc f) (rI C fun i j => .int (f i j)) := by
  intro Wd ph h H sg x y Q R w1 w2 q
  cases x with
  | int i => cases y with
    | int j =>
      unfold intOpC at q
      by_cases e : cc i j = true
      · simp only [if_pos e] at q
        exact ⟨i, j, rfl, rfl, hC i j e, rd_ok q R trivial⟩
      · simp only [if_neg e] at q
        exact q.elim
    | _ => exact q.elim
  | _ => exact q.elim
theorem s_intCmp {f : Int → Int → Bool} : BinS X Ga (intCmp f) (rI0 fun i j => .bl (f i j)) := by
  intro Wd ph h H sg x y Q R w1 w2 q
  cases x with
  | int i => cases y with
    | int j => exact ⟨i, j, rfl, rfl, rd_ok q R trivial⟩
    | _ => exact q.elim
  | _ => exact q.elim
theorem two64_eq : two64 = 2 ^ 64 := by decide
def CMulA (i j : Int) : Prop := CMul i j ∨ CMulW i j
theorem op_mulA : OpR X (binaryOp .Mult) (rI CMulA fun i j => .int (i * j)) := by
  intro pins s sg H x y v u Q I rx ry q
  obtain ⟨i, j, e1, e2, z | z, q⟩ := q
  · exact op_mul pins s sg H x y v u Q I rx ry ⟨i, j, e1, e2, z, q⟩
  · exact op_mulW pins s sg H x y v u Q I rx ry ⟨i, j, e1, e2, z, q⟩
theorem mulOk_ok {i j : Int} (q : mulOk i j = true) : CMulA i j := by
  unfold mulOk at q
  rw [Bool.or_eq_true, Bool.or_eq_true, decide_eq_true_eq, decide_eq_true_eq, decide_eq_true_eq, two64_eq] at q
  rcases q with (q | q) | q
  · exact .inl (.inl (by omega))
  · exact .inl (.inr (by omega))
  · exact .inr q
theorem e_sub (ha : PE X a (tE X.K Ga pin Wd ma)) (hb : PE X b (tE X.K Ga pin Wd mb)) : PE X (.BinOp a .Sub b pos) (tE X.K Ga pin Wd (eBin gSub ma mb)) := e_bin op_sub s_intOp ha hb
theorem e_mul (ha : PE X a (tE X.K Ga pin Wd ma)) (hb : PE X b (tE X.K Ga pin Wd mb)) : PE X (.BinOp a .Mult b pos) (tE X.K Ga pin Wd (eBin gMul ma mb)) := e_bin op_mulA (s_intOpC fun _ _ => mulOk_ok) ha hb
theorem e_div (ha : PE X a (tE X.K Ga pin Wd ma)) (hb : PE X b (tE X.K Ga pin Wd mb)) : PE X (.BinOp a .FloorDiv b pos) (tE X.K Ga pin Wd (eBin gDiv ma mb)) := e_bin op_fdivW (s_intOpC fun _ _ q => by
  unfold divOk at q; rw [Bool.and_eq_true, decide_eq_true_eq, decide_eq_true_eq] at q; exact q) ha hb
theorem e_mod (ha : PE X a (tE X.K Ga pin Wd ma)) (hb : PE X b (tE X.K Ga pin Wd mb)) : PE X (.BinOp a .Mod b pos) (tE X.K Ga pin Wd (eBin gMod ma mb)) := e_bin op_mod (s_intOpC fun _ _ q => by
  unfold modOk at q; rw [decide_eq_true_eq] at q; exact q) ha hb
theorem e_pow (ha : PE X a (tE X.K Ga pin Wd ma)) (hb : PE X b (tE X.K Ga pin Wd mb)) : PE X (.BinOp a .Pow b pos) (tE X.K Ga pin Wd (eBin gPow ma mb)) := e_bin op_pow (s_intOpC fun _ _ q => by
  unfold powOk at q; rw [Bool.and_eq_true, Bool.and_eq_true, decide_eq_true_eq, decide_eq_true_eq, decide_eq_true_eq, two64_eq] at q; exact ⟨q.1.1, q.1.2, q.2⟩) ha hb
/-- + -/
def rAddA : R2 := fun x y H Q => (∃ i j, x = .int i ∧ y = .int j ∧ Q (.int (i + j)) H) ∨ ((∃ i j, x = .str i ∧ y = .str j ∧ i.length + j.length ≤ sizeLine ∧ Q (.str (i ++ j)) H) ∨ rCat x y H Q)
theorem op_addA : OpR X (binaryOp .Add) rAddA := OpR.or op_add (OpR.or op_add_str op_cat)
theorem m_line {n : Nat} (q : n ≤ 10000000) : n ≤ sizeLine := Nat.le_trans q (by rw [sizeLine_eq]; decide)
theorem m_line1 {n : Nat} (q : n < 10000000) : n < sizeLine := Nat.lt_of_lt_of_le q (by rw [sizeLine_eq]; decide)
theorem m_line6 {n : Nat} (q : n ≤ 1000000) : n ≤ sizeLine := m_line (Nat.le_trans q (by decide))
theorem s_add : BinS X Ga gAdd rAddA := by
  intro Wd ph h H sg x y Q R w1 w2 q
  cases x with
  | int i => cases y with
    | int j => exact .inl ⟨i, j, rfl, rfl, rd_ok q R trivial⟩
    | _ => exact q.elim
  | str s => cases y with
    | str t =>
      simp only [gAdd] at q
      by_cases e : s.length + t.length ≤ 1000000
      · rw [if_pos e] at q
        exact .inr (.inl ⟨s, t, rfl, rfl, m_line6 e, rd_ok q R trivial⟩)
      · rw [if_neg e] at q
        exact q.elim
    | _ => exact q.elim
  | ref n => cases y with
    | ref m =>
      simp only [gAdd] at q
      cases e1 : h[n]? with
      | none => rw [e1] at q; exact q.elim
      | some c1 =>
        cases c1 with
        | lst xs =>
          cases e2 : h[m]? with
          | none => rw [e1, e2] at q; exact q.elim
          | some c2 =>
            cases c2 with
            | lst ys =>
              rw [e1, e2] at q
              simp only [] at q
              by_cases e : xs.length + ys.length ≤ 10000000
              · rw [if_pos e] at q
                obtain ⟨a1, z1⟩ := R.cells n _ e1
                obtain ⟨a2, z2⟩ := R.cells m _ e2
                have z : ∀ x ∈ xs ++ ys, wf h.length x := fun x hx => by
                  rcases (List.mem_append.mp hx : _ ∨ _) with hx | hx
                  · exact z1 x hx
                  · exact z2 x hx
                refine .inr (.inr ⟨ph n, ph m, xs.map (vW ph), ys.map (vW ph), rfl, rfl, a1, a2, by rw [List.length_map, List.length_map]; exact m_line e, fun p hp => ?_⟩)
                have q2 := rd_new (o := fun _ => .lst ((xs ++ ys).map (vW ph))) q R hp (at_lst z)
                rw [← List.map_append]
                exact q2
              · rw [if_neg e] at q
                exact q.elim
            | _ => rw [e1, e2] at q; exact q.elim
        | _ => rw [e1] at q; exact q.elim
    | _ => exact q.elim
  | _ => exact q.elim
theorem e_add (ha : PE X a (tE X.K Ga pin Wd ma)) (hb : PE X b (tE X.K Ga pin Wd mb)) : PE X (.BinOp a .Add b pos) (tE X.K Ga pin Wd (eBin gAdd ma mb)) := e_bin op_addA s_add ha hb
theorem e_lt (ha : PE X a (tE X.K Ga pin Wd ma)) (hb : PE X b (tE X.K Ga pin Wd mb)) : PE X (.Compare a [.Lt] [b] pos) (tE X.K Ga pin Wd (eBin gLt ma mb)) := e_cmp op_lt s_intCmp ha hb (nomark _)
theorem e_le (ha : PE X a (tE X.K Ga pin Wd ma)) (hb : PE X b (tE X.K Ga pin Wd mb)) : PE X (.Compare a [.LtE] [b] pos) (tE X.K Ga pin Wd (eBin gLe ma mb)) := e_cmp op_le s_intCmp ha hb (nomark _)
theorem e_gt (ha : PE X a (tE X.K Ga pin Wd ma)) (hb : PE X b (tE X.K Ga pin Wd mb)) : PE X (.Compare a [.Gt] [b] pos) (tE X.K Ga pin Wd (eBin gGt ma mb)) := e_cmp op_gt s_intCmp ha hb (nomark _)
theorem e_ge (ha : PE X a (tE X.K Ga pin Wd ma)) (hb : PE X b (tE X.K Ga pin Wd mb)) : PE X (.Compare a [.GtE] [b] pos) (tE X.K Ga pin Wd (eBin gGe ma mb)) := e_cmp op_ge s_intCmp ha hb (nomark _)
/-! ### == -/
theorem scl_scal {ph : Nat → Addr} {x y : Mini.W} (e : scl x y = true) : scal (vW ph x) (vW ph y) = true := by
  cases x <;> cases y <;> first | rfl | exact e
theorem scl_inj {ph : Nat → Addr} {x y : Mini.W} (e : scl x y = true) : decide (vW ph x = vW ph y) = decide (x = y) := by
  cases x with
  | bl a => cases y with
    | bl b => simp [vW]
    | _ => first | rfl | exact nomatch e
  | int a => cases y with
    | int b => simp [vW]
    | _ => first | rfl | exact nomatch e
  | str a => cases y with
    | str b => simp [vW]
    | _ => first | rfl | exact nomatch e
  | non => cases y with
    | ref _ => exact nomatch e
    | _ => rfl
  | ref a => cases y <;> exact nomatch e
theorem seqAt_ok {K : PySem.W.Frag} {n : Nat} {xs : List Mini.W} (R : HR K Ga ph h H) (e : seqAt h n = some xs) : (SqL K H (ph n) (xs.map (vW ph)) ∨ SqT K H (ph n) (xs.map (vW ph))) ∧ ∀ x ∈ xs, wf h.length x := by
  unfold seqAt at e
  cases e1 : h[n]? with
  | none => rw [e1] at e; cases e
  | some c =>
    have q := R.cells n c e1
    cases c with
    | lst ys => rw [e1] at e; cases e; exact ⟨.inl (.inl (.inl q.1)), q.2⟩
    | tup ys => rw [e1] at e; cases e; exact ⟨.inr (.inl (.inl q.1)), q.2⟩
    | fz ys => rw [e1] at e; cases e; obtain ⟨⟨o, q1⟩, q2⟩ := q; exact ⟨.inl (.inl (.inr ⟨o, q1⟩)), q2⟩
    | cl ys => rw [e1] at e; cases e; exact ⟨.inl (.inr q.1), q.2⟩
    | ct ys => rw [e1] at e; cases e; exact ⟨.inr (.inr q.1), q.2⟩
    | _ => rw [e1] at e; cases e
theorem dataAll_ok {K : PySem.W.Frag} {f : Mini.W → Option PyData} (hf : ∀ x d, wf h.length x → f x = some d → Dp K H (vW ph x) d) : ∀ {xs : List Mini.W} {ds : List PyData}, (∀ x ∈ xs, wf h.length x) → dataAll f xs = some ds → DpAll K H (xs.map (vW ph)) ds
  | [], ds, _, e => by cases e; exact .nil
  | x :: xs, ds, z, e => by
    simp only [dataAll] at e
    cases e1 : f x with
    | none => rw [e1] at e; cases e
    | some d =>
      cases e2 : dataAll f xs with
      | none => rw [e1, e2] at e; cases e
      | some ds' =>
        rw [e1, e2] at e
        cases e
        exact .cons (hf x d (z x List.mem_cons_self) e1) (dataAll_ok hf (fun y hy => z y (List.mem_cons_of_mem _ hy)) e2)
theorem dataOf_ok {K : PySem.W.Frag} (R : HR K Ga ph h H) : ∀ (n : Nat) (x : Mini.W) (d : PyData), wf h.length x → Mini.dataOf h n x = some d → Dp K H (vW ph x) d
  | 0, x, d, _, e => by cases e
  | n + 1, x, d, z, e => by
    simp only [Mini.dataOf] at e
    cases x with
    | non => cases e; exact .non
    | bl b => cases e; exact .bl b
    | int i => cases e; exact .int i
    | str s => cases e; exact .str s
    | ref k =>
      simp only [] at e
      have ih := dataOf_ok R n
      have go : ∀ {xs : List Mini.W} {f : List PyData → PyData}, (dataAll (Mini.dataOf h n) xs).map f = some d → (∀ x ∈ xs, wf h.length x) → ∃ ds, d = f ds ∧ DpAll K H (xs.map (vW ph)) ds := fun {xs f} e z => by
        cases e1 : dataAll (Mini.dataOf h n) xs with
        | none => rw [e1] at e; cases e
        | some ds => rw [e1] at e; cases e; exact ⟨ds, rfl, dataAll_ok (fun x d => ih x d) z e1⟩
      cases e1 : h[k]? with
      | none => rw [e1] at e; cases e
      | some c =>
        have q := R.cells k c e1
        cases c with
        | lst ys => rw [e1] at e; obtain ⟨ds, rfl, z2⟩ := go e q.2; exact .lst (.inl (.inl q.1)) z2
        | fz ys => rw [e1] at e; obtain ⟨ds, rfl, z2⟩ := go e q.2; obtain ⟨⟨o, q1⟩, q2⟩ := q; exact .lst (.inl (.inr ⟨o, q1⟩)) z2
        | cl ys => rw [e1] at e; obtain ⟨ds, rfl, z2⟩ := go e q.2; exact .lst (.inr q.1) z2
        | tup ys => rw [e1] at e; obtain ⟨ds, rfl, z2⟩ := go e q.2; exact .tup (.inl (.inl q.1)) z2
        | ct ys => rw [e1] at e; obtain ⟨ds, rfl, z2⟩ := go e q.2; exact .tup (.inr q.1) z2
        | _ => rw [e1] at e; cases e
def rEqA (K : PySem.W.Frag) : R2 := fun x y H Q => rEq x y H Q ∨ rEqD K x y H Q
def rNeA (K : PySem.W.Frag) : R2 := fun x y H Q => rNe x y H Q ∨ rNeD K x y H Q
theorem eqB_ok {K : PySem.W.Frag} {x y : Mini.W} {k : Bool} (R : HR K Ga ph h H) (w1 : wf h.length x) (w2 : wf h.length y) (e : eqB x y h = some k) :
    (scal (vW ph x) (vW ph y) = true ∧ decide (vW ph x = vW ph y) = k) ∨ ∃ d f, Dp K H (vW ph x) d ∧ Dp K H (vW ph y) f ∧ SeqAt.shaped d = true ∧ SeqAt.shaped f = true ∧ PyData.eqv d f = k := by
  unfold eqB at e
  by_cases c : scl x y = true
  · rw [if_pos c] at e
    cases e
    exact .inl ⟨scl_scal c, scl_inj c⟩
  · rw [if_neg c] at e
    cases e1 : Mini.dataOf h dep x with
    | none => rw [e1] at e; cases e
    | some d =>
      cases e2 : Mini.dataOf h dep y with
      | none => rw [e1, e2] at e; cases e
      | some f =>
        rw [e1, e2] at e
        simp only [] at e
        by_cases c2 : SeqAt.shaped d = true ∧ SeqAt.shaped f = true
        · rw [if_pos c2] at e
          cases e
          exact .inr ⟨d, f, dataOf_ok R _ _ _ w1 e1, dataOf_ok R _ _ _ w2 e2, c2.1, c2.2, rfl⟩
        · rw [if_neg c2] at e
          cases e
theorem s_eq : BinS X Ga gEq (rEqA X.K) := by
  intro Wd ph h H sg x y Q R w1 w2 q
  unfold gEq at q
  cases e : eqB x y h with
  | none => rw [e] at q; exact q.elim
  | some k =>
    rw [e] at q
    have q' : Q (.bl k) H := rd_ok q R trivial
    rcases eqB_ok R w1 w2 e with ⟨z1, z2⟩ | ⟨d, f, z1, z2, z3, z4, z5⟩
    · exact .inl ⟨z1, by rw [z2]; exact q'⟩
    · exact .inr ⟨d, f, z1, z2, z3, z4, by rw [z5]; exact q'⟩
theorem s_ne : BinS X Ga gNe (rNeA X.K) := by
  intro Wd ph h H sg x y Q R w1 w2 q
  unfold gNe at q
  cases e : eqB x y h with
  | none => rw [e] at q; exact q.elim
  | some k =>
    rw [e] at q
    have q' : Q (.bl (!k)) H := rd_ok q R trivial
    rcases eqB_ok R w1 w2 e with ⟨z1, z2⟩ | ⟨d, f, z1, z2, z3, z4, z5⟩
    · exact .inl ⟨z1, by rw [z2]; exact q'⟩
    · exact .inr ⟨d, f, z1, z2, z3, z4, by rw [z5]; exact q'⟩
theorem e_eq (hu : X.A.units + 64 < cLine) (ha : PE X a (tE X.K Ga pin Wd ma)) (hb : PE X b (tE X.K Ga pin Wd mb)) : PE X (.Compare a [.Eq] [b] pos) (tE X.K Ga pin Wd (eBin gEq ma mb)) := e_cmp (OpR.or op_eq (op_eqD hu)) s_eq ha hb (nomark _)
theorem e_ne (hu : X.A.units + 64 < cLine) (ha : PE X a (tE X.K Ga pin Wd ma)) (hb : PE X b (tE X.K Ga pin Wd mb)) : PE X (.Compare a [.NotEq] [b] pos) (tE X.K Ga pin Wd (eBin gNe ma mb)) := e_cmp (OpR.or op_ne (op_neD hu)) s_ne ha hb (nomark _)
theorem vW_non {ph : Nat → Addr} {x : Mini.W} : decide (vW ph x = .non) = decide (x = .non) := by cases x <;> simp [vW]
theorem s_isN : BinS X Ga gIsN (fun x y H Q => y = .non ∧ Q (.bl (decide (x = .non))) H) := by
  intro Wd ph h H sg x y Q R w1 w2 q
  cases y with
  | non =>
    refine ⟨rfl, ?_⟩
    rw [vW_non]
    exact rd_ok (w := .bl (decide (x = .non))) q R trivial
  | _ => exact q.elim
theorem s_notN : BinS X Ga gNotN (fun x y H Q => y = .non ∧ Q (.bl (!decide (x = .non))) H) := by
  intro Wd ph h H sg x y Q R w1 w2 q
  cases y with
  | non =>
    refine ⟨rfl, ?_⟩
    rw [vW_non]
    exact rd_ok (w := .bl (!decide (x = .non))) q R trivial
  | _ => exact q.elim
theorem e_isN (ha : PE X a (tE X.K Ga pin Wd ma)) (hb : PE X b (tE X.K Ga pin Wd mb)) : PE X (.Compare a [.Is] [b] pos) (tE X.K Ga pin Wd (eBin gIsN ma mb)) := e_cmp op_isN s_isN ha hb (nomark _)
theorem e_notN (ha : PE X a (tE X.K Ga pin Wd ma)) (hb : PE X b (tE X.K Ga pin Wd mb)) : PE X (.Compare a [.IsNot] [b] pos) (tE X.K Ga pin Wd (eBin gNotN ma mb)) := e_cmp op_notN s_notN ha hb (nomark _)
/-! ### subscripts -/
theorem ixOf_eq {n : Nat} {i : Int} : ixOf n i = ixN n i := rfl
theorem s_ix : BinS X Ga gIx (rIx X.K) := by
  intro Wd ph h H sg x y Q R w1 w2 q
  cases x with
  | ref n => cases y with
    | int i =>
      simp only [gIx] at q
      cases e1 : seqAt h n with
      | none => rw [e1] at q; exact q.elim
      | some xs =>
        rw [e1] at q
        simp only [] at q
        obtain ⟨z, zw⟩ := seqAt_ok R e1
        cases e2 : (ixOf xs.length i).bind fun j => xs[j]? with
        | none => rw [e2] at q; exact q.elim
        | some w =>
          rw [e2] at q
          simp only [] at q
          have ha : atI (xs.map (vW ph)) i = some (vW ph w) := by
            unfold atI
            rw [List.length_map, ← ixOf_eq]
            cases e3 : ixOf xs.length i with
            | none => rw [e3] at e2; cases e2
            | some j =>
              rw [e3] at e2
              have e2' : xs[j]? = some w := e2
              show (xs.map (vW ph))[j]? = _
              rw [List.getElem?_map, e2'] <;> rfl
          have hw : wf h.length w := by
            cases e3 : ixOf xs.length i with
            | none => rw [e3] at e2; cases e2
            | some j =>
              rw [e3] at e2
              exact zw w (List.mem_of_getElem? (show xs[j]? = some w from e2))
          have q' := rd_ok q R hw
          rcases z with z | z
          · exact .inl ⟨ph n, _, i, _, rfl, rfl, z, ha, q'⟩
          · exact .inr (.inl ⟨ph n, _, i, _, rfl, rfl, z, ha, q'⟩)
    | _ => exact q.elim
  | _ => exact q.elim
theorem e_sub_ (ha : PE X a (tE X.K Ga pin Wd ma)) (hb : PE X b (tE X.K Ga pin Wd mb)) (hs : PlainIx b) : PE X (.Subscript a b pos) (tE X.K Ga pin Wd (eBin gIx ma mb)) := e_ix ix_seq s_ix ha hb hs
/-! ### one-place -/
theorem e_un {op : UnaryOp} {g : Mini.W → MH → Mini.R Mini.W} {r : V → Hp → VK → Prop} (ho : UnR X (unaryOp op) r)
    (hg : ∀ (ph : Nat → Addr) (h : MH) (H : Hp) (sg : L2.St) (x : Mini.W) (Q : VK), HR X.K Ga ph h H → wf h.length x → rd X.K Ga Wd relW ph h sg (g x h) Q → r (vW ph x) H Q) (ha : PE X a (tE X.K Ga pin Wd ma)) :
    PE X (.UnaryOp op a pos) (tE X.K Ga pin Wd (eUn g ma)) :=
  PE.imp (pe_un ho ha) fun sg H Q ⟨ph, h, r, s, x⟩ => ⟨ph, h, r, s, x.bind fun u h1 _ ph1 H1 b1 g1 R1 ⟨eb1, w1⟩ x1 => by
    rw [eb1]
    exact hg ph1 h1 H1 sg u Q R1 w1 x1⟩
theorem e_neg (ha : PE X a (tE X.K Ga pin Wd ma)) : PE X (.UnaryOp .USub a pos) (tE X.K Ga pin Wd (eUn gNeg ma)) := e_un un_neg (fun ph h H sg x Q R w q => by
  cases x with
  | int i => exact ⟨i, rfl, rd_ok q R trivial⟩
  | _ => exact q.elim) ha
/-! ### arguments, displays -/
theorem a_nil : PA X [] (tA X.K Ga pin Wd aNil) := PA.imp pa_nil fun sg H Q ⟨ph, h, r, s, x⟩ => rd_okA (ws := []) x s.hr (fun _ hx => nomatch hx)
theorem a_cons {me : Mini.E} {ms : Mini.A} (he : PE X e (tE X.K Ga pin Wd me)) (hr : PA X es (tA X.K Ga pin Wd ms)) (hs : starEach (e :: es) X.env = (false, eval e X.env) :: starEach es X.env := by rfl) : PA X (e :: es) (tA X.K Ga pin Wd (aCons me ms)) := by
  refine PA.imp (pa_cons he hr hs) fun sg H Q ⟨ph, h, r, s, x⟩ => ?_
  refine ⟨ph, h, r, s, x.bind fun u h1 _ ph1 H1 b1 g1 R1 ⟨eb1, w1⟩ x1 => ?_⟩
  refine ⟨ph1, h1, r, s.grow g1 R1, x1.bind fun us h2 _ ph2 H2 b2 g2 R2 ⟨eb2, w2⟩ x2 => ?_⟩
  rw [eb1, eb2, ← g2.v w1]
  refine rd_okA (ws := u :: us) x2 R2 fun w hw => ?_
  rcases List.mem_cons.mp hw with hw | hw
  · rw [hw]; exact w1.mono g2.le
  · exact w2 w hw
theorem m_line3 {n : Nat} (q : n ≤ 1000) : n ≤ sizeLine := m_line6 (Nat.le_trans q (by decide))
theorem e_tup {x1 : Nat} {ms : Mini.A} (hes : PA X es (tA X.K Ga pin Wd ms)) : PE X (.Tuple es x1 pos) (tE X.K Ga pin Wd (eTup ms)) := by
  refine PE.imp (pe_tup hes) fun sg H Q ⟨ph, h, r, s, x⟩ => ?_
  refine ⟨ph, h, r, s, x.bind fun us h1 _ ph1 H1 b1 g1 R1 ⟨eb1, w1⟩ x1 => ?_⟩
  by_cases c : us.length ≤ 1000
  · rw [if_pos c] at x1
    rw [eb1]
    exact ⟨by rw [List.length_map]; exact m_line3 c, fun p hp => rd_new (o := fun _ => .tup (us.map (vW ph1))) x1 R1 hp (at_tup w1)⟩
  · rw [if_neg c] at x1
    exact x1.elim
theorem e_lst {ms : Mini.A} (hes : PA X es (tA X.K Ga pin Wd ms)) : PE X (.List es pos) (tE X.K Ga pin Wd (eLst ms)) := by
  refine PE.imp (pe_lst hes) fun sg H Q ⟨ph, h, r, s, x⟩ => ?_
  refine ⟨ph, h, r, s, x.bind fun us h1 _ ph1 H1 b1 g1 R1 ⟨eb1, w1⟩ x1 => ?_⟩
  by_cases c : us.length ≤ 1000
  · rw [if_pos c] at x1
    rw [eb1]
    exact ⟨by rw [List.length_map]; exact m_line3 c, fun p hp => rd_new (o := fun _ => .lst (us.map (vW ph1))) x1 R1 hp (at_lst w1)⟩
  · rw [if_neg c] at x1
    exact x1.elim
theorem e_dic0 : PE X (.Dict [] [] pos) (tE X.K Ga pin Wd eDic0) := PE.imp pe_dnewK fun sg H Q ⟨ph, h, r, s, x⟩ p hp =>
  rd_new (o := fun _ => .dK []) x s.hr hp ⟨upd_same, fun _ hx => nomatch hx⟩
end
end Br
set_option Elab.async false
set_option autoImplicit false
set_option linter.all false
set_option maxRecDepth 100000
set_option maxHeartbeats 1100000
namespace Br
open PySem PySem.Spec PyProof.Rows L2 Mini
section
variable {X : Cx} {Ga : Nat → Addr} {pin : Pin} {Wd : WX} {ph : Nat → Addr} {h : MH} {r : Mini.Env} {sg : L2.St} {H : Hp} {a b c e : Expr} {es rest : List Expr} {pos : Pos} {ma mb mc m : Mini.E} {ta tb : Mini.T} {ms : Mini.A}
/-! ### tests -/
theorem isEmptyV {xs : List Mini.W} : (xs.map (vW ph)).isEmpty = xs.isEmpty := by cases xs <;> rfl
theorem isEmptyK {xs : List (Sum Int Str × Mini.W)} : (kvV ph xs).isEmpty = xs.isEmpty := by cases xs <;> rfl
theorem tru_is {K : PySem.W.Frag} {w : Mini.W} {k : Bool} (R : HR K Ga ph h H) (e : tru w h = some k) : TruV K (vW ph w) H k := by
  cases w with
  | non => cases e; rfl
  | bl b => cases e; rfl
  | int i => cases e; rfl
  | str s =>
    simp only [tru] at e
    by_cases c : s.length ≤ 1000000
    · rw [if_pos c] at e
      cases e
      refine ⟨m_line6 c, ?_⟩
      rw [Bool.eq_iff_iff, bne_iff_ne, bne_iff_ne]
      omega
    · rw [if_neg c] at e
      cases e
  | ref n =>
    simp only [tru] at e
    cases e1 : h[n]? with
    | none => rw [e1] at e; cases e
    | some cl =>
      have q := R.cells n cl e1
      rw [e1] at e
      cases cl with
      | lst xs => cases e; exact .inl ⟨_, .inl (.inl q.1), by rw [isEmptyV]⟩
      | fz xs => cases e; obtain ⟨⟨o, q1⟩, _⟩ := q; exact .inl ⟨_, .inl (.inr ⟨o, q1⟩), by rw [isEmptyV]⟩
      | cl xs => cases e; exact .inl ⟨_, .inr q.1, by rw [isEmptyV]⟩
      | tup xs => cases e; exact .inr (.inl ⟨_, .inl (.inl q.1), by rw [isEmptyV]⟩)
      | ct xs => cases e; exact .inr (.inl ⟨_, .inr q.1, by rw [isEmptyV]⟩)
      | dic kvs => cases e; exact .inr (.inr ⟨_, q.1, by rw [isEmptyK]⟩)
      | _ => cases e
theorem t_tru (ha : PE X a (tE X.K Ga pin Wd ma)) (he : ∀ whole, isTrue a X.env whole = (do let v ← whole; standAt a.pos; holding [v] (truthy v))) : PT X a (tT X.K Ga pin Wd (tTru ma)) := by
  refine PT.imp (pt_truth ha he) fun sg H Q ⟨ph, h, r, s, x⟩ => ?_
  refine ⟨ph, h, r, s, x.bind fun u h1 _ ph1 H1 b1 g1 R1 ⟨eb1, w1⟩ x1 => ?_⟩
  cases e1 : tru u h1 with
  | none => rw [e1] at x1; exact x1.elim
  | some k =>
    rw [e1] at x1
    rw [eb1]
    exact ⟨k, tru_is R1 e1, rd_okB x1 R1⟩
theorem t_bl (ha : PE X a (tE X.K Ga pin Wd ma)) (he : ∀ whole, isTrue a X.env whole = (do let v ← whole; standAt a.pos; holding [v] (truthy v)) := by intro _; rfl) : PT X a (tT X.K Ga pin Wd (tBl ma)) := by
  refine PT.imp (pt_val ha he) fun sg H Q ⟨ph, h, r, s, x⟩ => ?_
  refine ⟨ph, h, r, s, x.bind fun u h1 _ ph1 H1 b1 g1 R1 ⟨eb1, w1⟩ x1 => ?_⟩
  cases u with
  | bl k => exact ⟨k, eb1, rd_okB x1 R1⟩
  | _ => exact x1.elim
theorem t_cmp {op : CmpOp} {g : Mini.W → Mini.W → MH → Mini.R Mini.W} {rr : R2} (ho : OpR X (compareOp op) rr) (hg : BinS X Ga g rr) (ha : PE X a (tE X.K Ga pin Wd ma)) (hb : PE X b (tE X.K Ga pin Wd mb)) (hm : behindInMarks op b = false) :
    PT X (.Compare a [op] [b] pos) (tT X.K Ga pin Wd (tBl (eBin g ma mb))) := by
  refine PT.imp (pt_cmpR ho ha hb hm) fun sg H Q ⟨ph, h, r, s, x⟩ => ?_
  have y : tE X.K Ga pin Wd (eBin g ma mb) sg H fun v H' => ∃ k, v = .bl k ∧ Q k H' := ⟨ph, h, r, s, x.bind fun u h1 _ ph1 H1 b1 g1 R1 ⟨eb1, w1⟩ x1 => by
    cases u with
    | bl k => exact ⟨k, eb1, rd_okB x1 R1⟩
    | _ => exact x1.elim⟩
  exact two_of y fun ph h H u v R w1 w2 x2 => hg Wd ph h H sg u v _ R w1 w2 x2
theorem w_and1 (ha : PT X a (tT X.K Ga pin Wd ta)) : PW X (.BoolOp .And [a] pos) (tT X.K Ga pin Wd ta) := pw_and1 ha
theorem w_or1 (ha : PT X a (tT X.K Ga pin Wd ta)) : PW X (.BoolOp .Or [a] pos) (tT X.K Ga pin Wd ta) := pw_or1 ha
theorem w_and (ha : PT X a (tT X.K Ga pin Wd ta)) (hb : PW X (.BoolOp .And (b :: rest) pos) (tT X.K Ga pin Wd tb)) : PW X (.BoolOp .And (a :: b :: rest) pos) (tT X.K Ga pin Wd (Mini.tAnd ta tb)) := by
  refine PW.imp (pw_and ha hb) fun sg H Q ⟨ph, h, r, s, x⟩ => ?_
  refine ⟨ph, h, r, s, x.bind fun k h1 _ ph1 H1 b1 g1 R1 eb1 x1 => ?_⟩
  cases k with
  | true =>
    rw [show b1 = true from eb1, if_pos rfl]
    exact ⟨ph1, h1, r, s.grow g1 R1, x1⟩
  | false =>
    rw [show b1 = false from eb1, if_neg Bool.false_ne_true]
    exact rd_okB x1 R1
theorem w_or (ha : PT X a (tT X.K Ga pin Wd ta)) (hb : PW X (.BoolOp .Or (b :: rest) pos) (tT X.K Ga pin Wd tb)) : PW X (.BoolOp .Or (a :: b :: rest) pos) (tT X.K Ga pin Wd (Mini.tOr ta tb)) := by
  refine PW.imp (pw_or ha hb) fun sg H Q ⟨ph, h, r, s, x⟩ => ?_
  refine ⟨ph, h, r, s, x.bind fun k h1 _ ph1 H1 b1 g1 R1 eb1 x1 => ?_⟩
  cases k with
  | true =>
    rw [show b1 = true from eb1, if_pos rfl]
    exact rd_okB x1 R1
  | false =>
    rw [show b1 = false from eb1, if_neg Bool.false_ne_true]
    exact ⟨ph1, h1, r, s.grow g1 R1, x1⟩
theorem t_not (ha : PT X a (tT X.K Ga pin Wd ta)) : PT X (.UnaryOp .Not a pos) (tT X.K Ga pin Wd (Mini.tNot ta)) := by
  refine PT.imp (pt_not ha) fun sg H Q ⟨ph, h, r, s, x⟩ => ?_
  refine ⟨ph, h, r, s, x.bind fun k h1 _ ph1 H1 b1 g1 R1 eb1 x1 => ?_⟩
  rw [show b1 = k from eb1]
  exact rd_okB x1 R1
theorem e_if (hc : PT X c (tT X.K Ga pin Wd ta)) (ha : PE X a (tE X.K Ga pin Wd ma)) (hb : PE X b (tE X.K Ga pin Wd mb)) : PE X (.IfExp c a b pos) (tE X.K Ga pin Wd (eIf ta ma mb)) := by
  refine PE.imp (pe_ifExp hc ha hb) fun sg H Q ⟨ph, h, r, s, x⟩ => ?_
  refine ⟨ph, h, r, s, x.bind fun k h1 _ ph1 H1 b1 g1 R1 eb1 x1 => ?_⟩
  cases k with
  | true =>
    rw [show b1 = true from eb1, if_pos rfl]
    exact ⟨ph1, h1, r, s.grow g1 R1, x1⟩
  | false =>
    rw [show b1 = false from eb1, if_neg Bool.false_ne_true]
    exact ⟨ph1, h1, r, s.grow g1 R1, x1⟩
theorem e_one {op : BoolOp} (ha : PE X a (tE X.K Ga pin Wd ma)) : PE X (.BoolOp op [a] pos) (tE X.K Ga pin Wd ma) := pe_one ha
theorem e_and (ha : PE X a (tE X.K Ga pin Wd ma)) (hb : PE X (.BoolOp .And (b :: rest) pos) (tE X.K Ga pin Wd mb)) : PE X (.BoolOp .And (a :: b :: rest) pos) (tE X.K Ga pin Wd (eAnd ma mb)) := by
  refine PE.imp (pe_and ha hb) fun sg H Q ⟨ph, h, r, s, x⟩ => ?_
  refine ⟨ph, h, r, s, x.bind fun u h1 _ ph1 H1 b1 g1 R1 ⟨eb1, w1⟩ x1 => ?_⟩
  cases u with
  | bl k =>
    refine ⟨k, eb1, ?_⟩
    cases k with
    | true =>
      rw [if_pos rfl]
      exact ⟨ph1, h1, r, s.grow g1 R1, x1⟩
    | false =>
      rw [if_neg (fun z => nomatch z)]
      exact rd_ok (w := .bl false) x1 R1 trivial
  | _ => exact x1.elim
theorem e_or (ha : PE X a (tE X.K Ga pin Wd ma)) (hb : PE X (.BoolOp .Or (b :: rest) pos) (tE X.K Ga pin Wd mb)) : PE X (.BoolOp .Or (a :: b :: rest) pos) (tE X.K Ga pin Wd (eOr ma mb)) := by
  refine PE.imp (pe_or ha hb) fun sg H Q ⟨ph, h, r, s, x⟩ => ?_
  refine ⟨ph, h, r, s, x.bind fun u h1 _ ph1 H1 b1 g1 R1 ⟨eb1, w1⟩ x1 => ?_⟩
  cases u with
  | bl k =>
    refine ⟨k, eb1, ?_⟩
    cases k with
    | true =>
      rw [if_pos rfl]
      exact rd_ok (w := .bl true) x1 R1 trivial
    | false =>
      rw [if_neg (fun z => nomatch z)]
      exact ⟨ph1, h1, r, s.grow g1 R1, x1⟩
  | _ => exact x1.elim
theorem e_not (ha : PE X a (tE X.K Ga pin Wd ma)) : PE X (.UnaryOp .Not a pos) (tE X.K Ga pin Wd (eNot ma)) := by
  refine PE.imp (pe_not ha) fun sg H Q ⟨ph, h, r, s, x⟩ => ?_
  refine ⟨ph, h, r, s, x.bind fun u h1 _ ph1 H1 b1 g1 R1 ⟨eb1, w1⟩ x1 => ?_⟩
  cases u with
  | bl k => exact ⟨k, eb1, rd_ok (w := .bl (!k)) x1 R1 trivial⟩
  | _ => exact x1.elim
/-- a OP b OP' c -/
theorem chain_of {g g' : Mini.W → Mini.W → MH → Mini.R Mini.W} {rr rr' : R2} (hg : BinS X Ga g rr) (hg' : BinS X Ga g' rr') (sg : L2.St) (H : Hp) (Q : VK) (x : tE X.K Ga pin Wd (eChain g g' ma mb mc) sg H Q) :
    tChain rr rr' (tE X.K Ga pin Wd ma) (tE X.K Ga pin Wd mb) (tE X.K Ga pin Wd mc) sg H Q := by
  obtain ⟨ph, h, r, s, x⟩ := x
  refine ⟨ph, h, r, s, x.bind fun u h1 e1 ph1 H1 b1 g1 R1 ⟨eb1, w1⟩ x1 => ?_⟩
  refine ⟨ph1, h1, r, s.grow g1 R1, x1.bind fun v h2 e2 ph2 H2 b2 g2 R2 ⟨eb2, w2⟩ x2 => ?_⟩
  rw [eb1, eb2, ← g2.v w1]
  refine hg Wd ph2 h2 H2 sg u v _ R2 (w1.mono g2.le) w2 (x2.bind fun z h3 e3 ph3 H3 b3 g3 R3 ⟨eb3, w3⟩ x3 => ?_)
  cases z with
  | bl k =>
    refine ⟨k, eb3, ?_⟩
    cases k with
    | true =>
      rw [if_pos rfl]
      refine ⟨ph3, h3, r, (s.grow g1 R1).grow (g2.trans g3) R3, x3.bind fun t h4 e4 ph4 H4 b4 g4 R4 ⟨eb4, w4⟩ x4 => ?_⟩
      rw [eb4, ← g3.v w2, ← g4.v (w2.mono g3.le)]
      exact hg' Wd ph4 h4 H4 sg v t Q R4 ((w2.mono g3.le).mono g4.le) w4 x4
    | false =>
      rw [if_neg (fun z => nomatch z)]
      exact rd_ok (w := .bl false) x3 R3 trivial
  | _ => exact x3.elim
theorem e_chain {op op' : CmpOp} {g g' : Mini.W → Mini.W → MH → Mini.R Mini.W} {rr rr' : R2} (ho : OpR X (compareOp op) rr) (hg : BinS X Ga g rr) (ho' : OpR X (compareOp op') rr') (hg' : BinS X Ga g' rr')
    (ha : PE X a (tE X.K Ga pin Wd ma)) (hb : PE X b (tE X.K Ga pin Wd mb)) (hc : PE X c (tE X.K Ga pin Wd mc)) (hm : lastMarks [op, op'] [b, c] = false := by with_unfolding_all rfl) :
    PE X (.Compare a [op, op'] [b, c] pos) (tE X.K Ga pin Wd (eChain g g' ma mb mc)) := PE.imp (pe_chain ho ho' ha hb hc hm) (chain_of hg hg')
theorem t_chain {op op' : CmpOp} {g g' : Mini.W → Mini.W → MH → Mini.R Mini.W} {rr rr' : R2} (ho : OpR X (compareOp op) rr) (hg : BinS X Ga g rr) (ho' : OpR X (compareOp op') rr') (hg' : BinS X Ga g' rr')
    (ha : PE X a (tE X.K Ga pin Wd ma)) (hb : PE X b (tE X.K Ga pin Wd mb)) (hc : PE X c (tE X.K Ga pin Wd mc)) (hm : lastMarks [op, op'] [b, c] = false := by with_unfolding_all rfl) :
    PT X (.Compare a [op, op'] [b, c] pos) (tT X.K Ga pin Wd (tBl (eChain g g' ma mb mc))) := by
  refine PT.imp (pt_chain ho ho' ha hb hc hm) fun sg H Q ⟨ph, h, r, s, x⟩ => ?_
  exact chain_of hg hg' sg H _ ⟨ph, h, r, s, x.bind fun u h1 _ ph1 H1 b1 g1 R1 ⟨eb1, w1⟩ x1 => by
    cases u with
    | bl k => exact ⟨k, eb1, rd_okB x1 R1⟩
    | _ => exact x1.elim⟩
/-! ### built-in functions -/
def FnS (X : Cx) (Ga : Nat → Addr) (g : List Mini.W → MH → Mini.R Mini.W) (rr : List V → Hp → VK → Prop) : Prop :=
  ∀ (Wd : WX) (ph : Nat → Addr) (h : MH) (H : Hp) (sg : L2.St) (xs : List Mini.W) (Q : VK), HR X.K Ga ph h H → (∀ x ∈ xs, wf h.length x) → rd X.K Ga Wd relW ph h sg (g xs h) Q → rr (xs.map (vW ph)) H Q
theorem fn_of_ {g : List Mini.W → MH → Mini.R Mini.W} {rr : List V → Hp → VK → Prop} (hg : FnS X Ga g rr) (sg : L2.St) (H : Hp) (Q : VK) (x : tE X.K Ga pin Wd (eFn g ms) sg H Q) : tA X.K Ga pin Wd ms sg H fun vs H1 => rr vs H1 Q := by
  obtain ⟨ph, h, r, s, x⟩ := x
  refine ⟨ph, h, r, s, x.bind fun us h1 _ ph1 H1 b1 g1 R1 ⟨eb1, w1⟩ x1 => ?_⟩
  rw [eb1]
  exact hg Wd ph1 h1 H1 sg us Q R1 w1 x1
theorem e_fnB {x : Str} {id : String} {p : Pos} {g : List Mini.W → MH → Mini.R Mini.W} {rr : List V → Hp → VK → Prop} (hc : CallR X (.builtin id) rr) (hg : FnS X Ga g rr) (hgl : Gl X x) (hm : X.mg x = none) (hv : bootBuiltins x = some (.builtin id)) (ha : PA X (e :: es) (tA X.K Ga pin Wd ms))
    (hn : x ≠ "__name__" := by decide) (hdb : (x == ("__debug__" : Str)) = false := by decide) (he : starEach (e :: es) X.env = (false, eval e X.env) :: starEach es X.env := by rfl) (hpl : (backTo pos (starEach es X.env)).any (·.1) = false := by rfl) :
    PE X (.Call (.Name x p) (e :: es) [] pos) (tE X.K Ga pin Wd (eFn g ms)) := PE.imp (pe_callB hc hgl hm hv ha hn hdb he hpl) (fn_of_ hg)
theorem e_fnT {x : Str} {ty : String} {p : Pos} {g : List Mini.W → MH → Mini.R Mini.W} {rr : List V → Hp → VK → Prop} (hc : CallR X (.type ty) rr) (hg : FnS X Ga g rr) (hgl : Gl X x) (hm : X.mg x = none) (hv : bootBuiltins x = some (.type ty)) (ha : PA X (e :: es) (tA X.K Ga pin Wd ms))
    (hn : x ≠ "__name__" := by decide) (hdb : (x == ("__debug__" : Str)) = false := by decide) (he : starEach (e :: es) X.env = (false, eval e X.env) :: starEach es X.env := by rfl) (hpl : (backTo pos (starEach es X.env)).any (·.1) = false := by rfl) :
    PE X (.Call (.Name x p) (e :: es) [] pos) (tE X.K Ga pin Wd (eFn g ms)) := PE.imp (pe_callTy hc hgl hm hv ha hn hdb he hpl) (fn_of_ hg)
theorem seq_len {K : PySem.W.Frag} {n : Nat} {xs : List Mini.W} (R : HR K Ga ph h H) (e : seqAt h n = some xs) : LenV K (.ref (ph n)) H xs.length := by
  rcases (seqAt_ok R e).1 with z | z
  · exact .inl ⟨_, z, by rw [List.length_map]⟩
  · exact .inr ⟨_, z, by rw [List.length_map]⟩
theorem f_len : FnS X Ga fLen (fun xs H Q => ∃ x n, xs = [x] ∧ LenV X.K x H n ∧ Q (.int n) H) := by
  intro Wd ph h H sg xs Q R wx q
  cases xs with
  | nil => exact q.elim
  | cons x r =>
    cases r with
    | cons y r => cases x <;> exact q.elim
    | nil =>
      cases x with
      | ref n =>
        simp only [fLen] at q
        cases e1 : seqAt h n with
        | none => rw [e1] at q; exact q.elim
        | some ys =>
          rw [e1] at q
          exact ⟨_, _, rfl, seq_len R e1, rd_ok (w := .int (ys.length : Nat)) q R trivial⟩
      | str s =>
        simp only [fLen] at q
        by_cases c : s.length ≤ 1000000
        · rw [if_pos c] at q
          exact ⟨_, _, rfl, ⟨m_line6 c, rfl⟩, rd_ok (w := .int (s.length : Nat)) q R trivial⟩
        · rw [if_neg c] at q
          exact q.elim
      | _ => exact q.elim
theorem f_abs : FnS X Ga fAbs (fun xs H Q => ∃ i, xs = [.int i] ∧ Q (.int (if i < 0 then -i else i)) H) := by
  intro Wd ph h H sg xs Q R wx q
  cases xs with
  | nil => exact q.elim
  | cons x r => cases r with
    | cons y r => cases x <;> exact q.elim
    | nil => cases x with
      | int i => exact ⟨i, rfl, rd_ok (w := .int (if i < 0 then -i else i)) q R trivial⟩
      | _ => exact q.elim
theorem f_int : FnS X Ga fInt (fun xs H Q => (∃ i, xs = [.int i] ∧ Q (.int i) H) ∨ ∃ k, xs = [.bl k] ∧ Q (.int (if k then 1 else 0)) H) := by
  intro Wd ph h H sg xs Q R wx q
  cases xs with
  | nil => exact q.elim
  | cons x r => cases r with
    | cons y r => cases x <;> exact q.elim
    | nil => cases x with
      | int i => exact .inl ⟨i, rfl, rd_ok (w := .int i) q R trivial⟩
      | _ => exact q.elim
theorem f_max2 : FnS X Ga fMax2 (fun xs H Q => ∃ i j, xs = [.int i, .int j] ∧ Q (.int (if j > i then j else i)) H) := by
  intro Wd ph h H sg xs Q R wx q
  match xs, q with
  | [.int i, .int j], q => exact ⟨i, j, rfl, rd_ok (w := .int (if j > i then j else i)) q R trivial⟩
theorem f_min2 : FnS X Ga fMin2 (fun xs H Q => ∃ i j, xs = [.int i, .int j] ∧ Q (.int (if j < i then j else i)) H) := by
  intro Wd ph h H sg xs Q R wx q
  match xs, q with
  | [.int i, .int j], q => exact ⟨i, j, rfl, rd_ok (w := .int (if j < i then j else i)) q R trivial⟩
theorem intsOf_ok : ∀ {xs : List Mini.W} {ns : List Int}, intsOf xs = some ns → xs = ns.map .int
  | [], ns, e => by cases e; rfl
  | .int i :: r, ns, e => by
    simp only [intsOf] at e
    cases e1 : intsOf r with
    | none => rw [e1] at e; cases e
    | some ms => rw [e1] at e; cases e; rw [intsOf_ok e1]; rfl
  | .non :: _, _, e => nomatch e
  | .bl _ :: _, _, e => nomatch e
  | .str _ :: _, _, e => nomatch e
  | .ref _ :: _, _, e => nomatch e
theorem map_int {ns : List Int} : (ns.map Mini.W.int).map (vW ph) = ns.map V.int := by rw [List.map_map]; rfl
theorem f_sum : FnS X Ga fSum (rSum X.K) := by
  intro Wd ph h H sg xs Q R wx q
  match xs, q with
  | [.ref a], q =>
    simp only [fSum] at q
    cases e1 : h[a]? with
    | none => rw [e1] at q; exact q.elim
    | some cl =>
      cases cl with
      | lst ys =>
        rw [e1] at q
        simp only [] at q
        cases e2 : intsOf ys with
        | none => rw [e2] at q; exact q.elim
        | some ns =>
          rw [e2] at q
          refine ⟨ph a, ns, rfl, ?_, rd_ok (w := .int ns.sum) q R trivial⟩
          have z := (R.cells a _ e1).1
          rw [intsOf_ok e2, map_int] at z
          exact .inl (.inl z)
      | _ => rw [e1] at q; exact q.elim
theorem f_list : FnS X Ga fList (fun xs H Q => ∃ p ys, xs = [.ref p] ∧ (SqL X.K H p ys ∨ SqT X.K H p ys) ∧ ∀ l, H l = none → Q (.ref l) (upd H l (.lst ys))) := by
  intro Wd ph h H sg xs Q R wx q
  match xs, q with
  | [.ref a], q =>
    simp only [fList] at q
    cases e1 : seqAt h a with
    | none => rw [e1] at q; exact q.elim
    | some ys =>
      rw [e1] at q
      obtain ⟨z1, z2⟩ := seqAt_ok R e1
      exact ⟨ph a, _, rfl, z1, fun l hl => rd_new (o := fun _ => .lst (ys.map (vW ph))) q R hl (at_lst z2)⟩
/-! ### isinstance of built-in classes -/
def kindName : Option Mini.Ty → String
  | none => "NoneType"
  | some t => tyName t
theorem kit_kind {K : PySem.W.Frag} (k : Option Mini.Ty) (t : Mini.Ty) : PySem.W.kitOne K (.type (kindName k)) (.type (tyName t)) = some (Mini.isTy k t) := by
  refine kit_ty ?_
  cases k with
  | none => cases t <;> decide +kernel
  | some u => cases u <;> cases t <;> decide +kernel
theorem kit_ins {K : PySem.W.Frag} {C : Addr} {ty : Mini.Ty} {b : Bool} (h : PySem.W.subIn K (.ref C) (.type (tyName ty)) = some b) : PySem.W.kitOne K (.ref C) (.type (tyName ty)) = some b := by
  have m : PySem.W.kitMeta (tyName ty) = true := by cases ty <;> decide +kernel
  unfold PySem.W.kitOne PySem.W.kitCls
  have n : ¬ (Value.ref C == Value.type (tyName ty)) = true := fun z => by have := beq_iff_eq.mp z; cases this
  rw [if_neg n]
  show (if PySem.W.kitMeta (tyName ty) = true then PySem.W.subIn K (.ref C) (.type (tyName ty)) else none) = some b
  rw [if_pos m]
  exact h
theorem xd_there {K : PySem.W.Frag} {d : Option Nat} (R : HR K Ga ph h H) (e : Mini.xdAt h d = true) : ∀ dd, d.map ph = some dd → ∃ fs, H dd = some (.xd fs) := by
  intro dd hd
  cases d with
  | none => cases hd
  | some k =>
    cases hd
    simp only [Mini.xdAt] at e
    cases e1 : h[k]? with
    | none => rw [e1] at e; cases e
    | some cl =>
      rw [e1] at e
      cases cl with
      | xd fs => exact ⟨_, (R.cells k _ e1).1⟩
      | _ => cases e
theorem tyx_of {K : PySem.W.Frag} {w : Mini.W} (R : HR K Ga ph h H) (e : known w h = true) : ∃ t, TyE K H (vW ph w) t ∧ ∀ ty : Mini.Ty, PySem.W.kitOne K t (.type (tyName ty)) = some (Mini.isTy (Mini.kindOf w h) ty) := by
  cases w with
  | non => exact ⟨_, .base (.base .non), kit_kind none⟩
  | bl b => exact ⟨_, .base (.base (.bl b)), kit_kind (some .tBool)⟩
  | int i => exact ⟨_, .base (.base (.int i)), kit_kind (some .tInt)⟩
  | str s => exact ⟨_, .base (.base (.str s)), kit_kind (some .tStr)⟩
  | ref n =>
    simp only [known] at e
    simp only [Mini.kindOf]
    cases e1 : h[n]? with
    | none => rw [e1] at e; cases e
    | some cl =>
      have q := R.cells n cl e1
      rw [e1] at e
      cases cl with
      | lst xs => exact ⟨_, .base (.base (.lst q.1)), kit_kind (some .tList)⟩
      | fz xs => obtain ⟨⟨o, q1⟩, _⟩ := q; exact ⟨_, .base (.base (.frz q1)), kit_kind (some .tList)⟩
      | cl xs => obtain ⟨⟨o, its, m, e1, e2, _⟩, _⟩ := q; exact ⟨_, .base (.kList e1 e2), kit_kind (some .tList)⟩
      | tup xs => exact ⟨_, .base (.base (.tup q.1)), kit_kind (some .tTuple)⟩
      | ct xs => obtain ⟨⟨o, its, m, e1, e2, _⟩, _⟩ := q; exact ⟨_, .base (.kTuple e1 e2), kit_kind (some .tTuple)⟩
      | dic kvs => exact ⟨_, .base (.base (.dK q.1)), kit_kind (some .tDict)⟩
      | ins c fs =>
        obtain ⟨⟨dx, q1, cx⟩, _⟩ := q
        exact ⟨_, .base (.base (.ins q1 cx.cl cx.ha cx.hn cx.htk cx.hm)), fun ty => kit_ins (cx.sub ty)⟩
      | exo c d =>
        obtain ⟨⟨q1, cx⟩, _⟩ := q
        exact ⟨_, .exc q1 cx.ec (xd_there R e), fun ty => kit_ins (cx.sub ty)⟩
      | _ => cases e
/-- isinstance(x, T) -/
theorem e_isi {x T : Str} {ty : Mini.Ty} {p p2 : Pos} (hx : x = "isinstance") (hgl : Gl X x) (hm : X.mg x = none) (hgl2 : Gl X T) (hm2 : X.mg T = none) (hv2 : bootBuiltins T = some (.type (tyName ty))) (hn2 : T ≠ "__name__" := by decide) (hd2 : (T == ("__debug__" : Str)) = false := by decide)
    (ha : PE X a (tE X.K Ga pin Wd ma)) (he : starEach (a :: [.Name T p2]) X.env = (false, eval a X.env) :: starEach [.Name T p2] X.env := by rfl) (he2 : starEach (.Name T p2 :: []) X.env = (false, eval (.Name T p2) X.env) :: starEach [] X.env := by rfl) (hpl : (backTo pos (starEach [.Name T p2] X.env)).any (·.1) = false := by rfl) :
    PE X (.Call (.Name x p) [a, .Name T p2] [] pos) (tE X.K Ga pin Wd (eUn (gIsi ty) ma)) := by
  subst hx
  have ht : PE X (.Name T p2) (tC (.ty (tyName ty))) := pe_bltn hgl2 hm2 hv2 rfl hn2 hd2
  refine PE.imp (pe_callB call_isiE hgl hm (by decide +kernel) (pa_cons ha (pa_cons ht pa_nil he2) he) (by decide) (by decide) he hpl) fun sg H Q ⟨ph, h, r, s, x⟩ => ?_
  refine ⟨ph, h, r, s, x.bind fun u h1 _ ph1 H1 b1 g1 R1 ⟨eb1, w1⟩ x1 => ?_⟩
  unfold gIsi at x1
  by_cases k : known u h1 = true
  · rw [if_pos k] at x1
    rw [eb1]
    obtain ⟨t, tx, kt⟩ := tyx_of R1 k
    exact ⟨_, _, _, _, _, rfl, .ty _, tx, kt _, rd_ok (w := .bl _) x1 R1 trivial⟩
  · rw [if_neg k] at x1
    exact x1.elim
end
end Br
set_option Elab.async false
set_option autoImplicit false
set_option linter.all false
set_option maxRecDepth 100000
set_option maxHeartbeats 1100000
namespace Br
open PySem PySem.Spec PyProof.Rows L2 Mini
section
variable {X : Cx} {Ga : Nat → Addr} {pin : Pin} {Wd : WX} {ph : Nat → Addr} {h : MH} {r : Mini.Env} {sg : L2.St} {H : Hp} {a b c e tg iter : Expr} {es rest : List Expr} {pos : Pos} {ma mb mc m : Mini.E} {ta tb : Mini.T} {ms : Mini.A} {st : Stmt} {sts body orelse : List Stmt} {sa sb : Mini.S} {α β : Type}
theorem exc_of {K : PySem.W.Frag} {rel : (Nat → Addr) → Nat → α → β → Prop} {cl : Nat} {d : Option Nat} {h1 : MH} {D : Ends} {Q : β → Hp → Prop} (s : SR K Ga pin ph h r sg H) (x : rdS K Ga pin Wd ph h (.exc cl d r h1) D) : rd K Ga Wd rel ph h sg (.exc cl d h1) Q :=
  fun ph' H' g R z => x ph' sg H' g (s.grow g R) z
/-- an expression, and the statement that goes on with it -/
theorem st_of {K : PySem.W.Frag} {rel : (Nat → Addr) → Nat → α → β → Prop} {q : Mini.R α} {k : α → MH → RS} {D : Ends} {Q1 : β → Hp → Prop} (s : SR K Ga pin ph h r sg H)
    (x : rdS K Ga pin Wd ph h (match q with | .ok a h1 => k a h1 | .exc c d h1 => .exc c d r h1 | .bad => .bad) D)
    (hk : ∀ a h1 ph1 H1 b, Grow ph h ph1 h1 → SR K Ga pin ph1 h1 r sg H1 → rel ph1 h1.length a b → rdS K Ga pin Wd ph1 h1 (k a h1) D → Q1 b H1) : rd K Ga Wd rel ph h sg q Q1 := by
  cases q with
  | ok a h1 => exact fun ph' H' b g R rl => hk a h1 ph' H' b g (s.grow g R) rl (rdS.base g x)
  | exc c d h1 => exact exc_of s x
  | bad => exact x
theorem ss_nil : PSs X [] (tS X.K Ga pin Wd sNx) := PSs.imp pss_nil fun D sg H ⟨ph, h, r, s, x⟩ => x ph sg H (Grow.refl _ _) s
theorem rdS_seq {K : PySem.W.Frag} {q : RS} {k : Mini.Env → MH → RS} {D : Ends} {N : L2.St → Hp → Prop}
    (x : rdS K Ga pin Wd ph h (match q with | .ok .nx r1 h1 => k r1 h1 | z => z) D)
    (hk : ∀ r1 h1 ph1 sg1 H1, q = .ok .nx r1 h1 → Grow ph h ph1 h1 → SR K Ga pin ph1 h1 r1 sg1 H1 → rdS K Ga pin Wd ph1 h1 (k r1 h1) D → N sg1 H1) : rdS K Ga pin Wd ph h q { D with nx := N } := by
  cases q with
  | ok f r1 h1 =>
    cases f with
    | nx => exact fun ph' sg' H' g S => hk r1 h1 ph' sg' H' rfl g S (rdS.base g x)
    | rt w => exact x
    | bk => exact x
    | ct => exact x
  | exc c d r1 h1 => exact x
  | bad => exact x
theorem ss_cons (h1 : PS X st (tS X.K Ga pin Wd sa)) (h2 : PSs X sts (tS X.K Ga pin Wd sb)) : PSs X (st :: sts) (tS X.K Ga pin Wd (sSeq sa sb)) := by
  refine PSs.imp (pss_cons h1 h2) fun D sg H ⟨ph, h, r, s, x⟩ => ⟨ph, h, r, s, ?_⟩
  refine rdS_seq (k := sb) (D := D) ?_ fun r1 h1 ph1 sg1 H1 _ g S x1 => ⟨ph1, h1, r1, S, x1⟩
  unfold sSeq at x
  cases e : sa r h with
  | ok f r1 h1 => cases f <;> (rw [e] at x; exact x)
  | exc c d r1 h1 => rw [e] at x; exact x
  | bad => rw [e] at x; exact x
theorem ss_one (h1 : PS X st (tS X.K Ga pin Wd sa)) : PSs X [st] (tS X.K Ga pin Wd sa) := pss_one h1
theorem s_pass : PS X (.Pass pos) (tS X.K Ga pin Wd sNx) := PS.imp ps_pass fun D sg H ⟨ph, h, r, s, x⟩ => x ph sg H (Grow.refl _ _) s
theorem s_doc {x : Str} {j : Nat} {p p' : Pos} : PS X (.Expr (.Constant (.str x) j p) p') (tS X.K Ga pin Wd sNx) := PS.imp ps_doc fun D sg H ⟨ph, h, r, s, x⟩ => x ph sg H (Grow.refl _ _) s
theorem s_break : PS X (.Break pos) (tS X.K Ga pin Wd sBrk) := PS.imp ps_break fun D sg H ⟨ph, h, r, s, x⟩ => x ph sg H (Grow.refl _ _) s
theorem s_continue : PS X (.Continue pos) (tS X.K Ga pin Wd sCnt) := PS.imp ps_continue fun D sg H ⟨ph, h, r, s, x⟩ => x ph sg H (Grow.refl _ _) s
theorem s_expr (he : PE X e (tE X.K Ga pin Wd m)) (hs : swapsWith e none pos.line X.env = pure false := by rfl) : PS X (.Expr e pos) (tS X.K Ga pin Wd (sExpr m)) := by
  refine PS.imp (ps_expr he hs) fun D sg H ⟨ph, h, r, s, x⟩ => ⟨ph, h, r, s, ?_⟩
  refine st_of (k := fun _ h1 => .ok .nx r h1) (D := D) s ?_ fun w h1 ph1 H1 b g S rl x1 => x1 ph1 sg H1 (Grow.refl _ _) S
  unfold sExpr at x
  cases e : m r h <;> (rw [e] at x; exact x)
theorem s_ret (he : PE X e (tE X.K Ga pin Wd m)) : PS X (.Return (some e) pos) (tS X.K Ga pin Wd (sRet m)) := by
  refine PS.imp (ps_ret he) fun D sg H ⟨ph, h, r, s, x⟩ => ⟨ph, h, r, s, ?_⟩
  refine st_of (k := fun w h1 => .ok (.rt w) r h1) (D := D) s ?_ fun w h1 ph1 H1 b g S rl x1 => ?_
  · unfold sRet at x
    cases e : m r h <;> (rw [e] at x; exact x)
  · rw [rl.1]
    exact x1 ph1 H1 (Grow.refl _ _) S.hr rl.2
theorem s_retN : PS X (.Return none pos) (tS X.K Ga pin Wd (sRet (eC .non))) := PS.imp ps_retN fun D sg H ⟨ph, h, r, s, x⟩ => x ph H (Grow.refl _ _) s.hr trivial
theorem s_if (hc : PT X c (tT X.K Ga pin Wd ta)) (ha : PSs X body (tS X.K Ga pin Wd sa)) (hb : PSs X orelse (tS X.K Ga pin Wd sb)) : PS X (.If c body orelse pos) (tS X.K Ga pin Wd (Mini.sIf ta sa sb)) := by
  refine PS.imp (ps_if hc ha hb) fun D sg H ⟨ph, h, r, s, x⟩ => ⟨ph, h, r, s, ?_⟩
  refine st_of (k := fun c h1 => if c = true then sa r h1 else sb r h1) (D := D) s ?_ fun k h1 ph1 H1 b g S rl x1 => ?_
  · unfold Mini.sIf at x
    cases e : ta r h <;> (rw [e] at x; exact x)
  · rw [show b = k from rl]
    cases k with
    | true =>
      rw [if_pos rfl]
      exact ⟨ph1, h1, r, S, x1⟩
    | false =>
      rw [if_neg (fun z => nomatch z)]
      exact ⟨ph1, h1, r, S, x1⟩
/-! ### targets -/
/-- the slots is alone change -/
def Fr_ (is : List Nat) (sg sg' : L2.St) : Prop := sg'.length = sg.length ∧ ∀ j : Nat, j ∉ is → sg'[j]? = sg[j]?
def rdG (K : PySem.W.Frag) (Ga : Nat → Addr) (pin : Pin) (is : List Nat) (ph : Nat → Addr) (h : MH) (sg : L2.St) (q : Mini.R Mini.Env) (Q : L2.St → Hp → Prop) : Prop := match q with
  | .ok r1 h1 => ∀ ph' sg' H', Grow ph h ph' h1 → SR K Ga pin ph' h1 r1 sg' H' → Fr_ is sg sg' → Q sg' H'
  | _ => False
def TgS (X : Cx) (Ga : Nat → Addr) (pin : Pin) (is : List Nat) (g : Mini.G) (t : TG) : Prop := ∀ (ph : Nat → Addr) (h : MH) (r : Mini.Env) (sg : L2.St) (H : Hp) (w : Mini.W) (Q : L2.St → Hp → Prop), SR X.K Ga pin ph h r sg H → wf h.length w → rdG X.K Ga pin is ph h sg (g w r h) Q → t (vW ph w) sg H Q
def TgsS (X : Cx) (Ga : Nat → Addr) (pin : Pin) (is : List Nat) (gs : List Mini.G) (t : TGs) : Prop := ∀ (ph : Nat → Addr) (h : MH) (r : Mini.Env) (sg : L2.St) (H : Hp) (ws : List Mini.W) (Q : L2.St → Hp → Prop), SR X.K Ga pin ph h r sg H → (∀ w ∈ ws, wf h.length w) → rdG X.K Ga pin is ph h sg (gAll gs ws r h) Q → t (ws.map (vW ph)) sg H Q
/-- a target, what Mini does with it, the slots that it stores into -/
structure Tg (X : Cx) (Ga : Nat → Addr) (pin : Pin) (is : List Nat) (tg : Expr) (g : Mini.G) : Prop where
  ex : ∃ t : TG, PG X tg t ∧ TgS X Ga pin is g t
structure Tgs (X : Cx) (Ga : Nat → Addr) (pin : Pin) (is : List Nat) (tgs : List Expr) (gs : List Mini.G) : Prop where
  ex : ∃ t : TGs, PGs X tgs t ∧ TgsS X Ga pin is gs t
theorem Fr_.refl (is : List Nat) (sg : L2.St) : Fr_ is sg sg := ⟨rfl, fun _ _ => rfl⟩
theorem g_name {i : Nat} {x : Str} (hN : X.N.Nodup) (hi : X.N[i]? = some x) (hx : Loc X.env.scope x) (hl : pin.lets i) (hf : X.fn x = true ∨ X.env.scope.names.lookup x = some .local := by first | exact .inl rfl | exact .inr rfl | assumption) : Tg X Ga pin [i] (.Name x pos) (gSet i) :=
  ⟨gName i, pg_name hN hi hx hf, fun ph h r sg H w Q s hw q => q ph _ H (Grow.refl _ _) (s.put hw hl) ⟨List.length_set, fun j hj => List.getElem?_set_ne (fun z => hj (by rw [← z]; exact List.mem_cons_self))⟩⟩
theorem gs_nil : Tgs X Ga pin [] [] [] := ⟨gNil, pgs_nil, fun ph h r sg H ws Q s hw q => by
  cases ws with
  | nil => exact ⟨rfl, q ph sg H (Grow.refl _ _) s (Fr_.refl _ _)⟩
  | cons w ws => exact q.elim⟩
theorem gs_cons {is js : List Nat} {g : Mini.G} {gs : List Mini.G} (h1 : Tg X Ga pin is e g) (h2 : Tgs X Ga pin js es gs) (hs : (assignEach (e :: es) X.env).map (·.2) = assign e X.env :: (assignEach es X.env).map (·.2) := by rfl) : Tgs X Ga pin (is ++ js) (e :: es) (g :: gs) := by
  obtain ⟨t, p1, z1⟩ := h1.ex
  obtain ⟨ts, p2, z2⟩ := h2.ex
  refine ⟨gCons t ts, pgs_cons p1 p2 hs, fun ph h r sg H ws Q s hw q => ?_⟩
  cases ws with
  | nil => exact q.elim
  | cons w ws =>
    refine ⟨vW ph w, ws.map (vW ph), rfl, z1 ph h r sg H w _ s (hw w List.mem_cons_self) ?_⟩
    have q' : rdG X.K Ga pin (is ++ js) ph h sg ((g w r h).bind fun r1 h1 => gAll gs ws r1 h1) Q := q
    cases e : g w r h with
    | ok r1 h1 =>
      rw [e] at q'
      intro ph' sg' H' g' S' f'
      have hw' : ∀ x ∈ ws, wf h.length x := fun x hx => hw x (List.mem_cons_of_mem _ hx)
      rw [← g'.vs hw']
      refine z2 ph' h1 r1 sg' H' ws _ S' (fun x hx => (hw' x hx).mono g'.le) ?_
      have q2 : rdG X.K Ga pin (is ++ js) ph h sg (gAll gs ws r1 h1) Q := q'
      cases e2 : gAll gs ws r1 h1 with
      | ok r2 h2 =>
        rw [e2] at q2
        exact fun ph2 sg2 H2 g2 S2 f2 => q2 ph2 sg2 H2 (g'.trans g2) S2 ⟨f2.1.trans f'.1, fun j hj => (f2.2 j (fun z => hj (List.mem_append_right _ z))).trans (f'.2 j (fun z => hj (List.mem_append_left _ z)))⟩
      | exc c d h2 => rw [e2] at q2; exact q2.elim
      | bad => rw [e2] at q2; exact q2.elim
    | exc c d h1 => rw [e] at q'; exact q'.elim
    | bad => rw [e] at q'; exact q'.elim
theorem gAll_len : ∀ {gs : List Mini.G} {ws : List Mini.W} {r : Mini.Env} {h : MH} {r1 : Mini.Env} {h1 : MH}, gAll gs ws r h = .ok r1 h1 → ws.length = gs.length
  | [], [], _, _, _, _, _ => (rfl)
  | [], _ :: _, _, _, _, _, e => nomatch e
  | _ :: _, [], _, _, _, _, e => nomatch e
  | g :: gs, w :: ws, r, h, r1, h1, e => by
    have e' : ((g w r h).bind fun r1 h1 => gAll gs ws r1 h1) = .ok r1 h1 := e
    cases q : g w r h with
    | ok r2 h2 => rw [q] at e'; rw [List.length_cons, List.length_cons, gAll_len (show gAll gs ws r2 h2 = _ from e')]
    | exc c d h2 => rw [q] at e'; exact nomatch e'
    | bad => rw [q] at e'; exact nomatch e'
theorem g_tup {is : List Nat} {k n : Nat} {gs : List Mini.G} (hc : X.calm = true) (hg : Tgs X Ga pin is es gs) (hl : gs.length = n := by rfl) (hn : (assignEach es X.env).length = n := by rfl) (hst : (assignEach es X.env).findIdx? (·.1) = none := by rfl) : Tg X Ga pin is (.Tuple es k pos) (gTupT gs) := by
  obtain ⟨ts, p, z⟩ := hg.ex
  refine ⟨gTup X.K n ts, pg_tup hc p hn hst, fun ph h r sg H w Q s hw q => ?_⟩
  cases w with
  | ref a =>
    have q' : rdG X.K Ga pin is ph h sg (match h[a]? with | some (.tup xs) => gAll gs xs r h | some (.ct xs) => gAll gs xs r h | _ => .bad) Q := q
    have go : ∀ {xs : List Mini.W}, rdG X.K Ga pin is ph h sg (gAll gs xs r h) Q → SqT X.K H (ph a) (xs.map (vW ph)) → (∀ x ∈ xs, wf h.length x) → gTup X.K n ts (vW ph (.ref a)) sg H Q := fun {xs} q1 q2 q3 => by
      refine ⟨ph a, xs.map (vW ph), rfl, q2, ?_, z ph h r sg H xs Q s q3 q1⟩
      cases e : gAll gs xs r h with
      | ok r1 h1 => rw [List.length_map, gAll_len e, hl]
      | exc c d h1 => rw [e] at q1; exact q1.elim
      | bad => rw [e] at q1; exact q1.elim
    cases e1 : h[a]? with
    | none => rw [e1] at q'; exact q'.elim
    | some cl =>
      have y := s.hr.cells a cl e1
      rw [e1] at q'
      cases cl with
      | tup xs => exact go q' (.inl (.inl y.1)) y.2
      | ct xs => exact go q' (.inr y.1) y.2
      | _ => exact q'.elim
  | _ => exact q.elim
theorem s_asg {is : List Nat} {g : Mini.G} (he : PE X e (tE X.K Ga pin Wd m)) (hg : Tg X Ga pin is tg g) (hs : swapsWithSole [tg] e pos.line X.env = pure false := by rfl) (hw : swappedStores [tg] e X.env = pure none := by rfl)
    (h1 : (assignEach [tg] X.env).map (·.2) = [assign tg X.env] := by rfl) : PS X (.Assign [tg] e pos) (tS X.K Ga pin Wd (sAsg m g)) := by
  obtain ⟨t, p, z⟩ := hg.ex
  refine PS.imp (ps_asg he p hs hw h1) fun D sg H ⟨ph, h, r, s, x⟩ => ⟨ph, h, r, s, ?_⟩
  refine st_of (k := fun w h1 => match g w r h1 with | .ok r1 h2 => .ok .nx r1 h2 | _ => .bad) (D := D) s ?_ fun w h1 ph1 H1 b g1 S rl x1 => ?_
  · unfold sAsg at x
    cases e : m r h with
    | ok w h1 =>
      rw [e] at x
      show rdS X.K Ga pin Wd ph h (match g w r h1 with | .ok r1 h2 => .ok .nx r1 h2 | _ => .bad) D
      have x' : rdS X.K Ga pin Wd ph h (match g w r h1 with | .ok r1 h2 => RS.ok .nx r1 h2 | _ => RS.bad) D := x
      exact x'
    | exc c d h1 => rw [e] at x; exact x
    | bad => rw [e] at x; exact x
  · rw [rl.1]
    refine z ph1 h1 r sg H1 w _ S rl.2 ?_
    cases e : g w r h1 with
    | ok r1 h2 =>
      rw [e] at x1
      exact fun ph2 sg2 H2 g2 S2 _ => x1 ph2 sg2 H2 g2 S2
    | exc c d h2 => rw [e] at x1; exact x1.elim
    | bad => rw [e] at x1; exact x1.elim
theorem s_set {i : Nat} {x : Str} {pos' : Pos} (hN : X.N.Nodup) (hi : X.N[i]? = some x) (hx : Loc X.env.scope x) (hl : pin.lets i) (he : PE X e (tE X.K Ga pin Wd m)) (hs : swapsWith e (some (.Name x pos')) pos.line X.env = pure false := by rfl)
    (hf : X.fn x = true ∨ X.env.scope.names.lookup x = some .local := by first | exact .inl rfl | exact .inr rfl | assumption) : PS X (.Assign [.Name x pos'] e pos) (tS X.K Ga pin Wd (sSet i m)) := by
  refine PS.imp (ps_set hN hi hx he hs hf) fun D sg H ⟨ph, h, r, s, x⟩ => ⟨ph, h, r, s, ?_⟩
  refine st_of (k := fun w h1 => .ok .nx (r.set i (some w)) h1) (D := D) s ?_ fun w h1 ph1 H1 b g1 S rl x1 => ?_
  · unfold sSet sAsg at x
    cases e : m r h <;> (rw [e] at x; exact x)
  · rw [rl.1]
    exact x1 ph1 _ H1 (Grow.refl _ _) (S.put rl.2 hl)
end
end Br
set_option Elab.async false
set_option autoImplicit false
set_option linter.all false
set_option maxRecDepth 100000
set_option maxHeartbeats 1100000
namespace Br
open PySem PySem.Spec PyProof.Rows L2 Mini
section
variable {X : Cx} {Ga : Nat → Addr} {pin : Pin} {Wd : WX} {ph : Nat → Addr} {h : MH} {r : Mini.Env} {sg : L2.St} {H : Hp} {a b c e tg iter o i : Expr} {es rest : List Expr} {pos : Pos} {ma mb mc m mo mi : Mini.E} {ta tb : Mini.T} {ms : Mini.A} {st : Stmt} {sts body orelse : List Stmt} {sa sb : Mini.S} {α β : Type}
/-! ### stores -/
theorem map_set {xs : List Mini.W} {j : Nat} {w : Mini.W} : (xs.set j w).map (vW ph) = (xs.map (vW ph)).set j (vW ph w) := by rw [List.map_set]
theorem wf_set {n : Nat} {xs : List Mini.W} {j : Nat} {w : Mini.W} (q : ∀ x ∈ xs, wf n x) (hw : wf n w) : ∀ x ∈ xs.set j w, wf n x := fun x hx => by
  rcases List.mem_or_eq_of_mem_set hx with z | z
  · exact q x z
  · rw [z]; exact hw
theorem rdG_ok {K : PySem.W.Frag} {is : List Nat} {r1 : Mini.Env} {h1 : MH} {Q : L2.St → Hp → Prop} (x : rdG K Ga pin is ph h sg (.ok r1 h1) Q) : ∀ ph' sg' H', Grow ph h ph' h1 → SR K Ga pin ph' h1 r1 sg' H' → Fr_ is sg sg' → Q sg' H' := x
/-- xs[i] = w -/
theorem g_subL (hp : PG X (.Subscript o i pos) (gSub (tE X.K Ga pin Wd mo) (tE X.K Ga pin Wd mi) rSetL)) : Tg X Ga pin [] (.Subscript o i pos) (gSubL mo mi) := by
  refine ⟨_, hp, fun ph h r sg H w Q s hw q => ?_⟩
  unfold gSubL at q
  refine ⟨ph, h, r, s, ?_⟩
  cases e1 : mo r h with
  | exc c d h1 => rw [e1] at q; exact q.elim
  | bad => rw [e1] at q; exact q.elim
  | ok x h1 =>
    rw [e1] at q
    intro ph1 H1 b1 g1 R1 rl1
    refine ⟨ph1, h1, r, s.grow g1 R1, ?_⟩
    have q2 : rdG X.K Ga pin [] ph h sg ((mi r h1).bind fun y h2 => putL w r x y h2) Q := q
    cases e2 : mi r h1 with
    | exc c d h2 => rw [e2] at q2; exact q2.elim
    | bad => rw [e2] at q2; exact q2.elim
    | ok y h2 =>
      rw [e2] at q2
      intro ph2 H2 b2 g2 R2 rl2
      have q3 : rdG X.K Ga pin [] ph h sg (putL w r x y h2) Q := q2
      unfold putL at q3
      cases x with
      | ref n =>
        cases y with
        | int k =>
          simp only [] at q3
          cases e3 : h2[n]? with
          | none => rw [e3] at q3; exact q3.elim
          | some cl =>
            rw [e3] at q3
            cases cl with
            | lst xs =>
              simp only [] at q3
              cases e4 : ixOf xs.length k with
              | none => rw [e4] at q3; exact q3.elim
              | some j =>
                rw [e4] at q3
                obtain ⟨z1, z2⟩ := R2.cells n _ e3
                have g12 := g1.trans g2
                have hw2 : wf h2.length w := hw.mono g12.le
                refine ⟨ph2 n, xs.map (vW ph2), k, j, ?_, rl2.1, z1, by rw [List.length_map]; exact e4, ?_⟩
                · rw [rl1.1]
                  exact (g2.v rl1.2).symm
                · have R3 : HR X.K Ga ph2 (h2.set n (.lst (xs.set j w))) (upd H2 (ph2 n) (.lst ((xs.map (vW ph2)).set j (vW ph w)))) :=
                    R2.set e3 trivial trivial ⟨by rw [map_set, g12.v hw]; exact upd_same, wf_set z2 hw2⟩
                  exact rdG_ok q3 ph2 sg _ (g12.trans Grow.set) ((s.grow g12 R2).grow Grow.set R3) (Fr_.refl _ _)
            | _ => exact q3.elim
        | _ => exact q3.elim
      | _ => cases y <;> exact q3.elim
theorem setAll2 {i j : Nat} {ws : List Mini.W} {r r1 : Mini.Env} (e : setAll [i, j] ws r = some r1) : ∃ v w, ws = [v, w] ∧ r1 = (r.set i (some v)).set j (some w) := by
  match ws, e with
  | [v, w], e => exact ⟨v, w, rfl, (Option.some.inj e).symm⟩
theorem setAll3 {i j k : Nat} {ws : List Mini.W} {r r1 : Mini.Env} (e : setAll [i, j, k] ws r = some r1) : ∃ v w u, ws = [v, w, u] ∧ r1 = ((r.set i (some v)).set j (some w)).set k (some u) := by
  match ws, e with
  | [v, w, u], e => exact ⟨v, w, u, rfl, (Option.some.inj e).symm⟩
theorem st_par {K : PySem.W.Frag} {is : List Nat} {D : Ends} {Q1 : List V → Hp → Prop} (s : SR K Ga pin ph h r sg H) (x : rdS K Ga pin Wd ph h (sPar is ms r h) D)
    (hk : ∀ ws h1 r1 ph1 H1, setAll is ws r = some r1 → Grow ph h ph1 h1 → SR K Ga pin ph1 h1 r sg H1 → (∀ w ∈ ws, wf h1.length w) → rdS K Ga pin Wd ph1 h1 (.ok .nx r1 h1) D → Q1 (ws.map (vW ph1)) H1) : rd K Ga Wd relA ph h sg (ms r h) Q1 := by
  refine st_of (k := fun ws h1 => match setAll is ws r with | some r1 => .ok .nx r1 h1 | none => .bad) (D := D) s ?_ fun ws h1 ph1 H1 b g S rl x1 => ?_
  · unfold sPar at x
    cases e : ms r h <;> (rw [e] at x; exact x)
  · rw [rl.1]
    cases e : setAll is ws r with
    | none => rw [e] at x1; exact x1.elim
    | some r1 => rw [e] at x1; exact hk ws h1 r1 ph1 H1 e g S rl.2 x1
theorem s_par2 {i j : Nat} {x y : Str} {px py pt : Pos} {kt k2 : Nat} {pt2 : Pos} (hc : X.calm = true) (hN : X.N.Nodup) (hi : X.N[i]? = some x) (hj : X.N[j]? = some y) (hij : i ≠ j) (hx : X.env.scope.names.lookup x = some .local) (hy : X.env.scope.names.lookup y = some .local) (hl1 : pin.lets i) (hl2 : pin.lets j)
    (ha : PA X [a, b] (tA X.K Ga pin Wd ms)) (hw : swappedStores [.Tuple [.Name x px, .Name y py] kt pt] (.Tuple [a, b] k2 pt2) X.env = pure (some [x, y]))
    (hs : swapsWithSole [.Tuple [.Name x px, .Name y py] kt pt] (.Tuple [a, b] k2 pt2) pos.line X.env
      = pure false := by rfl) :
    PS X (.Assign [.Tuple [.Name x px, .Name y py] kt pt] (.Tuple [a, b] k2 pt2) pos) (tS X.K Ga pin Wd (sPar [i, j] ms)) := by
  refine PS.imp (ps_par hc hN hi hj hij hx hy ha hw hs) fun D sg H ⟨ph, h, r, s, x⟩ => ⟨ph, h, r, s, ?_⟩
  refine st_par s x fun ws h1 r1 ph1 H1 e g S wfs x1 => ?_
  obtain ⟨v, w, rfl, rfl⟩ := setAll2 e
  exact ⟨_, _, rfl, x1 ph1 _ H1 (Grow.refl _ _) ((S.put (wfs v (by simp)) hl1).put (wfs w (by simp)) hl2)⟩
theorem s_par3 {i j l : Nat} {x y z : Str} {px py pz pt : Pos} {kt k2 : Nat} {pt2 : Pos} (hc : X.calm = true) (hN : X.N.Nodup) (hi : X.N[i]? = some x) (hj : X.N[j]? = some y) (hl : X.N[l]? = some z) (hij : i ≠ j) (hil : i ≠ l) (hjl : j ≠ l)
    (hx : X.env.scope.names.lookup x = some .local) (hy : X.env.scope.names.lookup y = some .local) (hz : X.env.scope.names.lookup z = some .local) (hl1 : pin.lets i) (hl2 : pin.lets j) (hl3 : pin.lets l)
    (ha : PA X [a, b, c] (tA X.K Ga pin Wd ms)) (hw : swappedStores [.Tuple [.Name x px, .Name y py, .Name z pz] kt pt] (.Tuple [a, b, c] k2 pt2) X.env = pure (some [x, y, z]))
    (hs : swapsWithSole [.Tuple [.Name x px, .Name y py, .Name z pz] kt pt] (.Tuple [a, b, c] k2 pt2) pos.line X.env
      = pure false := by rfl) :
    PS X (.Assign [.Tuple [.Name x px, .Name y py, .Name z pz] kt pt] (.Tuple [a, b, c] k2 pt2) pos) (tS X.K Ga pin Wd (sPar [i, j, l] ms)) := by
  refine PS.imp (ps_par3 hc hN hi hj hl hij hil hjl hx hy hz ha hw hs) fun D sg H ⟨ph, h, r, s, x⟩ => ⟨ph, h, r, s, ?_⟩
  refine st_par s x fun ws h1 r1 ph1 H1 e g S wfs x1 => ?_
  obtain ⟨v, w, u, rfl, rfl⟩ := setAll3 e
  exact ⟨_, _, _, rfl, x1 ph1 _ H1 (Grow.refl _ _) (((S.put (wfs v (by simp)) hl1).put (wfs w (by simp)) hl2).put (wfs u (by simp)) hl3)⟩
/-- x op= e -/
theorem s_aug {i : Nat} {x : Str} {op : Operator} {f : Int → Int → Int} {pos' : Pos} (hN : X.N.Nodup) (hi : X.N[i]? = some x) (hx : Loc X.env.scope x) (hl : pin.lets i) (he : PE X e (tE X.K Ga pin Wd m)) (ho : PIp X op (ipI f))
    (hf : X.fn x = true ∨ X.env.scope.names.lookup x = some .local := by first | exact .inl rfl | exact .inr rfl | assumption) : PS X (.AugAssign (.Name x pos') op e pos) (tS X.K Ga pin Wd (Mini.sAug i (intOp f) m)) := by
  refine PS.imp (ps_aug hN hi hx he ho hf) fun D sg H ⟨ph, h, r, s, x⟩ => ?_
  unfold Mini.sAug at x
  cases e0 : r[i]? with
  | none => rw [e0] at x; exact x.elim
  | some q =>
    cases q with
    | none => rw [e0] at x; exact x.elim
    | some w =>
      rw [e0] at x
      obtain ⟨v1, v2⟩ := s.val i w e0
      refine ⟨_, v1, ph, h, r, s, ?_⟩
      refine st_of (k := fun y h1 => match intOp f w y h1 with | .ok z h2 => .ok .nx (r.set i (some z)) h2 | _ => .bad) (D := D) s ?_ fun y h1 ph1 H1 b g S rl x1 => ?_
      · cases e : m r h <;> (rw [e] at x; exact x)
      · rw [rl.1]
        cases w with
        | int j =>
          cases y with
          | int k => exact ⟨j, k, rfl, rfl, x1 ph1 _ H1 (Grow.refl _ _) (S.put (w := .int (f j k)) trivial hl)⟩
          | _ => exact x1.elim
        | _ => exact x1.elim
theorem s_asg2 {i j : Nat} {t1 t2 : Expr} (he : PE X e (tE X.K Ga pin Wd m)) (h1 : PG X t1 (gName i)) (h2 : PG X t2 (gName j)) (hl1 : pin.lets i) (hl2 : pin.lets j)
    (ha : (assignEach [t1, t2] X.env).map (·.2) = [assign t1 X.env, assign t2 X.env] := by rfl) (hw : swappedStores [t1, t2] e X.env = pure none := by rfl) : PS X (.Assign [t1, t2] e pos) (tS X.K Ga pin Wd (sAsg2 m i j)) := by
  refine PS.imp (ps_asg2 he h1 h2 ha hw) fun D sg H ⟨ph, h, r, s, x⟩ => ⟨ph, h, r, s, ?_⟩
  refine st_of (k := fun w h1 => .ok .nx ((r.set i (some w)).set j (some w)) h1) (D := D) s ?_ fun w h1 ph1 H1 b g1 S rl x1 => ?_
  · unfold sAsg2 at x
    cases e : m r h <;> (rw [e] at x; exact x)
  · rw [rl.1]
    exact x1 ph1 _ H1 (Grow.refl _ _) ((S.put rl.2 hl1).put rl.2 hl2)
/-! ### while -/
theorem s_while {k : Nat} (hp : PassesOwn (model X.prog X.w) X.A X.env X.xe) (hc : PT X c (tT X.K Ga pin Wd ta)) (hb : PSs X body (tS X.K Ga pin Wd sb)) : PS X (.While c body [] pos) (tS X.K Ga pin Wd (Mini.sWhile ta sb k)) := by
  refine PS.imp (ps_while hp hc hb) fun D sg H ⟨ph, h, r, s, x⟩ => ?_
  refine ⟨fun n sg H => ∃ ph h r, SR X.K Ga pin ph h r sg H ∧ rdS X.K Ga pin Wd ph h (Mini.sWhile ta sb n r h) D, ⟨k, ph, h, r, s, x⟩, fun n sg H ⟨ph, h, r, s, x⟩ => ?_⟩
  cases n with
  | zero => exact x.elim
  | succ n =>
    refine ⟨ph, h, r, s, ?_⟩
    refine st_of (k := fun c h1 => if c = true then (match sb r h1 with
      | .ok .nx r2 h2 => Mini.sWhile ta sb n r2 h2
      | .ok .ct r2 h2 => Mini.sWhile ta sb n r2 h2
      | .ok .bk r2 h2 => .ok .nx r2 h2
      | x => x) else .ok .nx r h1) (D := D) s ?_ fun k h1 ph1 H1 b g S rl x1 => ?_
    · simp only [Mini.sWhile] at x
      cases e : ta r h with
      | ok k h1 => cases k <;> (rw [e] at x; exact x)
      | exc c d h1 => rw [e] at x; exact x
      | bad => rw [e] at x; exact x
    · rw [show b = k from rl]
      cases k with
      | false =>
        rw [if_neg (fun z => nomatch z)]
        exact x1 ph1 sg H1 (Grow.refl _ _) S
      | true =>
        rw [if_pos rfl]
        rw [if_pos rfl] at x1
        refine ⟨fun sg H => ∃ ph h r, SR X.K Ga pin ph h r sg H ∧ rdS X.K Ga pin Wd ph h (Mini.sWhile ta sb n r h) D, fun sg' H' y => ⟨n, Nat.lt_succ_self n, y⟩, ph1, h1, r, S, ?_⟩
        cases e : sb r h1 with
        | ok f r2 h2 =>
          rw [e] at x1
          cases f with
          | nx => exact fun ph2 sg2 H2 g2 S2 => ⟨ph2, h2, r2, S2, rdS.base g2 x1⟩
          | ct => exact fun ph2 sg2 H2 g2 S2 => ⟨ph2, h2, r2, S2, rdS.base g2 x1⟩
          | bk => exact x1
          | rt w => exact x1
        | exc c d r2 h2 => rw [e] at x1; exact x1
        | bad => rw [e] at x1; exact x1
/-! ### for -/
def SrcAt (K : PySem.W.Frag) (J : It) (src : Mini.Src) (ph : Nat → Addr) (n : Nat) : Prop := match src with
  | .lst a => a < n ∧ J = Itl K (ph a)
  | .tup a => a < n ∧ J = Itt K (ph a)
  | .rng lo k => J = Itr lo k
theorem SrcAt.grow {K : PySem.W.Frag} {J : It} {src : Mini.Src} {ph1 : Nat → Addr} {h1 : MH} (g : Grow ph h ph1 h1) (q : SrcAt K J src ph h.length) : SrcAt K J src ph1 h1.length := by
  cases src with
  | lst a => exact ⟨Nat.lt_of_lt_of_le q.1 g.le, by rw [g.eq a q.1]; exact q.2⟩
  | tup a => exact ⟨Nat.lt_of_lt_of_le q.1 g.le, by rw [g.eq a q.1]; exact q.2⟩
  | rng lo k => exact q
theorem lstAt_ok {K : PySem.W.Frag} {n : Nat} {xs : List Mini.W} (R : HR K Ga ph h H) (e : lstAt h n = some xs) : SqL K H (ph n) (xs.map (vW ph)) ∧ ∀ x ∈ xs, wf h.length x := by
  unfold lstAt at e
  cases e1 : h[n]? with
  | none => rw [e1] at e; cases e
  | some c =>
    have q := R.cells n c e1
    cases c with
    | lst ys => rw [e1] at e; cases e; exact ⟨.inl (.inl q.1), q.2⟩
    | fz ys => rw [e1] at e; cases e; obtain ⟨⟨o, q1⟩, q2⟩ := q; exact ⟨.inl (.inr ⟨o, q1⟩), q2⟩
    | cl ys => rw [e1] at e; cases e; exact ⟨.inr q.1, q.2⟩
    | _ => rw [e1] at e; cases e
theorem tupAt_ok {K : PySem.W.Frag} {n : Nat} {xs : List Mini.W} (R : HR K Ga ph h H) (e : tupAt h n = some xs) : SqT K H (ph n) (xs.map (vW ph)) ∧ ∀ x ∈ xs, wf h.length x := by
  unfold tupAt at e
  cases e1 : h[n]? with
  | none => rw [e1] at e; cases e
  | some c =>
    have q := R.cells n c e1
    cases c with
    | tup ys => rw [e1] at e; cases e; exact ⟨.inl (.inl q.1), q.2⟩
    | ct ys => rw [e1] at e; cases e; exact ⟨.inr q.1, q.2⟩
    | _ => rw [e1] at e; cases e
theorem len_of {n : Nat} {xs : List Mini.W} (e : seqAt h n = some xs) : n < h.length := by
  unfold seqAt at e
  cases e1 : h[n]? with
  | none => rw [e1] at e; cases e
  | some c => exact (List.getElem?_eq_some_iff.mp e1).1
theorem map_none {xs : List Mini.W} {i : Nat} (e : xs[i]? = none) : (xs.map (vW ph)).length ≤ i := by
  rw [List.length_map]
  exact List.getElem?_eq_none_iff.mp e
theorem map_some {xs : List Mini.W} {i : Nat} {w : Mini.W} (e : xs[i]? = some w) : (xs.map (vW ph))[i]? = some (vW ph w) := by rw [List.getElem?_map, e] <;> rfl
theorem src_stop {K : PySem.W.Frag} {J : It} {src : Mini.Src} {i : Nat} (R : HR K Ga ph h H) (q : SrcAt K J src ph h.length) (e : src.at i h = some none) : J.stop i H := by
  cases src with
  | lst a =>
    obtain ⟨q1, rfl⟩ := q
    simp only [Mini.Src.at] at e
    cases e1 : lstAt h a with
    | none => rw [e1] at e; cases e
    | some xs => rw [e1] at e; exact ⟨_, (lstAt_ok R e1).1, map_none (Option.some.inj e)⟩
  | tup a =>
    obtain ⟨q1, rfl⟩ := q
    simp only [Mini.Src.at] at e
    cases e1 : tupAt h a with
    | none => rw [e1] at e; cases e
    | some xs => rw [e1] at e; exact ⟨_, (tupAt_ok R e1).1, map_none (Option.some.inj e)⟩
  | rng lo k =>
    obtain rfl : J = Itr lo k := q
    simp only [Mini.Src.at] at e
    by_cases c : i < k
    · rw [if_pos c] at e; cases e
    · exact Nat.le_of_not_lt c
theorem src_go {J : It} {src : Mini.Src} {i : Nat} {w : Mini.W} (R : HR X.K Ga ph h H) (q : SrcAt X.K J src ph h.length) (e : src.at i h = some (some w)) : J.go i H ∧ wf h.length w ∧ ∀ x H', J.yld i H x H' → H' = H ∧ x = vW ph w := by
  cases src with
  | lst a =>
    obtain ⟨q1, rfl⟩ := q
    simp only [Mini.Src.at] at e
    cases e1 : lstAt h a with
    | none => rw [e1] at e; cases e
    | some xs =>
      rw [e1] at e
      have e' : xs[i]? = some w := Option.some.inj e
      obtain ⟨z1, z2⟩ := lstAt_ok R e1
      exact ⟨⟨_, _, z1, map_some e'⟩, z2 w (List.mem_of_getElem? e'), fun x H' y => ⟨y.1, Option.some.inj ((y.2 _ z1).symm.trans (map_some e'))⟩⟩
  | tup a =>
    obtain ⟨q1, rfl⟩ := q
    simp only [Mini.Src.at] at e
    cases e1 : tupAt h a with
    | none => rw [e1] at e; cases e
    | some xs =>
      rw [e1] at e
      have e' : xs[i]? = some w := Option.some.inj e
      obtain ⟨z1, z2⟩ := tupAt_ok R e1
      exact ⟨⟨_, _, z1, map_some e'⟩, z2 w (List.mem_of_getElem? e'), fun x H' y => ⟨y.1, Option.some.inj ((y.2 _ z1).symm.trans (map_some e'))⟩⟩
  | rng lo k =>
    obtain rfl : J = Itr lo k := q
    simp only [Mini.Src.at] at e
    by_cases c : i < k
    · rw [if_pos c] at e
      cases e
      exact ⟨c, trivial, fun x H' y => y⟩
    · rw [if_neg c] at e; cases e
def relI (K : PySem.W.Frag) (ph : Nat → Addr) (n : Nat) (q : Mini.Src × Nat) (J : It) : Prop := SrcAt K J q.1 ph n
def tI (K : PySem.W.Frag) (Ga : Nat → Addr) (pin : Pin) (Wd : WX) (mi : Mini.I) : TI := fun sg H R => ∃ ph h r, SR K Ga pin ph h r sg H ∧ rd K Ga Wd (relI K) ph h sg (mi r h) R
theorem PI.imp {t t' : TI} (p : PI X tg iter t) (k : ∀ sg H R, t' sg H R → t sg H R) : PI X tg iter t' := ⟨fun pins s sg H R I h => p.run pins s sg H R I (k sg H R h)⟩
theorem PI.or {t t' : TI} (p : PI X tg iter t) (p' : PI X tg iter t') : PI X tg iter (fun sg H R => t sg H R ∨ t' sg H R) := ⟨fun pins s sg H R I h => h.elim (p.run pins s sg H R I) (p'.run pins s sg H R I)⟩
theorem i_seq (he : PE X iter (tE X.K Ga pin Wd m)) : PI X tg iter (tI X.K Ga pin Wd (iSeq m)) := by
  refine PI.imp (PI.or (pi_list he) (pi_tup he)) fun sg H R ⟨ph, h, r, s, x⟩ => ?_
  have x' : rd X.K Ga Wd (relI X.K) ph h sg ((m r h).bind fun w h1 => match w with
    | .ref a => match lstAt h1 a with
      | some xs => .ok (.lst a, xs.length + 1) h1
      | none => match tupAt h1 a with
        | some xs => .ok (.tup a, xs.length + 1) h1
        | none => .bad
    | _ => .bad) R := x
  cases e : m r h with
  | exc c d h1 =>
    rw [e] at x'
    exact .inl ⟨ph, h, r, s, by rw [e]; exact x'⟩
  | bad => rw [e] at x'; exact x'.elim
  | ok w h1 =>
    rw [e] at x'
    cases w with
    | ref a =>
      have x2 : rd X.K Ga Wd (relI X.K) ph h sg (match lstAt h1 a with
        | some xs => .ok (.lst a, xs.length + 1) h1
        | none => match tupAt h1 a with
          | some xs => .ok (.tup a, xs.length + 1) h1
          | none => .bad) R := x'
      cases e1 : lstAt h1 a with
      | some xs =>
        rw [e1] at x2
        refine .inl ⟨ph, h, r, s, ?_⟩
        rw [e]
        intro ph1 H1 b1 g1 R1 rl
        exact ⟨ph1 a, rl.1, ⟨_, (lstAt_ok R1 e1).1⟩, x2 ph1 H1 _ g1 R1 ⟨rl.2, rfl⟩⟩
      | none =>
        rw [e1] at x2
        have x3 : rd X.K Ga Wd (relI X.K) ph h sg (match tupAt h1 a with
          | some xs => .ok (.tup a, xs.length + 1) h1
          | none => .bad) R := x2
        cases e2 : tupAt h1 a with
        | none => rw [e2] at x3; exact x3.elim
        | some xs =>
          rw [e2] at x3
          refine .inr ⟨ph, h, r, s, ?_⟩
          rw [e]
          intro ph1 H1 b1 g1 R1 rl
          exact ⟨ph1 a, rl.1, ⟨_, (tupAt_ok R1 e2).1⟩, x3 ph1 H1 _ g1 R1 ⟨rl.2, rfl⟩⟩
    | _ => exact x'.elim
theorem rOk_ok {i : Int} (q : rOk i = true) : -(2 ^ 62) ≤ i ∧ i < 2 ^ 62 := by
  unfold rOk at q
  rw [Bool.and_eq_true, decide_eq_true_eq, decide_eq_true_eq] at q
  omega
theorem i_rng1 {p pos : Pos} (hg : Gl X "range") (hm : X.mg "range" = none) (ha : PE X a (tE X.K Ga pin Wd m)) (hs : starEach [a] X.env = [(false, eval a X.env)] := by rfl) : PI X tg (.Call (.Name "range" p) [a] [] pos) (tI X.K Ga pin Wd (Mini.iRng1 m)) := by
  refine PI.imp (pi_range1 hg hm (pa_cons ha pa_nil hs) hs) fun sg H R ⟨ph, h, r, s, x⟩ => ?_
  refine ⟨ph, h, r, s, x.bind fun w h1 _ ph1 H1 b1 g1 R1 ⟨eb1, w1⟩ x1 => ?_⟩
  cases w with
  | int n =>
    by_cases c : rOk n = true
    · have x2 : rd X.K Ga Wd (relI X.K) ph1 h1 sg (if rOk n = true then .ok (.rng 0 n.toNat, n.toNat + 1) h1 else .bad) R := x1
      rw [if_pos c] at x2
      exact ⟨n, by rw [eb1]; rfl, (rOk_ok c).1, (rOk_ok c).2, x2 ph1 H1 _ (Grow.refl _ _) R1 rfl⟩
    · have x2 : rd X.K Ga Wd (relI X.K) ph1 h1 sg (if rOk n = true then .ok (.rng 0 n.toNat, n.toNat + 1) h1 else .bad) R := x1
      rw [if_neg c] at x2
      exact x2.elim
  | _ => exact x1.elim
theorem i_rng2 {p pos : Pos} (hg : Gl X "range") (hm : X.mg "range" = none) (ha : PE X a (tE X.K Ga pin Wd ma)) (hb : PE X b (tE X.K Ga pin Wd mb)) (hs : starEach [a, b] X.env = [(false, eval a X.env), (false, eval b X.env)] := by rfl) (hs2 : starEach [b] X.env = [(false, eval b X.env)] := by rfl) :
    PI X tg (.Call (.Name "range" p) [a, b] [] pos) (tI X.K Ga pin Wd (Mini.iRng2 ma mb)) := by
  refine PI.imp (pi_range2 hg hm (pa_cons ha (pa_cons hb pa_nil hs2) (by rw [hs, hs2])) hs hs2) fun sg H R ⟨ph, h, r, s, x⟩ => ?_
  refine ⟨ph, h, r, s, x.bind fun w h1 _ ph1 H1 b1 g1 R1 ⟨eb1, w1⟩ x1 => ?_⟩
  refine ⟨ph1, h1, r, s.grow g1 R1, x1.bind fun u h2 _ ph2 H2 b2 g2 R2 ⟨eb2, w2⟩ x2 => ?_⟩
  cases w with
  | int n =>
    cases u with
    | int k =>
      have x3 : rd X.K Ga Wd (relI X.K) ph2 h2 sg (if rOk n = true ∧ rOk k = true then .ok (.rng n (k - n).toNat, (k - n).toNat + 1) h2 else .bad) R := x2
      by_cases c : rOk n = true ∧ rOk k = true
      · rw [if_pos c] at x3
        exact ⟨n, k, by rw [eb1, eb2]; rfl, ⟨(rOk_ok c.1).1, (rOk_ok c.1).2, (rOk_ok c.2).1, (rOk_ok c.2).2⟩, x3 ph2 H2 _ (Grow.refl _ _) R2 rfl⟩
      · rw [if_neg c] at x3
        exact x3.elim
    | _ => exact x2.elim
  | _ => cases u <;> exact x2.elim
theorem s_for {is : List Nat} {mi : Mini.I} {g : Mini.G} (hp : PassesOwn (model X.prog X.w) X.A X.env X.xe) (hc : X.calm = true) (hi : PI X tg iter (tI X.K Ga pin Wd mi)) (hg : Tg X Ga pin is tg g) (hb : PSs X body (tS X.K Ga pin Wd sb))
    (hs : ∀ x, foldedSetIterable iter X.env x = pure x := by intro _; rfl) : PS X (.For tg iter body [] pos) (tS X.K Ga pin Wd (Mini.sFor mi g sb)) := by
  obtain ⟨t, p, z⟩ := hg.ex
  refine PS.imp (ps_for hp hc hi p hb hs) fun D sg H ⟨ph, h, r, s, x⟩ => ⟨ph, h, r, s, ?_⟩
  refine st_of (k := fun q h1 => sTurns q.1 g sb q.2 0 r h1) (D := D) s ?_ fun q h1 ph1 H1 J g1 S rl x1 => ?_
  · unfold Mini.sFor at x
    cases e : mi r h <;> (rw [e] at x; exact x)
  · obtain ⟨src, k⟩ := q
    refine ⟨fun i n sg H => ∃ ph h r, SR X.K Ga pin ph h r sg H ∧ SrcAt X.K J src ph h.length ∧ rdS X.K Ga pin Wd ph h (sTurns src g sb n i r h) D, ⟨k, ph1, h1, r, S, rl, x1⟩, fun i n sg H ⟨ph, h, r, s, sr, x⟩ => ?_⟩
    cases n with
    | zero => exact x.elim
    | succ n =>
      simp only [sTurns] at x
      cases e : src.at i h with
      | none => rw [e] at x; exact x.elim
      | some q =>
        rw [e] at x
        cases q with
        | none => exact .inl ⟨src_stop s.hr sr e, x ph sg H (Grow.refl _ _) s⟩
        | some w =>
          obtain ⟨y1, y2, y3⟩ := src_go s.hr sr e
          refine .inr ⟨y1, fun sg H => ∃ ph h r, SR X.K Ga pin ph h r sg H ∧ SrcAt X.K J src ph h.length ∧ rdS X.K Ga pin Wd ph h (sTurns src g sb n (i + 1) r h) D, fun sg' H' y => ⟨n, Nat.lt_succ_self n, y⟩, fun v H' y => ?_⟩
          obtain ⟨rfl, rfl⟩ := y3 v H' y
          refine z ph h r sg H' w _ s y2 ?_
          simp only [] at x
          cases e2 : g w r h with
          | exc c d h2 => rw [e2] at x; exact x.elim
          | bad => rw [e2] at x; exact x.elim
          | ok r1 h1 =>
            rw [e2] at x
            intro ph2 sg2 H2 g2 S2 _
            refine ⟨ph2, h1, r1, S2, ?_⟩
            simp only [] at x
            have x2 := rdS.base g2 x
            cases e3 : sb r1 h1 with
            | ok f r3 h3 =>
              rw [e3] at x2
              cases f with
              | nx => exact fun ph4 sg4 H4 g4 S4 => ⟨ph4, h3, r3, S4, (sr.grow g2).grow g4, rdS.base g4 x2⟩
              | ct => exact fun ph4 sg4 H4 g4 S4 => ⟨ph4, h3, r3, S4, (sr.grow g2).grow g4, rdS.base g4 x2⟩
              | bk => exact x2
              | rt u => exact x2
            | exc c d r3 h3 => rw [e3] at x2; exact x2
            | bad => rw [e3] at x2; exact x2
end
end Br
set_option Elab.async false
set_option autoImplicit false
set_option linter.all false
set_option maxRecDepth 100000
set_option maxHeartbeats 1100000
namespace Br
open PySem PySem.Spec PyProof.Rows L2 Mini
section
variable {X : Cx} {Ga : Nat → Addr} {pin : Pin} {Wd : WX} {ph : Nat → Addr} {h : MH} {r : Mini.Env} {sg : L2.St} {H : Hp} {a b c e tg iter o i : Expr} {es rest : List Expr} {pos : Pos} {ma mb mc m mo mi : Mini.E} {ta tb : Mini.T} {ms : Mini.A} {st : Stmt} {sts body orelse : List Stmt} {sa sb : Mini.S} {α β : Type}
abbrev W0 : WX := fun _ _ _ _ => False
/-- a result that is one of Mini's, whatever stood ahead -/
theorem rd.ok1 {K : PySem.W.Frag} {rel : (Nat → Addr) → Nat → α → β → Prop} {w : α} {h1 : MH} {Q : β → Hp → Prop} (x : rd K Ga Wd rel ph h sg (.ok w h1) Q) : ∀ ph' H' b, Grow ph h ph' h1 → HR K Ga ph' h1 H' → rel ph' h1.length w b → Q b H' := x
/-! ### a list's append -/
theorem e_app {p q : Pos} (ho : PE X o (tE X.K Ga pin Wd mo)) (he : PE X e (tE X.K Ga pin Wd m)) (hbase : attributeBase o "append" X.env (eval o X.env) = eval o X.env := by rfl)
    (hfew : ((backTo q (starEach [e] X.env)).all (fun x => !x.1) && (backToKw q (keywordEach [] X.env)).all (fun x => x.1.isSome)
      && decide (([e] : List Expr).length + ([] : List Keyword).length + (if ([] : List Keyword).isEmpty then 0 else 1) < 30))
      = true := by rfl)
    (hline : (p.endLine == q.line) = true := by rfl) (hs : starEach (e :: []) X.env = (false, eval e X.env) :: starEach [] X.env := by rfl) (hplain : (backTo q (starEach [] X.env)).any (·.1) = false := by rfl) :
    PE X (.Call (.Attribute o "append" p) [e] [] q) (tE X.K Ga pin Wd (eApp mo m)) := by
  refine PE.imp (pe_bm PySem.F.plainAttrs_list PySem.F.slot_list_append PySem.F.type_list_append mt_append ho (pa_cons he pa_nil hs) hbase hfew hline hs hplain) fun sg H Q ⟨ph, h, r, s, x⟩ => ?_
  refine ⟨ph, h, r, s, x.bind fun u h1 _ ph1 H1 b1 g1 R1 ⟨eb1, w1⟩ x1 => ?_⟩
  by_cases c : isLst u h1 = true
  · rw [if_pos c] at x1
    refine ⟨?_, ph1, h1, r, s.grow g1 R1, x1.bind fun y h2 _ ph2 H2 b2 g2 R2 ⟨eb2, w2⟩ x2 => ?_⟩
    · rw [eb1]
      cases u with
      | ref n =>
        simp only [isLst] at c
        cases e1 : h1[n]? with
        | none => rw [e1] at c; cases c
        | some cl =>
          rw [e1] at c
          cases cl with
          | lst xs => exact .inl ⟨rfl, _, .inl (.inl (R1.cells n _ e1).1)⟩
          | _ => cases c
      | _ => cases c
    · unfold app at x2
      cases u with
      | ref n =>
        simp only [] at x2
        cases e1 : h2[n]? with
        | none => rw [e1] at x2; exact x2.elim
        | some cl =>
          rw [e1] at x2
          cases cl with
          | lst xs =>
            simp only [] at x2
            by_cases c2 : xs.length < 10000000
            · rw [if_pos c2] at x2
              obtain ⟨z1, z2⟩ := R2.cells n _ e1
              refine ⟨ph2 n, xs.map (vW ph2), vW ph2 y, ?_, by rw [eb2], z1, by rw [List.length_map]; exact m_line1 c2, ?_⟩
              · rw [eb1]
                exact (g2.v w1).symm
              · have em : (xs ++ [y]).map (vW ph2) = xs.map (vW ph2) ++ [vW ph2 y] := by rw [List.map_append]; rfl
                have zw : ∀ x ∈ xs ++ [y], wf h2.length x := fun x hx => by
                  rcases (List.mem_append.mp hx : _ ∨ _) with hx | hx
                  · exact z2 x hx
                  · rw [List.mem_singleton.mp hx]; exact w2
                have R3 : HR X.K Ga ph2 (h2.set n (.lst (xs ++ [y]))) (upd H2 (ph2 n) (.lst (xs.map (vW ph2) ++ [vW ph2 y]))) := R2.set e1 trivial trivial ⟨by rw [em]; exact upd_same, zw⟩
                exact x2.ok1 ph2 _ _ Grow.set R3 ⟨rfl, trivial⟩
            · rw [if_neg c2] at x2
              exact x2.elim
          | _ => exact x2.elim
      | _ => exact x2.elim
  · rw [if_neg c] at x1
    exact x1.elim
/-! ### slices -/
def relO_ (_ : Nat → Addr) (_ : Nat) (x : Option Int) (y : Option Int) : Prop := y = x
def tO_ (K : PySem.W.Frag) (Ga : Nat → Addr) (pin : Pin) (Wd : WX) (m : Mini.Env → MH → Mini.R (Option Int)) : TO := fun sg H Q => ∃ ph h r, SR K Ga pin ph h r sg H ∧ rd K Ga Wd relO_ ph h sg (m r h) Q
theorem PO.imp {x : Option Expr} {t t' : TO} (p : PO X x t) (k : ∀ sg H Q, t' sg H Q → t sg H Q) : PO X x t' := ⟨fun pins s sg H Q I h => p.run pins s sg H Q I (k sg H Q h)⟩
theorem o_no : PO X none (tO_ X.K Ga pin Wd oNo) := PO.imp po_none fun sg H Q ⟨ph, h, r, s, x⟩ => x ph H _ (Grow.refl _ _) s.hr rfl
theorem o_so (he : PE X e (tE X.K Ga pin Wd m)) : PO X (some e) (tO_ X.K Ga pin Wd (oSo m)) := by
  refine PO.imp (po_some he) fun sg H Q ⟨ph, h, r, s, x⟩ => ?_
  refine ⟨ph, h, r, s, x.bind fun w h1 _ ph1 H1 b1 g1 R1 ⟨eb1, w1⟩ x1 => ?_⟩
  cases w with
  | int i => exact ⟨i, eb1, x1 ph1 H1 _ (Grow.refl _ _) R1 rfl⟩
  | _ => exact x1.elim
theorem sIx_eq {n d : Nat} {o : Option Int} : Mini.sIx n d o = HT.sIx n d o := by cases o <;> rfl
theorem cut_eq {xs : List Mini.W} {l u : Option Int} : (cut xs l u).map (vW ph) = cutV (xs.map (vW ph)) l u := by
  unfold cut cutV
  rw [List.map_take, List.map_drop, List.length_map, sIx_eq, sIx_eq]
theorem cut_wf {n : Nat} {xs : List Mini.W} {l u : Option Int} (q : ∀ x ∈ xs, wf n x) : ∀ x ∈ cut xs l u, wf n x := fun x hx => q x (List.mem_of_mem_drop (List.mem_of_mem_take hx))
def rSlA (K : PySem.W.Frag) : V → Option Int → Option Int → Hp → VK → Prop := fun x lo hi H Q => rSlL K x lo hi H Q ∨ rSlT K x lo hi H Q
theorem slice_ok {K : PySem.W.Frag} {w : Mini.W} {l u : Option Int} {Q : VK} (R : HR K Ga ph h H) (x : rd K Ga Wd relW ph h sg (slice w l u h) Q) : rSlA K (vW ph w) l u H Q := by
  unfold slice at x
  cases w with
  | ref n =>
    simp only [] at x
    cases e1 : h[n]? with
    | none => rw [e1] at x; exact x.elim
    | some cl =>
      have y := R.cells n cl e1
      rw [e1] at x
      cases cl with
      | lst xs => exact .inl ⟨ph n, _, rfl, .inl (.inl y.1), fun p hp => by rw [← cut_eq]; exact rd_new (o := fun _ => .lst ((cut xs l u).map (vW ph))) x R hp (at_lst (cut_wf y.2))⟩
      | fz xs => obtain ⟨⟨o, y1⟩, y2⟩ := y; exact .inl ⟨ph n, _, rfl, .inl (.inr ⟨o, y1⟩), fun p hp => by rw [← cut_eq]; exact rd_new (o := fun _ => .lst ((cut xs l u).map (vW ph))) x R hp (at_lst (cut_wf y2))⟩
      | cl xs => exact .inl ⟨ph n, _, rfl, .inr y.1, fun p hp => by rw [← cut_eq]; exact rd_new (o := fun _ => .lst ((cut xs l u).map (vW ph))) x R hp (at_lst (cut_wf y.2))⟩
      | tup xs =>
        simp only [] at x
        by_cases c : Mini.sIx xs.length 0 l = 0 ∧ Mini.sIx xs.length xs.length u = xs.length
        · rw [if_pos c] at x; exact x.elim
        · rw [if_neg c] at x
          exact .inr ⟨ph n, _, rfl, .inl (.inl y.1), by rw [List.length_map, ← sIx_eq, ← sIx_eq]; exact c, fun p hp => by rw [← cut_eq]; exact rd_new (o := fun _ => .tup ((cut xs l u).map (vW ph))) x R hp (at_tup (cut_wf y.2))⟩
      | ct xs =>
        simp only [] at x
        by_cases c : Mini.sIx xs.length 0 l = 0 ∧ Mini.sIx xs.length xs.length u = xs.length
        · rw [if_pos c] at x; exact x.elim
        · rw [if_neg c] at x
          exact .inr ⟨ph n, _, rfl, .inr y.1, by rw [List.length_map, ← sIx_eq, ← sIx_eq]; exact c, fun p hp => by rw [← cut_eq]; exact rd_new (o := fun _ => .tup ((cut xs l u).map (vW ph))) x R hp (at_tup (cut_wf y.2))⟩
      | _ => exact x.elim
  | _ => exact x.elim
theorem e_sl {lo hi : Option Expr} {p2 : Pos} {ml mu : Mini.Env → MH → Mini.R (Option Int)} (he : PE X e (tE X.K Ga pin Wd m)) (hl : PO X lo (tO_ X.K Ga pin Wd ml)) (hu : PO X hi (tO_ X.K Ga pin Wd mu)) :
    PE X (.Subscript e (.Slice lo hi none p2) pos) (tE X.K Ga pin Wd (eSl m ml mu)) := by
  refine PE.imp (pe_slice (SlR.or sl_list sl_tup) he hl hu) fun sg H Q ⟨ph, h, r, s, x⟩ => ?_
  refine ⟨ph, h, r, s, x.bind fun w h1 _ ph1 H1 b1 g1 R1 ⟨eb1, w1⟩ x1 => ?_⟩
  refine ⟨ph1, h1, r, s.grow g1 R1, x1.bind fun l h2 _ ph2 H2 b2 g2 R2 eb2 x2 => ?_⟩
  refine ⟨ph2, h2, r, (s.grow g1 R1).grow g2 R2, x2.bind fun u h3 _ ph3 H3 b3 g3 R3 eb3 x3 => ?_⟩
  rw [eb1, show b2 = l from eb2, show b3 = u from eb3, ← (g2.trans g3).v w1]
  exact slice_ok R3 x3
/-! ### d[k] = e -/
theorem putD_eq {kvs : List (Sum Int Str × Mini.W)} {k : Sum Int Str} {w : Mini.W} : kvV ph (putD kvs k w) = putK (kvV ph kvs) k (vW ph w) := by
  unfold putD putK
  have e : ((kvV ph kvs).any fun kv => decide (kv.1 = k)) = (kvs.any fun kv => decide (kv.1 = k)) := by
    unfold kvV
    rw [List.any_map]
    rfl
  rw [e]
  by_cases c : (kvs.any fun kv => decide (kv.1 = k)) = true
  · rw [if_pos c, if_pos c]
    unfold kvV
    rw [List.map_map]
    rw [List.map_map]
    refine List.map_congr_left (fun x _ => ?_)
    show (((if x.1 = k then (x.1, w) else x) : Sum Int Str × Mini.W).1, vW ph ((if x.1 = k then (x.1, w) else x) : Sum Int Str × Mini.W).2) = if x.1 = k then (x.1, vW ph w) else (x.1, vW ph x.2)
    by_cases c2 : x.1 = k
    · rw [if_pos c2, if_pos c2]
    · rw [if_neg c2, if_neg c2]
  · rw [if_neg c, if_neg c]
    unfold kvV
    rw [List.map_append]
    rfl
theorem putD_wf {n : Nat} {kvs : List (Sum Int Str × Mini.W)} {k : Sum Int Str} {w : Mini.W} (q : ∀ x ∈ kvs, wf n x.2) (hw : wf n w) : ∀ x ∈ putD kvs k w, wf n x.2 := fun x hx => by
  unfold putD at hx
  split at hx
  · obtain ⟨y, hy, rfl⟩ := List.mem_map.mp hx
    by_cases c : y.1 = k
    · rw [if_pos c]; exact hw
    · rw [if_neg c]; exact q y hy
  · rcases (List.mem_append.mp hx : _ ∨ _) with hx | hx
    · exact q x hx
    · rw [List.mem_singleton.mp hx]; exact hw
theorem keyOf_ok {w : Mini.W} {q : Sum Int Str} (e : keyOf w = some q) : vW ph w = kV q := by
  cases w <;> first | (cases e; done) | (cases e; rfl)
theorem s_dput {d k : Expr} {md mk me : Mini.E} {pos' : Pos} (hu : X.A.units + 1 < cLine) (hd : PE X d (tE X.K Ga pin Wd md)) (hk : PE X k (tE X.K Ga pin Wd mk)) (he : PE X e (tE X.K Ga pin Wd me)) (hs : swapsWith e (some (.Subscript d k pos')) pos.line X.env = pure false := by rfl) :
    PS X (.Assign [.Subscript d k pos'] e pos) (tS X.K Ga pin Wd (sDput md mk me)) := by
  refine PS.imp (ps_dput hu hd hk he hs) fun D sg H ⟨ph, h, r, s, x⟩ => ?_
  have y : rd X.K Ga Wd (fun _ _ (_ : Unit) (_ : Unit) => True) ph h sg ((me r h).bind fun w h1 => (md r h1).bind fun x h2 => (mk r h2).bind fun y h3 => Mini.dput w x y h3) (fun _ H' => D.nx sg H') := by
    refine st_of (k := fun _ h1 => .ok .nx r h1) (D := D) s ?_ fun _ h1 ph1 H1 b g S rl x1 => x1 ph1 sg H1 (Grow.refl _ _) S
    unfold sDput at x
    cases e : ((me r h).bind fun w h1 => (md r h1).bind fun x h2 => (mk r h2).bind fun y h3 => Mini.dput w x y h3) <;> (rw [e] at x; exact x)
  refine ⟨ph, h, r, s, y.bind fun w h1 _ ph1 H1 b1 g1 R1 ⟨eb1, w1⟩ x1 => ?_⟩
  refine ⟨ph1, h1, r, s.grow g1 R1, x1.bind fun u h2 _ ph2 H2 b2 g2 R2 ⟨eb2, w2⟩ x2 => ?_⟩
  refine ⟨ph2, h2, r, (s.grow g1 R1).grow g2 R2, x2.bind fun k h3 _ ph3 H3 b3 g3 R3 ⟨eb3, w3⟩ x3 => ?_⟩
  unfold Mini.dput at x3
  cases u with
  | ref n =>
    simp only [] at x3
    cases e1 : h3[n]? with
    | none => rw [e1] at x3; exact x3.elim
    | some cl =>
      rw [e1] at x3
      cases cl with
      | dic kvs =>
        simp only [] at x3
        cases e2 : keyOf k with
        | none => rw [e2] at x3; exact x3.elim
        | some q =>
          rw [e2] at x3
          simp only [] at x3
          by_cases c : kvs.length < 1000000
          · rw [if_pos c] at x3
            obtain ⟨z1, z2⟩ := R3.cells n _ e1
            have w1' : wf h3.length w := w1.mono (g2.trans g3).le
            have R4 : HR X.K Ga ph3 (h3.set n (.dic (putD kvs q w))) (upd H3 (ph3 n) (.dK (putK (kvV ph3 kvs) q (vW ph3 w)))) := R3.set e1 trivial trivial ⟨by rw [putD_eq]; exact upd_same, putD_wf z2 w1'⟩
            refine ⟨ph3 n, _, ?_, .inl ⟨kvV ph3 kvs, q, z1, ?_, ?_, rfl⟩, ?_⟩
            · rw [eb2]; exact (g3.v w2).symm
            · rw [eb3]; exact keyOf_ok e2
            · show (kvV ph3 kvs).length < sizeLine
              unfold kvV
              rw [List.length_map]
              exact m_line1 (Nat.lt_of_lt_of_le c (by decide))
            · rw [eb1, ← (g2.trans g3).v w1]
              exact x3.ok1 ph3 _ () Grow.set R4 trivial
          · rw [if_neg c] at x3; exact x3.elim
      | _ => exact x3.elim
  | _ => exact x3.elim
end
end Br
set_option Elab.async false
set_option autoImplicit false
set_option linter.all false
set_option maxRecDepth 100000
set_option maxHeartbeats 1100000
namespace Br
open PySem PySem.Spec PyProof.Rows L2 Mini
section
variable {X : Cx} {Ga : Nat → Addr} {pin : Pin} {Wd : WX} {ph : Nat → Addr} {h : MH} {r : Mini.Env} {sg : L2.St} {H : Hp} {a b c e tg iter o i : Expr} {es rest : List Expr} {pos : Pos} {ma mb mc m mo : Mini.E} {ta tb : Mini.T} {ms : Mini.A} {st : Stmt} {sts body orelse : List Stmt} {sa sb : Mini.S} {α β : Type}
/-! ### list comprehensions -/
theorem rd_quiet {K : PySem.W.Frag} {rel : (Nat → Addr) → Nat → α → β → Prop} {q : Mini.R α} {Q : β → Hp → Prop} {sg' : L2.St} (x : rd K Ga Wd rel ph h sg q.quiet Q) : rd K Ga W0 rel ph h sg' q Q := by
  cases q with
  | ok a h' => exact x
  | exc c d h' => exact x.elim
  | bad => exact x.elim
theorem wipe_get {r : Mini.Env} {i : Nat} {w : Mini.W} : ∀ {vs : List Nat}, (Mini.wipe r vs)[i]? = some (some w) → r[i]? = some (some w) ∧ i ∉ vs
  | [], e => ⟨e, fun q => nomatch q⟩
  | v :: vs, e => by
    have e' : ((Mini.wipe r vs).set v none)[i]? = some (some w) := e
    by_cases c : v = i
    · subst c
      by_cases l : v < (Mini.wipe r vs).length
      · rw [List.getElem?_set_self l] at e'; cases e'
      · rw [List.getElem?_eq_none (by rw [List.length_set]; omega)] at e'; cases e'
    · rw [List.getElem?_set_ne c] at e'
      obtain ⟨z1, z2⟩ := wipe_get e'
      exact ⟨z1, fun q => by
        rcases List.mem_cons.mp q with q | q
        · exact c q.symm
        · exact z2 q⟩
theorem wipe_len {r : Mini.Env} : ∀ {vs : List Nat}, (Mini.wipe r vs).length = r.length
  | [] => rfl
  | v :: vs => by show ((Mini.wipe r vs).set v none).length = _; rw [List.length_set, wipe_len]
theorem SR.wipe {K : PySem.W.Frag} (s : SR K Ga none ph h r sg H) (vs : List Nat) : SR K Ga none ph h (Mini.wipe r vs) (L2.wipe sg vs) H :=
  ⟨s.hr, by rw [wipe_length, wipe_len, s.len], fun i w e => by
    obtain ⟨z1, z2⟩ := wipe_get e
    rw [wipe_out z2]
    exact s.val i w z1, fun q e => nomatch e⟩
theorem get_wipe {sg : L2.St} {i : Nat} : ∀ {vs : List Nat}, i ∈ vs → i < sg.length → (L2.wipe sg vs)[i]? = some none
  | v :: vs, hi, hl => by
    show ((L2.wipe sg vs).set v none)[i]? = some none
    by_cases c : v = i
    · subst c
      rw [List.getElem?_set_self (by rw [wipe_length]; exact hl)]
    · rw [List.getElem?_set_ne c]
      rcases List.mem_cons.mp hi with q | q
      · exact absurd q.symm c
      · exact get_wipe q hl
theorem wipe_same {sg sg2 : L2.St} {is vs : List Nat} (f : Fr_ is sg sg2) (hs : ∀ i ∈ is, i ∈ vs) : L2.wipe sg2 vs = L2.wipe sg vs := by
  refine List.ext_getElem? fun i => ?_
  by_cases c : i ∈ vs
  · by_cases l : i < sg.length
    · rw [get_wipe c l, get_wipe c (by rw [f.1]; exact l)]
    · rw [List.getElem?_eq_none (by rw [wipe_length, f.1]; omega), List.getElem?_eq_none (by rw [wipe_length]; omega)]
  · rw [wipe_out c, wipe_out c]
    exact f.2 i fun z => c (hs i z)
theorem wipe_wipe {sg : L2.St} {vs : List Nat} : L2.wipe (L2.wipe sg vs) vs = L2.wipe sg vs := by
  refine wipe_same (is := vs) ⟨wipe_length _ _, fun j hj => wipe_out hj⟩ fun i hi => hi
/-- the tests of a comprehension -/
theorem ts_nil : PTs X [] (tT X.K Ga pin Wd Mini.tYes) := ⟨fun pins s sg H Q I ⟨ph, h, r, s', x⟩ => pts_nil.run pins s sg H Q I (rd_okB x s'.hr)⟩
theorem ts_one (hc : PT X c (tT X.K Ga pin Wd ta)) : PTs X [c] (tT X.K Ga pin Wd ta) := pts_one hc
theorem lc_of {is vs : List Nat} {mi : Mini.I} {g : Mini.G} {t : TG} (ho : ∀ j ∈ is, j ∈ vs) (hz : TgS X Ga none is g t) (sg : L2.St) (H : Hp) (Q : VK) (x : tE X.K Ga none Wd (eLc vs mi g ta m) sg H Q) :
    tLc (tI X.K Ga none Wd mi) t (tT X.K Ga none W0 ta) (tE X.K Ga none W0 m) vs sg H Q := by
  obtain ⟨ph, h, r, s, x⟩ := x
  refine ⟨ph, h, r, s, x.bind fun q h1 _ ph1 H1 J g1 R1 rl x1 => fun D hD => ?_⟩
  obtain ⟨src, k⟩ := q
  have x2 := rd_quiet (sg' := sg) x1
  -- the new list
  let ph2 := ext ph1 h1.length D
  have g2 : Grow ph1 h1 ph2 (h1 ++ [Cell.lst []]) := Grow.ext
  have R2 : HR X.K Ga ph2 (h1 ++ [Cell.lst []]) (upd H1 D (.lst [])) := R1.push hD ⟨upd_same, fun _ hx => nomatch hx⟩
  have eD : ph2 h1.length = D := ext_at
  have s2 : SR X.K Ga none ph2 (h1 ++ [Cell.lst []]) r sg (upd H1 D (.lst [])) := (s.grow g1 R1).grow g2 R2
  have sr2 : SrcAt X.K J src ph2 (h1 ++ [Cell.lst []]).length := SrcAt.grow g2 rl
  refine ⟨fun i n H => ∃ ph h, SR X.K Ga none ph h r sg H ∧ SrcAt X.K J src ph h.length ∧ h1.length < h.length ∧ ph h1.length = D ∧ rd X.K Ga W0 relW ph h sg (lcTurns src g ta m (Mini.wipe r vs) h1.length n i h) Q,
    ⟨k, ph2, _, s2, sr2, by rw [List.length_append]; exact Nat.lt_succ_self _, eD, rd.base g2 x2⟩, fun i n H ⟨ph, h, s, sr, hl, eD, x⟩ => ?_⟩
  cases n with
  | zero => exact x.elim
  | succ n =>
    simp only [lcTurns] at x
    cases e : src.at i h with
    | none => rw [e] at x; exact x.elim
    | some q =>
      rw [e] at x
      cases q with
      | none =>
        refine .inl ⟨src_stop s.hr sr e, ?_⟩
        have q := x.ok1 ph H _ (Grow.refl _ _) s.hr ⟨rfl, hl⟩
        rw [show vW ph (.ref h1.length) = .ref D from congrArg V.ref eD] at q
        exact q
      | some w =>
        obtain ⟨y1, y2, y3⟩ := src_go s.hr sr e
        refine .inr ⟨y1, fun H => ∃ ph h, SR X.K Ga none ph h r sg H ∧ SrcAt X.K J src ph h.length ∧ h1.length < h.length ∧ ph h1.length = D ∧ rd X.K Ga W0 relW ph h sg (lcTurns src g ta m (Mini.wipe r vs) h1.length n (i + 1) h) Q,
          fun H' y => ⟨n, Nat.lt_succ_self n, y⟩, fun v H' y => ?_⟩
        obtain ⟨rfl, rfl⟩ := y3 v H' y
        simp only [] at x
        refine hz ph h (Mini.wipe r vs) (L2.wipe sg vs) H' w _ (s.wipe vs) y2 ?_
        cases e2 : g w (Mini.wipe r vs) h with
        | exc cc d h2 => rw [e2] at x; exact x.elim
        | bad => rw [e2] at x; exact x.elim
        | ok r1 h3 =>
          rw [e2] at x
          intro ph3 sg3 H3 g3 S3 f3
          have ew : L2.wipe sg3 vs = L2.wipe sg vs := (wipe_same f3 ho).trans wipe_wipe
          refine ⟨ew, ?_⟩
          have x3 : rd X.K Ga W0 relW ph3 h3 sg ((ta r1 h3).bind fun c h2 => if c = true then (m r1 h2).bind fun x h3 => lcAdd h1.length x (lcTurns src g ta m (Mini.wipe r vs) h1.length n (i + 1)) h3
            else lcTurns src g ta m (Mini.wipe r vs) h1.length n (i + 1) h2) Q := rd.base g3 x
          -- the state of the def stands
          have back : ∀ {ph4 : Nat → Addr} {h4 : MH} {H4 : Hp}, Grow ph h ph4 h4 → HR X.K Ga ph4 h4 H4 → SR X.K Ga none ph4 h4 r sg H4 := fun g R => s.grow g R
          refine ⟨ph3, h3, r1, S3, ?_⟩
          have x4 : rd X.K Ga W0 relW ph3 h3 sg3 ((ta r1 h3).bind fun c h2 => if c = true then (m r1 h2).bind fun x h3 => lcAdd h1.length x (lcTurns src g ta m (Mini.wipe r vs) h1.length n (i + 1)) h3
            else lcTurns src g ta m (Mini.wipe r vs) h1.length n (i + 1) h2) Q := by
            revert x3
            generalize ((ta r1 h3).bind fun c h2 => if c = true then (m r1 h2).bind fun x h3 => lcAdd h1.length x (lcTurns src g ta m (Mini.wipe r vs) h1.length n (i + 1)) h3
            else lcTurns src g ta m (Mini.wipe r vs) h1.length n (i + 1) h2) = qq
            intro x3
            cases qq with
            | ok a h' => exact x3
            | exc cc d h' => exact fun ph' H' g R z => x3 ph' H' g R z
            | bad => exact x3
          refine x4.bind fun k2 h4 _ ph4 H4 b4 g4 R4 eb4 x5 => ?_
          rw [show b4 = k2 from eb4]
          have gg4 := g3.trans g4
          cases k2 with
          | false =>
            rw [if_neg (fun z => nomatch z)]
            rw [if_neg (fun z => nomatch z)] at x5
            refine ⟨ph4, h4, back gg4 R4, sr.grow gg4, Nat.lt_of_lt_of_le hl gg4.le, (gg4.eq _ hl).trans eD, ?_⟩
            revert x5
            generalize lcTurns src g ta m (Mini.wipe r vs) h1.length n (i + 1) h4 = qq
            intro x5
            cases qq with
            | ok a h' => exact x5
            | exc cc d h' => exact fun ph' H' g R z => x5 ph' H' g R z
            | bad => exact x5
          | true =>
            rw [if_pos rfl]
            rw [if_pos rfl] at x5
            refine ⟨ph4, h4, r1, S3.grow g4 R4, x5.bind fun y h5 _ ph5 H5 b5 g5 R5 ⟨eb5, w5⟩ x6 => ?_⟩
            have gg5 := gg4.trans g5
            have eD5 : ph5 h1.length = D := (gg5.eq _ hl).trans eD
            unfold lcAdd at x6
            cases e6 : h5[h1.length]? with
            | none => rw [e6] at x6; exact x6.elim
            | some cl =>
              rw [e6] at x6
              cases cl with
              | lst acc =>
                simp only [] at x6
                by_cases c6 : acc.length < 10000000
                · rw [if_pos c6] at x6
                  obtain ⟨z1, z2⟩ := R5.cells _ _ e6
                  rw [eD5] at z1
                  refine ⟨acc.map (vW ph5), z1, by rw [List.length_map]; exact m_line1 c6, ?_⟩
                  have em : (acc ++ [y]).map (vW ph5) = acc.map (vW ph5) ++ [vW ph5 y] := by rw [List.map_append]; rfl
                  have zw : ∀ x ∈ acc ++ [y], wf h5.length x := fun x hx => by
                    rcases (List.mem_append.mp hx : _ ∨ _) with hx | hx
                    · exact z2 x hx
                    · rw [List.mem_singleton.mp hx]; exact w5
                  have R6 : HR X.K Ga ph5 (h5.set h1.length (.lst (acc ++ [y]))) (upd H5 (ph5 h1.length) (.lst (acc.map (vW ph5) ++ [vW ph5 y]))) := R5.set e6 trivial trivial ⟨by rw [em]; exact upd_same, zw⟩
                  rw [eD5] at R6
                  rw [eb5]
                  have g6 : Grow ph5 h5 ph5 (h5.set h1.length (.lst (acc ++ [y]))) := Grow.set
                  have gg6 := gg5.trans g6
                  refine ⟨ph5, _, back gg6 R6, sr.grow gg6, Nat.lt_of_lt_of_le hl gg6.le, eD5, rd.base g6 ?_⟩
                  revert x6
                  generalize lcTurns src g ta m (Mini.wipe r vs) h1.length n (i + 1) (h5.set h1.length (.lst (acc ++ [y]))) = qq
                  intro x6
                  cases qq with
                  | ok a h' => exact x6
                  | exc cc d h' => exact fun ph' H' g R z => x6 ph' H' g R z
                  | bad => exact x6
                · rw [if_neg c6] at x6; exact x6.elim
              | _ => exact x6.elim
theorem e_lc {is : List Nat} {ifs : List Expr} {scope : Scope} {own : List (Str × Nat)} {mi : Mini.I} {g : Mini.G} {t : TG} {elt : Expr} (hc : X.calm = true) (hN : X.N.Nodup) (hi : PI X tg iter (tI X.K Ga none Wd mi)) (ok : BlkOk X.N X.env.scope scope own) (ho : ∀ j ∈ is, j ∈ own.map (·.2))
    (hz : TgS X Ga none is g t)
    (hg : ∀ (s : Shared) (H : Hp) (C : Addr) (cl : List (Str × Addr)) (fp : List Addr), PG (X.blk s H scope (compEnvC scope cl C X.env) fp) tg t)
    (ht : ∀ (s : Shared) (H : Hp) (C : Addr) (cl : List (Str × Addr)) (fp : List Addr), PTs (X.blk s H scope (compEnvC scope cl C X.env) fp) ifs (tT X.K Ga none W0 ta))
    (he : ∀ (s : Shared) (H : Hp) (C : Addr) (cl : List (Str × Addr)) (fp : List Addr), PE (X.blk s H scope (compEnvC scope cl C X.env) fp) elt (tE X.K Ga none W0 m)) (hs : ∀ x, foldedSetIterable iter X.env x = pure x := by intro _; rfl) :
    PE X (.ListComp elt [⟨tg, iter, ifs, 0⟩] scope pos) (tE X.K Ga none Wd (eLc (own.map (·.2)) mi g ta m)) :=
  PE.imp (pe_lc hc hN hi ok hg ht he hs) (lc_of ho hz)
theorem s_setLc {is : List Nat} {i : Nat} {y : Str} {py spos : Pos} {ifs : List Expr} {scope : Scope} {own : List (Str × Nat)} {mi : Mini.I} {g : Mini.G} {t : TG} {elt : Expr} (hc : X.calm = true) (hN : X.N.Nodup) (hy : X.N[i]? = some y) (hyl : X.env.scope.names.lookup y = some .local)
    (hsw : swapsWith (.ListComp elt [⟨tg, iter, ifs, 0⟩] scope pos) (some (.Name y py)) spos.line X.env = pure true) (hi : PI X tg iter (tI X.K Ga none Wd mi)) (ok : BlkOk X.N X.env.scope scope own) (ho : ∀ j ∈ is, j ∈ own.map (·.2))
    (hz : TgS X Ga none is g t)
    (hg : ∀ (s : Shared) (H : Hp) (C : Addr) (cl : List (Str × Addr)) (fp : List Addr), PG (X.blk s H scope (compEnvC scope cl C X.env) fp) tg t)
    (ht : ∀ (s : Shared) (H : Hp) (C : Addr) (cl : List (Str × Addr)) (fp : List Addr), PTs (X.blk s H scope (compEnvC scope cl C X.env) fp) ifs (tT X.K Ga none W0 ta))
    (he : ∀ (s : Shared) (H : Hp) (C : Addr) (cl : List (Str × Addr)) (fp : List Addr), PE (X.blk s H scope (compEnvC scope cl C X.env) fp) elt (tE X.K Ga none W0 m)) (hs : ∀ x, foldedSetIterable iter X.env x = pure x := by intro _; rfl) :
    PS X (.Assign [.Name y py] (.ListComp elt [⟨tg, iter, ifs, 0⟩] scope pos) spos) (tS X.K Ga none Wd (sSet i (eLc (own.map (·.2)) mi g ta m))) := by
  refine PS.imp (ps_setLc hc hN hy hyl hsw hi ok hg ht he hs) fun D sg H ⟨ph, h, r, s, x⟩ => ?_
  refine lc_of ho hz sg H _ ⟨ph, h, r, s, ?_⟩
  refine st_of (k := fun w h1 => .ok .nx (r.set i (some w)) h1) (D := D) s ?_ fun w h1 ph1 H1 b g1 S rl x1 => ?_
  · unfold sSet sAsg at x
    cases e : eLc (own.map (·.2)) mi g ta m r h <;> (rw [e] at x; exact x)
  · rw [rl.1]
    exact x1 ph1 _ H1 (Grow.refl _ _) (S.put rl.2 lets0)
end
end Br
set_option Elab.async false
set_option autoImplicit false
set_option linter.all false
set_option maxRecDepth 100000
set_option maxHeartbeats 1100000
namespace Br
open PySem PySem.Spec PyProof.Rows L2 Mini
/-! ### several except clauses, some with a name -/
structure Cls_ where
  c : Value
  i : Option Nat
  ts : Addr → Value → Option Addr → TS
def offI (i : Option Nat) (sg : L2.St) : L2.St := match i with
  | some i => sg.set i none
  | none => sg
def onI (i : Option Nat) (a : Addr) (sg : L2.St) : L2.St := match i with
  | some i => sg.set i (some (.ref a))
  | none => sg
def offD (i : Option Nat) (D : Ends) : Ends := { nx := fun sg H => D.nx (offI i sg) H, rt := D.rt, bk := fun sg H => D.bk (offI i sg) H, ct := fun sg H => D.ct (offI i sg) H }
def wAll (K : PySem.W.Frag) (Wout : WX) (D : Ends) : List Cls_ → WX
  | [] => Wout
  | k :: ks => fun cls d sg H => ∃ q, PySem.W.exmOne K cls k.c = some q ∧ (q = true → ∀ a, H a = none → k.ts a cls d (offD k.i D) (onI k.i a sg) (upd H a (ExQ cls d a))) ∧ (q = false → wAll K Wout D ks cls d sg H)
/-- the name of a clause -/
def NameOk (X : Cx) : Option Str → Option Nat → Prop
  | none, none => True
  | some n, some i => X.N[i]? = some n ∧ X.env.kindOf n = some .local
  | _, _ => False
inductive Hds (X : Cx) : List ExceptHandler → List Cls_ → Prop
  | nil : Hds X [] []
  | cons {x : Str} {k : Cls_} {n : Option Str} {b : Stmt} {suite : List Stmt} {np p : Pos} {hds : List ExceptHandler} {ks : List Cls_} (hc : Names X x k.c) (hn : NameOk X n k.i)
      (hsu : ∀ (a : Addr) (cls : Value) (d : Option Addr) (pn : List (Addr × Obj)), PSs (X.suite a pn) (b :: suite) (k.ts a cls d)) (r : Hds X hds ks) :
      Hds X (.ExceptHandler (some (.Name x np)) n (b :: suite) p :: hds) (k :: ks)
section
variable {X : Cx} {pins : List (Addr × Obj)} {σ : L2.St} {H : Hp} {s sI s' : Shared} {B : Heap} {a : Addr} {o : HO}
theorem InvLandedT (I : Inv X pins σ H sI) (nb : ∀ b o, sI.heap.get? b = some o → b ∉ frs X.stack → B.get? b = some o) (st : B.StaysIn s'.heap) (up : sI.heap.UpToSlots s'.heap) (os : s'.os = sI.os) (ag : AllBare s'.gens)
    (na : H a = none) (nB : B.get? a = none) (nfr : a ∉ frs X.stack) (new : ObjOk X.prog X.w (upd H a o) s'.heap a o) : Inv X pins σ (upd H a o) s' := by
  -- the object is none of those that stood before
  have gone : sI.heap.get? a = none := by
    cases e : sI.heap.get? a with
    | none => rfl
    | some o => exact absurd ((nb a o e nfr).symm.trans nB) (fun z => nomatch z)
  have apart : ∀ {b o}, sI.heap.get? b = some o → b ≠ a := fun e z => by rw [z, gone] at e; cases e
  have other : ∀ {b} {u : HO}, H b = some u → upd H a o b = some u := fun {b u} e => by rw [upd_ne (ne_of_none e na)]; exact e
  have J := I.landed nb st up os ag
  refine ⟨J.ok, J.os, J.bare, ⟨J.base.keep, J.base.slot, fun b u e n hx => ?_, J.base.there, fun b xs e => other (J.base.tups b xs e), fun b u v e => other (J.base.frzs b u v e), fun b ps e => ?_⟩, J.loc, J.cell, ?_, fun x c e => ?_, fun p hp => ?_, fun b u e => ?_, J.len⟩
  · obtain ⟨u', e'⟩ := I.base.there b u e hx
    rw [upd_ne (apart e')]
    exact J.base.free b u e n hx
  · obtain ⟨more, e'⟩ := J.base.tbls b ps e
    exact ⟨more, other e'⟩
  · obtain ⟨m, ⟨ob, _, _, e, _⟩, _⟩ := I.loc
    rw [upd_ne (apart e)]
    exact J.free
  · obtain ⟨v, ob, e', _⟩ := I.cell x c e
    rw [upd_ne (apart e')]
    exact J.freeC x c e
  · obtain ⟨e1, e2, e3⟩ := J.pin p hp
    refine ⟨e1, ?_, e3⟩
    rw [upd_ne (apart (I.pin p hp).1)]
    exact e2
  · by_cases hb : b = a
    · rw [hb, upd_same] at e
      cases e
      rw [hb]
      exact new
    · rw [upd_ne hb] at e
      exact (J.hok b u e).stay (fun _ _ _ q => q) (fun c q => other q) fun c xs q => other q
theorem InvSuite0 (I : Inv X pins σ H s) (a : Addr) : Inv (X.suite a (X.pn ++ pins)) [] σ H s :=
  ⟨I.ok.suite _ _, I.os, I.bare, I.base, I.loc, I.cell, I.free, I.freeC, fun p hp => I.pin p (by rw [List.append_nil] at hp; exact hp), I.hok, I.len⟩
theorem InvUnsuite0 {pn' : List (Addr × Obj)} (I : Inv (X.suite a (X.pn ++ pins)) pn' σ H s) (ok : X.Ok) : Inv X pins σ H s :=
  { ok := ok, os := I.os, bare := I.bare, base := I.base, loc := I.loc, cell := I.cell, free := I.free, freeC := I.freeC, hok := I.hok, len := I.len
    pin := fun p hp => I.pin p (List.mem_append_left _ hp) }
end
section
variable {X : Cx} {body : List Stmt} {h0 : ExceptHandler} {hds : List ExceptHandler} {ks : List Cls_} {pos : Pos} {tb : WX → TS} {Wout : WX}
theorem sp_back {M : Type} {pins : List (Addr × Obj)} {D : Ends} {X' : Cx} {f : Flow} {s : Shared} (back : ∀ {sg : L2.St} {H : Hp}, Inv X' [] sg H s → Inv X pins sg H s) (z : SP X' [] D f s) : SP X pins D f s := by
  cases f with
  | next => obtain ⟨sg, H, J, q⟩ := z; exact ⟨sg, H, back J, q⟩
  | brk => obtain ⟨sg, H, J, q⟩ := z; exact ⟨sg, H, back J, q⟩
  | cont => obtain ⟨sg, H, J, q⟩ := z; exact ⟨sg, H, back J, q⟩
  | ret u => obtain ⟨v, sg, H, J, rv, q⟩ := z; exact ⟨v, sg, H, back J, rv, q⟩
theorem exq_ok {P : Program} {w : World} {H : Hp} {h : Heap} {a : Addr} {cls : Value} {d : Option Addr} {oe : Obj} {vs : Array Value} (e : h.get? a = some oe) (z : Zc cls d oe) (dd : oe.data = .fields vs) : ObjOk P w H h a (ExQ cls d a) :=
  ⟨⟨oe, e, z, vs, dd⟩, ⟨oe, e⟩, fun _ _ ⟨o, q, r⟩ k => ⟨o, k o q, r⟩⟩
theorem try_all (hs : X.stack = X.env :: X.outer) (hf : X.env.frame = some X.env.locals) (hN : X.N.Nodup) (tk : Takes X Wout)
    (hb : ∀ (W : WX) (pn : List (Addr × Obj)) (xe : Value → Shared → Prop),
      Takes (X.tr pn xe) W → PassesOwn (model X.prog X.w) X.A X.env xe → PSs (X.tr pn xe) body (tb W))
    (hh : Hds X (h0 :: hds) ks) : PS X (.Try body (h0 :: hds) [] [] pos) (fun D sg H => tb (wAll X.K Wout D ks) D sg H) := by
  constructor
  intro pins s sg H D I want
  have ok := I.ok
  have hfr : X.A.frames = some (X.env :: X.outer) := by rw [ok.frames]; rw [hs]
  refine wpAny_Try_except (wpAny_mono ((hb (wAll X.K Wout D ks) (X.pn ++ pins) (fun u t => wpAny (model X.prog X.w) X.A (noteFrame u X.env) (fun _ t2 => wpAny (model X.prog X.w) X.A (setFlight u none) (fun _ t3 =>
    wpAny (model X.prog X.w) X.A (handleBy u X.env (h0 :: hds)) (SP X pins D) X.xe t3) X.xe t2) X.xe t) (fun u t xx => ?_) PassesOwn.looking).run [] s sg H D (I.toTry _) want) (fun f t z => ?_) (fun _ _ z => z))
  · obtain ⟨a, B, sI, pins2, sg2, H2, cls, d, rfl, J0, nb, up, sky, na, os, ag, w⟩ := xx
    have J : Inv X pins sg2 H2 sI := J0.ofTry ok
    refine Sky.land (Q := fun _ t3 => wpAny (model X.prog X.w) X.A (handleBy (.ref a) X.env (h0 :: hds)) (SP X pins D) X.xe t3) Zc.steady hfr hf (show Sky B (X.env :: X.outer) a (Zc cls d) X.env.locals t.heap by rw [← hs]; exact sky) fun g3 fl3 up3 => ?_
    have J3 : Inv X pins sg2 H2 { t with heap := g3 } := J.landed nb fl3.1 (up.trans up3) os ag
    obtain ⟨oe3, vs3, he3, (hz3 : _), hd3⟩ := fl3.there
    have nfr : a ∉ frs (X.env :: X.outer) := fun hm => by
      obtain ⟨_, o2, e2, hnf⟩ := fl3.2.2.1.mem hm
      rw [he3] at e2
      cases e2
      exact hnf _ hd3
    have nL : a ≠ X.env.locals := fun z =>
      nfr (List.mem_filterMap.mpr ⟨X.env, List.mem_cons_self, by rw [hf, z]⟩)
    have nF : a ∉ X.fs := by
      intro hm
      obtain ⟨u, hu, q⟩ := List.mem_filterMap.mp hm
      exact nfr (List.mem_filterMap.mpr ⟨u, List.mem_cons_of_mem _ hu, q⟩)
    have S3 := Inv.suite J3 he3 hd3 na nL nF
    have nfs : a ∉ frs X.stack := by rw [hs]; exact nfr
    have go : ∀ {l : List ExceptHandler} {kl : List Cls_}, Hds X l kl → wAll X.K Wout D kl cls d sg2 H2 → wpAny (model X.prog X.w) X.A (handleBy (.ref a) X.env l) (SP X pins D) X.xe { t with heap := g3 } := by
      intro l kl hk
      induction hk with
      | nil =>
        intro w
        refine wpAny_handleBy_nil ?_
        obtain ⟨_, _, _, oe, vs, T, oT, ts2, he, hz, hd, h1, hr⟩ := id fl3
        unfold PySem.passOn
        refine (wpAny_bind (wpAny_field he hd h1 ?_))
        rw [if_neg (show ¬ ((Value.ref T == Value.none) = true) by simp)]
        have out : wpAny (model X.prog X.w) X.A (setFlight (.ref a) X.env.frame) (fun _ t4 => wpAny (model X.prog X.w) X.A (throw (.ref a) : Sem Flow) (SP X pins D) X.xe t4) X.xe { t with heap := g3 } := by
          rw [hf]
          refine HandSPX.setFlight_upZ fl3 fun g4 hh4 up4 => wpAny_throw (tk _ _ ⟨a, B, sI, pins, sg2, H2, cls, d, rfl, J, nb, (up.trans up3).trans up4, .inr (.inr (by rw [hs]; exact hh4)), na, os, ag, w⟩)
        first
          | exact wpAny_bind (wpAny_pure (wpAny_bind out))
          | exact wpAny_bind out
      | @cons x k n b suite np p l2 kl2 hc hn hsu r ih =>
        intro w
        obtain ⟨q, hq, yes, no⟩ := w
        refine wpAny_handleBy_cons (codeAny_handlers_test ?_) (by intro z; cases z)
        have LT : PySem.W.Looks (model X.prog X.w) g3 (typeOf (.ref a)) cls := fun A Q E s2 kk z => wpAny_typeOf_ref (kk _ _ he3) (by rw [hz3.1]; exact z)
        have LM := PySem.W.exm_one (M := model X.prog X.w) J3.kIn LT hq
        have test : ∀ {Q : Value → Shared → Prop} {E : Value → Shared → Prop}, Q k.c { t with heap := g3 } → wpAny (model X.prog X.w) (X.A.mark (some (.ref a))) (eval (.Name x np) X.env) Q E { t with heap := g3 } := fun {Q E} z => by
          obtain ⟨hg, hdb, hm | ⟨hm, hv, hnn⟩⟩ := hc
          · exact ld_glob (X := X.suite a ((a, oe3) :: (X.pn ++ pins))) S3 hg hm z hdb
          · exact ld_blt (X := X.suite a ((a, oe3) :: (X.pn ++ pins))) S3 hg hm hv z hnn hdb
        refine test (LM.here ?_)
        cases q with
        | false => exact ih (no rfl)
        | true =>
          have yes2 := yes rfl a na
          cases n with
          | none =>
            cases ki : k.i with
            | some i => rw [ki] at hn; exact hn.elim
            | none =>
              rw [ki] at yes2
              refine codeAny_handlers_suite (HandSPX.lands_againZ fl3 fun g4 fl4 up4 => ?_)
              obtain ⟨oe4, vs4, he4, (hz4 : _), hd4⟩ := fl4.there
              have J4 : Inv X pins sg2 (upd H2 a (ExQ cls d a)) { t with heap := g4 } := InvLandedT J nb fl4.1 ((up.trans up3).trans up4) os ag na fl4.2.1 nfs (exq_ok he4 hz4 hd4)
              refine wpAny_mono ((hsu a cls d (X.pn ++ pins)).run [] _ _ _ _ (InvSuite0 J4 a) yes2) (fun f t6 z => ?_) (fun _ _ z => False.elim z)
              have z2 : SP (X.suite a (X.pn ++ pins)) [] D f t6 := by cases f <;> exact z
              exact sp_back (M := Unit) (fun S6 => InvUnsuite0 S6 ok) z2
          | some nm =>
            cases ki : k.i with
            | none => rw [ki] at hn; exact hn.elim
            | some i =>
              rw [ki] at yes2 hn
              obtain ⟨hi, hln⟩ := hn
              refine codeAny_handlers_suite_as (HandSPX.lands_againZ fl3 fun g4 fl4 up4 => ?_)
              obtain ⟨oe4, vs4, he4, (hz4 : _), hd4⟩ := fl4.there
              have J4 : Inv X pins sg2 (upd H2 a (ExQ cls d a)) { t with heap := g4 } := InvLandedT J nb fl4.1 ((up.trans up3).trans up4) os ag na fl4.2.1 nfs (exq_ok he4 hz4 hd4)
              refine store_ok (X := X.suite a (X.pn ++ pins)) (v := .ref a) (InvSuite0 J4 a) hN hi (.inl hln) rfl (fun t5 S5 => ?_) (.inr hln)
              refine wpAny_mono ((hsu a cls d (X.pn ++ pins)).run [] t5 _ _ _ S5 yes2) (fun f t6 z => ?_) (fun _ _ z => False.elim z)
              have gone : ∀ {sg6 : L2.St} {H6 : Hp} {Q : Shared → Prop}, Inv (X.suite a (X.pn ++ pins)) [] sg6 H6 t6 → (∀ t7, Inv X pins (sg6.set i none) H6 t7 → Q t7) →
                  wpAny (model X.prog X.w) X.A (do bindName X.env nm .none; unbindBehindTheSuite X.env nm p) (fun _ t7 => Q t7) X.xe t6 := fun {sg6 H6 Q} S6 hq => gone_ok (InvUnsuite0 S6 ok) hN hi hln hq
              cases f with
              | next => obtain ⟨sg6, H6, S6, q6⟩ := z; exact gone S6 fun t7 J7 => ⟨_, _, J7, q6⟩
              | brk => obtain ⟨sg6, H6, S6, q6⟩ := z; exact gone S6 fun t7 J7 => ⟨_, _, J7, q6⟩
              | cont => obtain ⟨sg6, H6, S6, q6⟩ := z; exact gone S6 fun t7 J7 => ⟨_, _, J7, q6⟩
              | ret u => obtain ⟨v6, sg6, H6, S6, r6, q6⟩ := z; exact gone S6 fun t7 J7 => ⟨_, _, _, J7, r6, q6⟩
    exact go hh w
  · cases f with
    | next => obtain ⟨sg2, H2, J, q⟩ := z; exact wpAny_execs_nil ⟨sg2, H2, J.ofTry ok, q⟩
    | brk => obtain ⟨sg2, H2, J, q⟩ := z; exact ⟨sg2, H2, J.ofTry ok, q⟩
    | cont => obtain ⟨sg2, H2, J, q⟩ := z; exact ⟨sg2, H2, J.ofTry ok, q⟩
    | ret u => obtain ⟨v, sg2, H2, J, rv, q⟩ := z; exact ⟨v, sg2, H2, J.ofTry ok, rv, q⟩
end
end Br
set_option Elab.async false
set_option autoImplicit false
set_option linter.all false
set_option maxRecDepth 100000
set_option maxHeartbeats 1100000
namespace Br
open PySem PySem.Spec PyProof.Rows L2 Mini
section
variable {X : Cx} {Ga : Nat → Addr} {pin : Pin} {Wd : WX} {ph : Nat → Addr} {h : MH} {r : Mini.Env} {sg : L2.St} {H : Hp} {a b c e : Expr} {es rest : List Expr} {pos : Pos} {m : Mini.E} {ms mk : Mini.A} {body : List Stmt} {sb : Mini.S}
/-! ### try -/
inductive HdM (X : Cx) (Ga : Nat → Addr) (n : Nat) : List ExceptHandler → List Mini.Hd → Prop
  | nil : HdM X Ga n [] []
  | cons {x : Str} {cv : Value} {k : Mini.Hd} {nm : Option Str} {b : Stmt} {suite : List Stmt} {np p : Pos} {hds : List ExceptHandler} {ks : List Mini.Hd} (hc : Names X x cv) (hn : NameOk X nm k.i)
      (hx : ∀ q, q < n → PySem.W.exmOne X.K (.ref (Ga q)) cv = some (k.m q))
      (hsu : ∀ (a : Addr) (pn : List (Addr × Obj)), PSs (X.suite a pn) (b :: suite) (tS X.K Ga none W0 k.s)) (r : HdM X Ga n hds ks) :
      HdM X Ga n (.ExceptHandler (some (.Name x np)) nm (b :: suite) p :: hds) (k :: ks)
theorem SR.off {K : PySem.W.Frag} {pin' : Pin} (s : SR K Ga pin' ph h r sg H) (i : Option Nat) : SR K Ga none ph h (noSlot i r) (offI i sg) H := by
  cases i with
  | none => exact ⟨s.hr, s.len, s.val, fun _ e => nomatch e⟩
  | some i =>
    refine ⟨s.hr, by show (sg.set i none).length = (r.set i none).length; rw [List.length_set, List.length_set, s.len], fun j w e => ?_, fun _ e => nomatch e⟩
    have e' : (r.set i none)[j]? = some (some w) := e
    show (sg.set i none)[j]? = _ ∧ _
    by_cases c : i = j
    · subst c
      by_cases l : i < r.length
      · rw [List.getElem?_set_self l] at e'; cases e'
      · rw [List.getElem?_eq_none (by rw [List.length_set]; omega)] at e'; cases e'
    · rw [List.getElem?_set_ne c] at e'
      rw [List.getElem?_set_ne c]
      exact s.val j w e'
theorem SR.on {K : PySem.W.Frag} (s : SR K Ga none ph h r sg H) (i : Option Nat) {a : Addr} {c : Nat} {d : Option Nat} (na : H a = none) (cx : ExcX K (Ga c)) (hn : ∀ k, d = some k → k < h.length) :
    SR K Ga none (ext ph h.length a) (h ++ [.exo c d]) (onSlot i h.length r) (onI i a sg) (upd H a (ExQ (.ref (Ga c)) (d.map ph) a)) := by
  have R : HR K Ga (ext ph h.length a) (h ++ [.exo c d]) (upd H a (ExQ (.ref (Ga c)) (d.map ph) a)) := s.hr.push na ⟨⟨by
    rw [upd_same]
    cases d with
    | none => rfl
    | some k => show some (ExQ _ (some (ph k)) a) = some (ExQ _ (some (ext ph h.length a k)) a); rw [ext_lt (hn k rfl)], cx⟩, fun k hk => Nat.lt_succ_of_lt (hn k hk)⟩
  have s2 := s.grow Grow.ext R
  cases i with
  | none => exact s2
  | some i =>
    have q := s2.put (j := i) (w := .ref h.length) (by show h.length < _; rw [List.length_append]; exact Nat.lt_succ_self _) lets0
    rw [show vW (ext ph h.length a) (.ref h.length) = V.ref a from congrArg V.ref ext_at] at q
    exact q
theorem hd_split {n : Nat} {hds : List ExceptHandler} {ks : List Mini.Hd} (hxc : ∀ q, q < n → ExcX X.K (Ga q)) (hh : HdM X Ga n hds ks) : ∃ kl : List Cls_, Hds X hds kl ∧ ∀ (D : Ends) (c : Nat) (d : Option Nat) (ph : Nat → Addr) (h : MH) (r : Mini.Env) (sg : L2.St) (H : Hp),
    SR X.K Ga none ph h r sg H → (∀ k, d = some k → k < h.length) → rdS X.K Ga none Wd ph h (hRun n c d ks r h) D → wAll X.K Wd D kl (.ref (Ga c)) (d.map ph) sg H := by
  induction hh with
  | nil => exact ⟨[], .nil, fun D c d ph h r sg H s hd x => x ph sg H (Grow.refl _ _) s hd⟩
  | @cons x cv k nm b suite np p hds2 ks2 hc hn hx hsu rr ih =>
    obtain ⟨kl, h1, h2⟩ := ih
    refine ⟨⟨cv, k.i, fun _ _ _ => tS X.K Ga none W0 k.s⟩ :: kl, .cons hc hn (fun a cls d pn => hsu a pn) h1, fun D c d ph h r sg H s hd x => ?_⟩
    simp only [hRun] at x
    by_cases cn : c < n
    · rw [if_pos cn] at x
      refine ⟨k.m c, hx c cn, fun em a na => ?_, fun em => ?_⟩
      · rw [if_pos em] at x
        refine ⟨_, _, _, s.on k.i na (hxc c cn) hd, ?_⟩
        have x' := rdS.base (Grow.ext (ph := ph) (h := h) (a := a) (c := .exo c d)) x
        cases e : k.s (onSlot k.i h.length r) (h ++ [.exo c d]) with
        | ok f r2 h3 =>
          rw [e] at x'
          cases f with
          | nx => exact fun ph2 sg2 H2 g S => x' ph2 _ H2 g (S.off k.i)
          | bk => exact fun ph2 sg2 H2 g S => x' ph2 _ H2 g (S.off k.i)
          | ct => exact fun ph2 sg2 H2 g S => x' ph2 _ H2 g (S.off k.i)
          | rt w => exact x'
        | exc c2 d2 r2 h3 => rw [e] at x'; exact x'.elim
        | bad => rw [e] at x'; exact x'.elim
      · rw [if_neg (by rw [em]; exact Bool.false_ne_true)] at x
        exact h2 D c d ph h r sg H s hd x
    · rw [if_neg cn] at x
      exact x.elim
theorem s_try {n len : Nat} {h0 : ExceptHandler} {hds : List ExceptHandler} {ks : List Mini.Hd} (hs : X.stack = X.env :: X.outer) (hf : X.env.frame = some X.env.locals) (hN : X.N.Nodup) (hl : X.N.length = len) (tk : Takes X Wd) (hxc : ∀ q, q < n → ExcX X.K (Ga q))
    (hb : ∀ (W : WX) (pn : List (Addr × Obj)) (xe : Value → Shared → Prop), Takes (X.tr pn xe) W → PassesOwn (model X.prog X.w) X.A X.env xe → PSs (X.tr pn xe) body (tS X.K Ga none W sb))
    (hh : HdM X Ga n (h0 :: hds) ks) : PS X (.Try body (h0 :: hds) [] [] pos) (tS X.K Ga none Wd (sTry n len sb ks)) := by
  obtain ⟨kl, h1, h2⟩ := hd_split (Wd := Wd) hxc hh
  refine PS.imp (try_all (tb := fun W => tS X.K Ga none W sb) hs hf hN tk hb h1) fun D sg H ⟨ph, h, r, s, x⟩ => ⟨ph, h, r, s, ?_⟩
  unfold sTry at x
  cases e : sb r h with
  | ok f r1 h1 => rw [e] at x; cases f <;> exact x
  | bad => rw [e] at x; exact x.elim
  | exc c d r1 h1 =>
    rw [e] at x
    intro ph2 sg2 H2 g S dw
    simp only [] at x
    by_cases c1 : r1.length = len
    · rw [if_pos c1] at x
      exact h2 D c d ph2 h1 r1 sg2 H2 S dw (rdS.base g x)
    · rw [if_neg c1] at x
      exact x.elim
/-- err.f, err an exception's object -/
def tXq (f : Str) (te : TE) : TE := fun σ H Q => te σ H fun x H1 => ∃ (a C dd : Addr) (fs : List (Str × V)) (v : V), x = .ref a ∧ H1 a = some (ExQ (.ref C) (some dd) a) ∧ H1 dd = some (.xd fs) ∧ fs.lookup f = some v ∧ XfC X.K C ∧ PySem.W.findIn X.K (.ref C) f = some none ∧ Q v H1
/-- an exception's object and its own dict, as the library's readings take them -/
theorem exc_inst {pins : List (Addr × Obj)} {s : Shared} {a C dd : Addr} {fs : List (Str × V)} {n : Str} {v : V} (I : Inv X pins sg H s) (ha : H a = some (ExQ (.ref C) (some dd) a)) (hd : H dd = some (.xd fs)) (l : fs.lookup n = some v) :
    ∃ oe od u, PySem.W.InstAt s.heap a oe C (some od) ∧ PySem.W.lookIn n od = some (some u) ∧ RelV v u := by
  obtain ⟨⟨oe, he, hz, vs, hv⟩, _, _⟩ := I.hok a _ ha
  obtain ⟨mA, own, rel⟩ : ObjOk X.prog X.w H s.heap dd (.xd fs) := I.hok dd _ hd
  obtain ⟨od, at_, look⟩ := lookIn_ns own
  obtain ⟨u, eu, ru⟩ := RelO.some_of (o := mA n) (show RelO (some v) (mA n) by rw [← l]; exact rel n)
  exact ⟨oe, od, u, ⟨he, hz.1, by unfold PySem.W.notCls; rw [hv] <;> rfl, by rw [hz.2]; exact at_⟩, by rw [look, eu], ru⟩
theorem pe_xq {e : Expr} {te : TE} {n : Str} (he : PE X e te) (hb : attributeBase e n X.env (eval e X.env) = eval e X.env := by rfl) : PE X (.Attribute e n pos) (tXq (X := X) n te) := by
  refine ⟨fun pins s sg H Q I want => attr_of hb (thn (he.run pins s sg H _ I want) fun u s1 hh => ?_)⟩
  obtain ⟨x, H1, I1, rx, a, C, dd, fs, v, rfl, ha, ea, l, T, hno, q⟩ := hh
  have eu : u = Value.ref a := rx
  subst eu
  obtain ⟨oe, od, w, J, lw, rw_⟩ := exc_inst I1 ha ea l
  refine HandSPX.exc_get I1.kIn J T.ga T.gg T.exC (PySem.W.findObj_own T.hdC hno rfl lw) (handed_of rw_) ?_
  exact ⟨v, H1, I1.tok _, rw_, q⟩
theorem fs_look {f : Str} {w : Mini.W} : ∀ {fs : List (Str × Mini.W)}, fs.lookup f = some w → (∃ p ∈ fs, p.2 = w) ∧ (fsV ph fs).lookup f = some (vW ph w)
  | [], e => by cases e
  | (k, v) :: ys, e => by
    rw [List.lookup_cons] at e
    show _ ∧ ((k, vW ph v) :: fsV ph ys).lookup f = _
    rw [List.lookup_cons]
    cases c : f == k with
    | true => rw [c] at e; cases e; exact ⟨⟨_, List.mem_cons_self, rfl⟩, rfl⟩
    | false =>
      rw [c] at e
      obtain ⟨⟨p, hp, q⟩, z⟩ := fs_look (fs := ys) e
      exact ⟨⟨p, List.mem_cons_of_mem _ hp, q⟩, z⟩
theorem e_xfl {ok : Nat → Bool} {f : Str} {e : Expr} (hno : ∀ c, ok c = true → PySem.W.findIn X.K (.ref (Ga c)) f = some none) (he : PE X e (tE X.K Ga pin Wd m)) (hb : attributeBase e f X.env (eval e X.env) = eval e X.env := by rfl) :
    PE X (.Attribute e f pos) (tE X.K Ga pin Wd (eXfl ok f m)) := by
  refine PE.imp (pe_xq he hb) fun sg H Q ⟨ph, h, r, s, x⟩ => ?_
  refine ⟨ph, h, r, s, x.bind fun u h1 _ ph1 H1 b1 g1 R1 ⟨eb1, w1⟩ x1 => ?_⟩
  unfold xfOf at x1
  cases u with
  | ref a =>
    simp only [] at x1
    cases e1 : h1[a]? with
    | none => rw [e1] at x1; exact x1.elim
    | some cl =>
      rw [e1] at x1
      cases cl with
      | exo c d =>
        cases d with
        | none => exact x1.elim
        | some d =>
          simp only [] at x1
          cases e2 : h1[d]? with
          | none => rw [e2] at x1; exact x1.elim
          | some cd =>
            rw [e2] at x1
            cases cd with
            | xd fs =>
              simp only [] at x1
              cases e3 : fs.lookup f with
              | none => rw [e3] at x1; exact x1.elim
              | some w =>
                rw [e3] at x1
                simp only [] at x1
                by_cases ko : ok c = true
                · rw [if_pos ko] at x1
                  obtain ⟨⟨q1, cx⟩, _⟩ := R1.cells a _ e1
                  obtain ⟨q2, q3⟩ := R1.cells d _ e2
                  obtain ⟨⟨p, hp, rfl⟩, lk⟩ := fs_look (ph := ph1) e3
                  exact ⟨ph1 a, Ga c, ph1 d, _, _, eb1, q1, q2, lk, cx.xf, hno c ko, rd_ok x1 R1 (q3 p hp)⟩
                · rw [if_neg ko] at x1; exact x1.elim
            | _ => exact x1.elim
      | _ => exact x1.elim
  | _ => exact x1.elim
/-! ### raise -/
/-- what __init__ of an error's class does: it keeps its argument under f -/
def spI (f : Str) (C : Addr) : Sp := fun vs H Q _ => ∃ (a : Addr) (v : V), vs = [.ref a, v] ∧ H a = some (exo a C none) ∧ ∀ dx, H dx = none → dx ≠ a → Q .non (upd (upd H dx (exd dx [(f, v)])) a (exo a C (some dx)))
theorem upd_del {H : Hp} {a d : Addr} {o1 o2 o3 o4 : HO} (ha : H a = none) (hd : d ≠ a) : upd (del (upd (upd (upd H a o1) d o2) a o3) a) d o4 = upd H d o4 := by
  funext b
  unfold upd del
  by_cases c : b = d
  · rw [if_pos c, if_pos c]
  · rw [if_neg c, if_neg c]
    by_cases c2 : b = a
    · rw [if_pos c2, c2, ha]
    · rw [if_neg c2]
      show (if b = a then some o3 else if b = d then some o2 else if b = a then some o1 else H b) = H b
      rw [if_neg c2, if_neg c, if_neg c2]
/-- an error's class -/
structure ErrC (K : PySem.W.Frag) (mg : Str → Option Value) (P : Program) (w : World) (base : Heap) (x f : Str) (C : Addr) : Prop where
  g : mg x = some (.ref C)
  o : OexC K C
  init : ∃ (fI : Addr) (fd : FuncData) (ps : List Str), PySem.W.findIn K (.ref C) "__init__" = some (some (.ref fI)) ∧ PySem.W.typeIn K (.ref fI) = some (.type "function") ∧ FnOk P w K mg base CX0 1 fI fd ps (spI f C) ∧ Binds K fd ps []
theorem s_raise {x f : Str} {ci : Nat} {p pos2 : Pos} (hc : X.calm = true) (tk : Takes X Wd) (T : ErrC X.K X.mg X.prog X.w X.base x f (Ga ci)) (hr : Room 2 X.A) (hg : Gl X x) (he : PE X e (tE X.K Ga pin Wd m)) (hdb : (x == ("__debug__" : Str)) = false := by decide)
    (hst : starEach (e :: []) X.env = (false, eval e X.env) :: starEach [] X.env := by rfl) (hpl : (backTo pos (starEach [] X.env)).any (·.1) = false := by rfl) :
    PS X (.Raise (some (.Call (.Name x p) [e] [] pos)) none pos2) (tS X.K Ga pin Wd (sRaise ci f m)) := by
  obtain ⟨fI, fd, ps, i1, i2, i3, i4⟩ := T.init
  refine PS.imp (ps_raise hc tk (pmk_oex T.o i1 i2 i3 hr i4 .nil (fun _ _ _ _ _ _ _ z => z.elim) hg T.g (pa_cons he pa_nil hst) hdb hst hpl)) fun D sg H ⟨ph, h, r, s, x⟩ => ⟨ph, h, r, s, ?_⟩
  refine st_of (k := fun w h1 => .exc ci (some h1.length) r (h1 ++ [.xd [(f, w)]])) (D := D) s ?_ fun w h1 ph1 H1 b g S rl x1 => ?_
  · unfold sRaise at x
    cases e : m r h <;> (rw [e] at x; exact x)
  · refine ⟨by show 1 ≤ 1000; decide, fun a ha => ⟨a, b, rfl, upd_same, fun dx hdx ne => ⟨rfl, dx, [(f, b)], upd_same, ?_, ?_, ?_⟩⟩⟩
    · rw [upd_ne ne, upd_same]
    · rw [upd_ne ne] at hdx; exact hdx
    · rw [upd_del ha ne]
      have hdx' : H1 dx = none := by rw [upd_ne ne] at hdx; exact hdx
      have wfu : ∀ p ∈ [(f, w)], wf (h1.length + 1) p.2 := fun p hp => by
        rw [List.mem_singleton.mp hp]
        exact rl.2.mono (Nat.le_succ _)
      have R2 : HR X.K Ga (ext ph1 h1.length dx) (h1 ++ [.xd [(f, w)]]) (upd H1 dx (.xd [(f, b)])) := S.hr.push hdx' ⟨by
        rw [show fsV (ext ph1 h1.length dx) [(f, w)] = [(f, b)] by show [(f, vW (ext ph1 h1.length dx) w)] = _; rw [(Grow.ext (c := Cell.lst [])).v rl.2, rl.1]]
        exact upd_same, wfu⟩
      have q := x1 _ sg _ Grow.ext (S.grow Grow.ext R2) (fun k e => by cases e; rw [List.length_append]; exact Nat.lt_succ_self _)
      rw [show (some h1.length).map (ext ph1 h1.length dx) = some dx from congrArg some ext_at] at q
      exact q
/-- C(e), an exception's object as a value -/
theorem pe_mk {t : L2.St → Hp → XK → Prop} (he : PMk X e t) : PE X e (fun σ H Q => t σ H fun cls d H' => ∀ a, H' a = none → Q (.ref a) (upd H' a (ExQ cls d a))) := by
  refine ⟨fun pins s σ H Q I want => wpAny_mono (he pins s σ H _ I want) (fun u s1 hu => ?_) fun _ _ x => x⟩
  obtain ⟨a, oe, vs, sI, H', cls, d, rfl, J, k, hne, at_, hz, hd, _, na, os, ag, _, q⟩ := hu
  have nfr : a ∉ frs X.stack := fun hb => by
    obtain ⟨_, o, e0, _⟩ := J.stack.mem hb
    rw [hne] at e0
    cases e0
  exact ⟨.ref a, _, InvLandedT J (B := sI.heap) (fun b o e _ => e) k (Heap.UpToSlots.of_keeps k) os ag na hne nfr (exq_ok at_ hz hd), rfl, q a na⟩
theorem e_err {x f : Str} {ci : Nat} {p : Pos} (T : ErrC X.K X.mg X.prog X.w X.base x f (Ga ci)) (cx : ExcX X.K (Ga ci)) (hr : Room 2 X.A) (hg : Gl X x) (he : PE X e (tE X.K Ga pin Wd m)) (hdb : (x == ("__debug__" : Str)) = false := by decide)
    (hst : starEach (e :: []) X.env = (false, eval e X.env) :: starEach [] X.env := by rfl) (hpl : (backTo pos (starEach [] X.env)).any (·.1) = false := by rfl) :
    PE X (.Call (.Name x p) [e] [] pos) (tE X.K Ga pin Wd (eErr ci f m)) := by
  obtain ⟨fI, fd, ps, i1, i2, i3, i4⟩ := T.init
  refine PE.imp (pe_mk (pmk_oex T.o i1 i2 i3 hr i4 .nil (fun _ _ _ _ _ _ _ z => z.elim) hg T.g (pa_cons he pa_nil hst) hdb hst hpl)) fun sg H Q ⟨ph, h, r, s, x⟩ => ⟨ph, h, r, s, ?_⟩
  refine x.bind fun w h1 _ ph1 H1 b g R rl x1 => ?_
  refine ⟨by show 1 ≤ 1000; decide, fun a ha => ⟨a, b, rfl, upd_same, fun dx hdx ne => ⟨rfl, dx, [(f, b)], upd_same, ?_, ?_, ?_⟩⟩⟩
  · rw [upd_ne ne, upd_same]
  · rw [upd_ne ne] at hdx; exact hdx
  · rw [upd_del ha ne]
    intro a2 na2
    have hdx' : H1 dx = none := by rw [upd_ne ne] at hdx; exact hdx
    have wfu : ∀ p ∈ [(f, w)], wf (h1.length + 1) p.2 := fun p hp => by
      rw [List.mem_singleton.mp hp]
      exact rl.2.mono (Nat.le_succ _)
    have R2 : HR X.K Ga (ext ph1 h1.length dx) (h1 ++ [.xd [(f, w)]]) (upd H1 dx (.xd [(f, b)])) := R.push hdx' ⟨by
      rw [show fsV (ext ph1 h1.length dx) [(f, w)] = [(f, b)] by show [(f, vW (ext ph1 h1.length dx) w)] = _; rw [(Grow.ext (c := Cell.lst [])).v rl.2, rl.1]]
      exact upd_same, wfu⟩
    have l1 : (h1 ++ [Cell.xd [(f, w)]]).length = h1.length + 1 := by rw [List.length_append]; rfl
    have R3 := R2.push (c := .exo ci (some h1.length)) (o := ExQ (.ref (Ga ci)) (some dx) a2) na2 ⟨⟨by
      rw [upd_same]
      show some (ExQ _ (some dx) a2) = some (ExQ _ (some (ext (ext ph1 h1.length dx) _ a2 h1.length)) a2)
      rw [ext_lt (by rw [l1]; exact Nat.lt_succ_self _), ext_at], cx⟩, fun k hk => by cases hk; rw [l1]; omega⟩
    have q := x1 _ _ (.ref a2) (Grow.trans Grow.ext (show Grow (ext ph1 h1.length dx) (h1 ++ [.xd [(f, w)]]) _ (h1 ++ [Cell.xd [(f, w)]] ++ [.exo ci (some h1.length)]) from Grow.ext) |> fun g => (by rw [List.append_assoc] at g; exact g)) (by rw [List.append_assoc] at R3; exact R3)
      ⟨by show V.ref a2 = V.ref (ext _ _ a2 (h1.length + 1)); rw [← l1, ext_at], by show h1.length + 1 < (h1 ++ [Cell.xd [(f, w)], Cell.exo ci (some h1.length)]).length; rw [List.length_append]; exact Nat.lt_succ_self _⟩
    exact q
/-! ### repr -/
theorem fx_repr {K : PySem.W.Frag} : True := trivial
end
end Br
set_option Elab.async false
set_option autoImplicit false
set_option linter.all false
set_option maxRecDepth 100000
set_option maxHeartbeats 1100000
namespace Br
open PySem PySem.Spec PyProof.Rows L2 Mini
/-! ### repr -/
section
variable {K : PySem.W.Frag} {H : Hp}
mutual
theorem dp_nodict : ∀ {d : PyData} {v : V}, Dp K H v d → d.hasDict = false
  | .none, _, _ => by simp only [PyData.hasDict]
  | .bool _, _, _ => by simp only [PyData.hasDict]
  | .int _, _, _ => by simp only [PyData.hasDict]
  | .str _, _, _ => by simp only [PyData.hasDict]
  | .list xs, _, h => by
    cases h with
    | lst _ q => simp only [PyData.hasDict]; exact dps_nodict q
  | .tuple xs, _, h => by
    cases h with
    | tup _ q => simp only [PyData.hasDict]; exact dps_nodict q
  | .dict _, _, h => nomatch h
theorem dps_nodict : ∀ {ds : List PyData} {vs : List V}, DpAll K H vs ds → PyData.hasDictAll ds = false
  | [], _, _ => by simp only [PyData.hasDictAll]
  | d :: ds, _, .cons h r => by simp only [PyData.hasDictAll, dp_nodict h, dps_nodict r, Bool.or_self]
end
end
def SclV : V → PyData → Prop
  | .non, d => d = .none
  | .bl b, d => d = .bool b
  | .int i, d => d = .int i
  | .str s, d => d = .str s
  | _, _ => False
theorem scl_reads {h : Heap} {v : V} {u : Value} {d : PyData} (s : SclV v d) (r : RelV v u) : Reads h u d [] := by
  cases v with
  | non => cases s; cases r; exact .none
  | bl b => cases s; cases r; exact .bool b
  | int i => cases s; obtain ⟨t, rfl⟩ := r; exact .int i t
  | str x => cases s; obtain ⟨t, rfl⟩ := r; exact .str x t
  | _ => exact s.elim
inductive KvD : List (Key × V) → List (PyData × PyData) → Prop
  | nil : KvD [] []
  | cons {k : Key} {v : V} {d : PyData} {kvs : List (Key × V)} {D : List (PyData × PyData)} : SclV v d → KvD kvs D → KvD ((k, v) :: kvs) ((keyData k, d) :: D)
theorem kvd_reads {h : Heap} {kvs : List (Key × V)} {D : List (PyData × PyData)} (q : KvD kvs D) : ∀ {vs : List (Key × Value)}, KV kvs vs → PyProof.V.PairsRead h keyData vs D [] := by
  induction q with
  | nil => intro vs r; cases r; exact .nil
  | @cons k v d kvs D s q ih =>
    intro vs r
    cases r with
    | @cons _ y _ ys r1 r2 =>
      obtain ⟨k', u⟩ := y
      obtain ⟨e, rv⟩ := r1
      have e' : k = k' := e
      subst e'
      exact .cons (as := []) (scl_reads s rv) (ih r2)
/-- what repr tells of a value -/
def DpR (K : PySem.W.Frag) (H : Hp) (x : V) (d : PyData) : Prop := Dp K H x d ∨ ∃ a kvs D, x = .ref a ∧ H a = some (.dK kvs) ∧ d = .dict D ∧ KvD kvs D
def rRep (K : PySem.W.Frag) : List V → Hp → VK → Prop := fun xs H Q => ∃ x d, xs = [x] ∧ DpR K H x d ∧ d.showable = true ∧ d.depth ≤ 64 ∧ d.shown.length ≤ sizeLine ∧ Q (.str d.shown) H
section
variable {X : Cx}
theorem call_rep (hg : X.A.guards = some []) (hu : X.A.units + 70 < cLine) : CallR X (.builtin "repr") (rRep X.K) := by
  intro pins s sg H xs us Q I rs q
  obtain ⟨x, d, rfl, dp, hs, hd, hz, q⟩ := q
  obtain ⟨u, rfl, ru⟩ := vals1 rs
  have fin : ∀ h' t tk, (∀ b o, s.heap.get? b = some o → h'.get? b = some o) → EP X pins sg Q (.str d.shown t) { s with heap := h', toks := tk } := fun h' t tk k => ⟨.str d.shown, H, I.kept k, ⟨t, rfl⟩, q⟩
  have big : ∀ {a : Addr} {as : List Addr}, Reads s.heap (.ref a) d as → (d.hasDict = true → sysModules ∉ as) → wpAny (model X.prog X.w) X.A (call (.builtin "repr") [.ref a]) (EP X pins sg Q) X.xe s := fun r n =>
    repr_of_reads' r hs n hg (by omega) (fun b o e => e) fin hz
  rcases dp with dp | ⟨a, kvs, D, rfl, ha, rfl, kd⟩
  · obtain ⟨as, rd⟩ := Dp.reads I d x u dp ru
    have nd := dp_nodict dp
    cases dp with
    | non =>
      cases ru
      exact P.repr_of_none (fin s.heap _ _ fun _ _ e => e)
    | bl b =>
      cases ru
      exact P.repr_of_bool (fin s.heap _ _ fun _ _ e => e)
    | int i =>
      obtain ⟨t, rfl⟩ := ru
      exact P.repr_of_int (by simpa [PyData.showable] using hs) (fin s.heap _ _ fun _ _ e => e)
    | str z =>
      obtain ⟨t, rfl⟩ := ru
      exact P.repr_of_str (fin s.heap _ _ fun _ _ e => e) hz
    | lst h1 h2 =>
      cases ru
      exact big rd (PyData.noDict_hsm nd)
    | tup h1 h2 =>
      cases ru
      exact big rd (PyData.noDict_hsm nd)
  · cases ru
    obtain ⟨_, hd2, vs, rel, dd⟩ := dk_of I.hok ha
    have rd : Reads s.heap (.ref a) (.dict D) (a :: []) := PyProof.V.reads_dictOf (enc := keyData) (knd := mixKind X.prog X.w) (fun k key e => by
      rcases keyIs_shape (k := k) (v := key) e with ⟨i, t, rfl, rfl⟩ | ⟨z, t, rfl, rfl⟩
      · exact .int i t
      · exact .str z t) dd (kvd_reads kd rel)
    refine big rd fun _ hm => ?_
    rw [List.mem_singleton] at hm
    rw [hm] at hd2
    simp at hd2
end
section
variable {X : Cx} {Ga : Nat → Addr} {pin : Pin} {Wd : WX} {ph : Nat → Addr} {h : MH} {r : Mini.Env} {sg : L2.St} {H : Hp} {a b c e : Expr} {es rest : List Expr} {kws : List Keyword} {pos : Pos} {m : Mini.E} {ms mk : Mini.A} {body : List Stmt} {sb : Mini.S}
theorem sclData_ok {w : Mini.W} {d : PyData} (e : sclData w = some d) : SclV (vW ph w) d := by
  cases w <;> first | (cases e; rfl) | (cases e; done)
theorem kvData_ok : ∀ {kvs : List (Sum Int Str × Mini.W)} {D : List (PyData × PyData)}, kvData kvs = some D → KvD (kvV ph kvs) D
  | [], D, e => by cases e; exact .nil
  | p :: r, D, e => by
    simp only [kvData] at e
    cases e1 : sclData p.2 with
    | none => rw [e1] at e; cases e
    | some d =>
      cases e2 : kvData r with
      | none => rw [e1, e2] at e; cases e
      | some ds => rw [e1, e2] at e; cases e; exact .cons (sclData_ok e1) (kvData_ok e2)
theorem f_repr : FnS X Ga fRepr (rRep X.K) := by
  intro Wd ph h H sg xs Q R wx q
  match xs, q with
  | [w], q =>
    simp only [fRepr] at q
    cases e : dataR h w with
    | none => rw [e] at q; exact q.elim
    | some d =>
      rw [e] at q
      simp only [] at q
      by_cases c : d.showable = true ∧ d.depth ≤ 64 ∧ d.shown.length ≤ 10000000
      · rw [if_pos c] at q
        refine ⟨vW ph w, d, rfl, ?_, c.1, c.2.1, m_line c.2.2, rd_ok (w := .str d.shown) q R trivial⟩
        unfold dataR at e
        cases e1 : dicAt h w with
        | none =>
          rw [e1] at e
          exact .inl (dataOf_ok R _ _ _ (wx w List.mem_cons_self) e)
        | some kvs =>
          rw [e1] at e
          simp only [] at e
          cases e2 : kvData kvs with
          | none => rw [e2] at e; cases e
          | some D =>
            rw [e2] at e
            cases e
            cases w with
            | ref n =>
              simp only [dicAt] at e1
              cases e3 : h[n]? with
              | none => rw [e3] at e1; cases e1
              | some cl =>
                rw [e3] at e1
                cases cl with
                | dic kvs2 => cases e1; exact .inr ⟨ph n, _, D, rfl, (R.cells n _ e3).1, rfl, kvData_ok e2⟩
                | _ => cases e1
            | _ => cases e1
      · rw [if_neg c] at q
        exact q.elim
theorem e_repr {p : Pos} (hgu : X.A.guards = some []) (hu : X.A.units + 70 < cLine) (hgl : Gl X "repr") (hm : X.mg "repr" = none) (ha : PE X a (tE X.K Ga pin Wd m)) (he : starEach (a :: []) X.env = (false, eval a X.env) :: starEach [] X.env := by rfl) (hpl : (backTo pos (starEach [] X.env)).any (·.1) = false := by rfl) :
    PE X (.Call (.Name "repr" p) [a] [] pos) (tE X.K Ga pin Wd (eFn fRepr (aCons m aNil))) :=
  e_fnB (call_rep hgu hu) f_repr hgl hm (by decide +kernel) (a_cons ha a_nil he) (by decide) (by decide) he hpl
/-! ### defs -/
structure RoomG (k : Nat) (A : Around) : Prop where
  room : Room k A
  g : A.guards = some []
theorem RoomG.deeper {k : Nat} {A : Around} (q : RoomG (k + 1) A) (env : PySem.Env) : RoomG k (A.deeper env) := ⟨q.room.deeper env, q.g⟩
theorem RoomG.mono {j k : Nat} {A : Around} (q : RoomG k A) (l : j ≤ k) : RoomG j A := ⟨q.room.mono l, q.g⟩
/-- the promise of a def that Mini's function m tells -/
def spM (K : PySem.W.Frag) (Ga : Nat → Addr) (m : Mini.F) : Sp := fun vs H Q E => ∃ ph h ws, HR K Ga ph h H ∧ vs = ws.map (vW ph) ∧ (∀ w ∈ ws, wf h.length w) ∧ rd K Ga (fun c d _ H => E c d H) relW ph h [] (m ws h) Q
structure FnM (P : Program) (w : World) (K : PySem.W.Frag) (mg : Str → Option Value) (base : Heap) (Ga : Nat → Addr) (k : Nat) (f : Addr) (fd : FuncData) (ps : List Str) (m : Mini.F) : Prop where
  len : ∀ ws h, ws.length ≠ ps.length → m ws h = .bad
  run : ∀ (A : Around) (outer : List PySem.Env) (s : Shared) (H : Hp) (args : Args) (us : List Value) (vs : List V) (Q : VK) (E : XK), RoomG k A → Env0 P w K mg base A outer s H → BindsTo s fd args (ps.zip us) → Vals vs us → spM K Ga m vs H Q E →
    codeAny (model P w) A (.call (.ref f) args) (CR (L2.CX P w) outer P w H s Q E) s
theorem FnM.mono {P : Program} {w : World} {K : PySem.W.Frag} {mg : Str → Option Value} {base : Heap} {j k : Nat} {f : Addr} {fd : FuncData} {ps : List Str} {m : Mini.F} (F : FnM P w K mg base Ga j f fd ps m) (l : j ≤ k) : FnM P w K mg base Ga k f fd ps m :=
  ⟨F.len, fun A outer s H args us vs Q E hr => F.run A outer s H args us vs Q E (hr.mono l)⟩
theorem fnOf_len {n p : Nat} {b : Mini.S} {ws : List Mini.W} {h : MH} (c : ws.length ≠ p) : fnOf n p b ws h = .bad := by
  unfold fnOf
  rw [if_neg c]
theorem sr_start {K : PySem.W.Frag} {ws : List Mini.W} {N : List Str} (R : HR K Ga ph h H) (hw : ∀ w ∈ ws, wf h.length w) : SR K Ga none ph h (begin_ N.length ws) (L2.start N (ws.map (vW ph))) H := by
  refine ⟨R, ?_, fun i w e => ?_, fun _ e => nomatch e⟩
  · unfold begin_ L2.start
    simp only [List.length_append, List.length_map, List.length_replicate]
  · unfold begin_ at e
    unfold L2.start
    by_cases c : i < (ws.map some).length
    · rw [List.getElem?_append_left c, List.getElem?_map] at e
      rw [List.getElem?_append_left (by rw [List.length_map, List.length_map]; rw [List.length_map] at c; exact c), List.getElem?_map, List.getElem?_map]
      cases e1 : ws[i]? with
      | none => rw [e1] at e; cases e
      | some u =>
        rw [e1] at e
        cases e
        exact ⟨rfl, hw _ (List.mem_of_getElem? e1)⟩
    · rw [List.getElem?_append_right (by omega)] at e
      have := List.mem_replicate.mp (List.mem_of_getElem? e)
      exact nomatch this.2
/-- THE RULE for a def: its body does what Mini's statement does -/
theorem fnm_of {P : Program} {w : World} {K : PySem.W.Frag} {mg : Str → Option Value} {base : Heap} {k : Nat} {f : Addr} {name qual : Str} {params : Arguments} {bd : List Stmt} {scope : Scope} {dV kV doc pm cdv ct oc : Value} {an od : Option Addr} {osl : Array (Option Value)} {N ps : List Str}
    (lk : K.lookup f = some ⟨oc, od, .func (PySem.W.fnOf name qual params bd scope dV kV doc pm an cdv ct), osl⟩) (hcd : PySem.W.codeIn K cdv qual = true) (S : FnScope N ps scope)
    (hbody : ∀ (A : Around) (outer : List PySem.Env) (s : Shared) (H : Hp) (E : XK), RoomG k (A.deeper (envOfC qual scope s.heap.objs.size f cdv)) →
      PSs (cxOf (L2.CX P w) P w K mg base N qual scope f cdv A outer s H E) bd (tS K Ga none (fun c d _ H => E c d H) sb)) :
    FnM P w K mg base Ga (k + 1) f (PySem.W.fnOf name qual params bd scope dV kV doc pm an cdv ct) ps (fnOf N.length ps.length sb) := by
  refine ⟨fun ws h c => fnOf_len c, fun A outer s H args us vs Q E hr e0 hb rv hsp => ?_⟩
  obtain ⟨ph, h, ws, R, rfl, hw, x⟩ := hsp
  have hl : ws.length = ps.length := by
    by_cases c : ws.length = ps.length
    · exact c
    · rw [fnOf_len c] at x; exact x.elim
  have hl2 : (ws.map (vW ph)).length = ps.length := by rw [List.length_map]; exact hl
  have KX : K.In s.heap := e0.mod.kin.keeps (fun b o e => (e0.bs b o e).1)
  have lim : s.heap.NoLimit := e0.mod.nolimit.keeps (fun b o e => (e0.bs b o e).1)
  refine codeAny_call_function hr.room.depth (KX _ _ lk) rfl S.co S.gen rfl (PySem.W.codeRec_of KX hcd) (hb _ _ _ _ ?_)
  refine wpAny_newFunctionEnv_cells S.kind (fun ⟨n, v⟩ hy => ?_) fun env he s1 z => ?_
  · rcases S.par n (List.of_mem_zip hy).1 with q | q
    · exact .inl q
    · exact Or.inr ⟨q, PySem.W.cellsFrom_some _ _ _ (.inl q)⟩
  subst he
  refine ⟨lim.keeps z.toInCall.keep, codeAny_func ?_⟩
  have I : Inv (cxOf (L2.CX P w) P w K mg base N qual scope f cdv A outer s H E) [] (L2.start N (ws.map (vW ph))) H s1 := inv_start S hr.room.hd e0 hl2 rv z
  have body := hbody A outer s H E (hr.deeper _)
  have want : tS K Ga none (fun c d _ H => E c d H) sb { nx := fun _ H' => Q .non H', rt := Q } (L2.start N (ws.map (vW ph))) H := by
    refine ⟨ph, h, begin_ N.length ws, sr_start R hw, ?_⟩
    unfold fnOf at x
    rw [if_pos hl] at x
    cases e : sb (begin_ N.length ws) h with
    | ok fl r1 h1 =>
      rw [e] at x
      cases fl with
      | nx => exact fun ph' sg' H' g S' => x ph' H' .non g S'.hr ⟨rfl, trivial⟩
      | rt u => exact fun ph' H' g R' wu => x ph' H' _ g R' ⟨rfl, wu⟩
      | bk => exact x.elim
      | ct => exact x.elim
    | exc c d r1 h1 =>
      rw [e] at x
      exact fun ph' sg' H' g S' hd => x ph' H' g S'.hr hd
    | bad => rw [e] at x; exact x.elim
  refine wpAny_mono (body.run [] s1 _ H _ I want) (fun fl s' q => ?_) fun e s' q => q
  have fin : ∀ {sg' : L2.St} {H' : Hp} {v : V} {u : Value}, Inv (cxOf (L2.CX P w) P w K mg base N qual scope f cdv A outer s H E) [] sg' H' s' → RelV v u → Q v H' → CE outer P w H s Q u s' :=
    fun {sg' H' v u} J rv q => ⟨v, H', J.os, J.bare, J.base, J.hok, rv, q⟩
  cases fl with
  | ret u => obtain ⟨v, sg', H', J, rv, q⟩ := q; exact fin J rv q
  | next => obtain ⟨sg', H', J, q⟩ := q; exact fin (v := .non) (u := .none) J rfl q
  | brk => obtain ⟨_, _, _, q⟩ := q; exact q.elim
  | cont => obtain ⟨_, _, _, q⟩ := q; exact q.elim
/-! ### calls -/
theorem run_m {k : Nat} {f : Addr} {fd : FuncData} {ps : List Str} {mf : Mini.F} {pins : List (Addr × Obj)} {s : Shared} {Q : VK} {us : List Value} {args : Args} {ws : List Mini.W} (F : FnM X.prog X.w X.K X.mg X.base Ga k f fd ps mf) (hr : RoomG k X.A) (tk : Takes X Wd)
    (hb : ws.length = ps.length → BindsTo s fd args (ps.zip us)) (I : Inv X pins sg H s) (R : HR X.K Ga ph h H) (hw : ∀ w ∈ ws, wf h.length w) (rv : Vals (ws.map (vW ph)) us) (x : rd X.K Ga Wd relW ph h sg (mf ws h) Q) :
    codeAny (model X.prog X.w) X.A (.call (.ref f) args) (fun rr s' => match rr with | .ok (.ret u) => EP X pins sg Q u s' | .ok _ => False | .error e => X.xe e s') s := by
  have hl : ws.length = ps.length := by
    by_cases c : ws.length = ps.length
    · exact c
    · rw [F.len ws h c] at x; exact x.elim
  have x2 : rd X.K Ga (fun c d _ H => Wd c d sg H) relW ph h [] (mf ws h) Q := by
    revert x
    generalize mf ws h = qq
    intro x
    cases qq with
    | ok a h' => exact x
    | exc c d h' => exact x
    | bad => exact x
  refine codeAny_mono (F.run X.A X.stack s H args us _ Q (fun c d H => Wd c d sg H) hr I.env0 (hb hl) rv ⟨ph, h, ws, R, rfl, hw, x2⟩) fun rr s' q => ?_
  cases rr with
  | error e => exact passAt tk sg pins H s e s' I q
  | ok fl => cases fl with
    | ret u => exact I.after q
    | next => exact False.elim q
    | brk => exact False.elim q
    | cont => exact False.elim q
theorem e_call {x : Str} {p : Pos} {k : Nat} {f : Addr} {fd : FuncData} {ps : List Str} {mf : Mini.F} (F : FnM X.prog X.w X.K X.mg X.base Ga k f fd ps mf) (hr : RoomG k X.A) (hg : Gl X x) (hm : X.mg x = some (.ref f)) (hk : PySem.W.keepIn X.K (.ref f) = true) (hb : Binds X.K fd ps []) (tk : Takes X Wd)
    (ha : PA X (e :: es) (tA X.K Ga pin Wd ms)) (hdb : (x == ("__debug__" : Str)) = false := by decide) (he : starEach (e :: es) X.env = (false, eval e X.env) :: starEach es X.env := by rfl) (hpl : (backTo pos (starEach es X.env)).any (·.1) = false := by rfl) :
    PE X (.Call (.Name x p) (e :: es) [] pos) (tE X.K Ga pin Wd (Mini.eCall mf ms)) := by
  refine ⟨fun pins s sg H Q I ⟨ph, h, r, S, x⟩ => ?_⟩
  refine wpAny_Call_Name_kw (ld_glob I hg hm (?_ : _) hdb)
  have y : tA X.K Ga pin Wd ms sg H (fun vs H1 => ∃ ph1 h1 ws, HR X.K Ga ph1 h1 H1 ∧ vs = ws.map (vW ph1) ∧ (∀ w ∈ ws, wf h1.length w) ∧ rd X.K Ga Wd relW ph1 h1 sg (mf ws h1) Q) :=
    ⟨ph, h, r, S, x.bind fun ws h1 _ ph1 H1 b1 g1 R1 ⟨eb1, w1⟩ x1 => ⟨ph1, h1, ws, R1, eb1, w1, x1⟩⟩
  refine PySem.W.callWith_K (h₀ := X.base) I.ok.mod.kin hk (thn (ha.run pos pins s sg H _ I y) fun us s1 ⟨vs, H1, I1, rv, ph1, h1, ws, R1, ev, w1, x1⟩ => ⟨I1.kIn, ?_⟩) he hpl
  subst ev
  refine wpAny_call (codeAny_mono (run_m F hr tk (fun hl => ?_) I1 R1 w1 rv x1) fun rr s' q => ?_)
  · have b := hb s1 us I1.kIn (by rw [List.append_nil, ← rv.length, List.length_map]; exact hl)
    rw [List.append_nil] at b
    exact b
  · cases rr with
    | error e => exact q
    | ok fl => cases fl <;> first | exact q | exact q.elim
theorem e_call0 {x : Str} {p : Pos} {k : Nat} {f : Addr} {fd : FuncData} {ps : List Str} {mf : Mini.F} (F : FnM X.prog X.w X.K X.mg X.base Ga k f fd ps mf) (hr : RoomG k X.A) (hg : Gl X x) (hm : X.mg x = some (.ref f)) (hk : PySem.W.keepIn X.K (.ref f) = true) (hb : Binds X.K fd ps []) (tk : Takes X Wd)
    (hdb : (x == ("__debug__" : Str)) = false := by decide) : PE X (.Call (.Name x p) [] [] pos) (tE X.K Ga pin Wd (Mini.eCall mf aNil)) := by
  refine ⟨fun pins s sg H Q I ⟨ph, h, r, S, x⟩ => ?_⟩
  refine wpAny_Call_Name_kw (ld_glob I hg hm (?_ : _) hdb)
  refine PySem.W.callWith_KW0 (h₀ := X.base) I.ok.mod.kin hk rfl ?_ rfl
  have x2 : rd X.K Ga Wd relW ph h sg (mf [] h) Q := x
  refine thn ((pk_nil (X := X)).run pos pins s sg H (fun zs H1 => zs = [] ∧ H1 = H) I ⟨rfl, rfl⟩) fun us s1 ⟨vs, H1, I1, rv, e1, e2⟩ => ⟨I1.kIn, ?_⟩
  subst e1
  subst e2
  cases rv
  refine wpAny_call (codeAny_mono (run_m (ws := []) (us := []) F hr tk (fun hl => ?_) I1 S.hr (fun _ hx => nomatch hx) .nil x2) fun rr s' q => ?_)
  · have b := hb s1 [] I1.kIn (by rw [List.append_nil]; exact hl)
    rw [List.append_nil] at b
    exact b
  · cases rr with
    | error e => exact q
    | ok fl => cases fl <;> first | exact q | exact q.elim
end
end Br
set_option Elab.async false
set_option autoImplicit false
set_option linter.all false
set_option maxRecDepth 100000
set_option maxHeartbeats 1100000
namespace Br
open PySem PySem.Spec PyProof.Rows L2 Mini
/-! ### the end of a law -/
/-- the cell of the script -/
def Script (ns : List Int) (c : Cell) : Prop := c = .fz (ns.map .int) ∨ c = .cl (ns.map .int)
theorem map_ints {ph : Nat → Addr} {ns : List Int} : (ns.map Mini.W.int).map (vW ph) = ns.map V.int := by rw [List.map_map]; rfl
theorem wf_ints {n : Nat} {ns : List Int} : ∀ x ∈ ns.map Mini.W.int, wf n x := fun x hx => by
  obtain ⟨i, _, rfl⟩ := List.mem_map.mp hx
  trivial
theorem one_cell {K : PySem.W.Frag} {Ga : Nat → Addr} {a : Addr} {c : Cell} {H : Hp} (q : CellAt K Ga (fun _ => a) 1 H a c) : HR K Ga (fun _ => a) [c] H := by
  constructor
  · intro i x e
    cases i with
    | zero => cases e; exact q
    | succ i => simp at e
  · intro i j ci cj ne ei ej _ _
    cases i with
    | zero => cases j with
      | zero => exact absurd rfl ne
      | succ j => simp at ej
    | succ i => simp at ei
theorem law_run {P : Program} {w : World} {K : PySem.W.Frag} {mg mb : Str → Option Value} {Ga : Nat → Addr} {k : Nat} {fa a : Addr} {fd : FuncData} {x : Str} {m : Mini.F} {s1 : Shared} {vs : List Value} {ns : List Int}
    (KX : K.In s1.heap) (hns : s1.heap.Ns mainGlobals mg) (hb : s1.heap.Ns builtinsNs mb) (hbb : ∀ x : Str, x ≠ "__name__" → mb x = bootBuiltins x) (hlim : s1.heap.NoLimit) (hg : s1.gens = #[])
    (ha : s1.heap.get? a = some { cls := .type "list", data := .seq vs.toArray }) (hi : IntsAre vs ns) (hl : ns.length ≤ sizeLine) (hr : RoomG k callerA)
    (F : ∀ base : Heap, K.In base → base.Ns mainGlobals mg → FnM P w K mg base Ga k fa fd [x] m) (hbind : ∀ (s : Shared) (u : Value), BindsTo s fd ⟨[u], []⟩ [(x, u)])
    (hm : ∀ c, Script ns c → ∃ h, m [.ref 0] [c] = .ok (.bl true) h) :
    codeAny (model P w) callerA (.call (.ref fa) ⟨[.ref a], []⟩) (fun r s' => r = .ok (.ret (.bool true)) ∧ OldK s1.heap s'.heap ∧ s'.os = s1.os ∧ AllBare s'.gens) s1 := by
  have rv := vals_ints hi
  have lenV := hi.length
  have core : ∀ (H : Hp) (c : Cell), Only H → Script ns c → CellAt K Ga (fun _ => a) 1 H a c → HOk P w H s1.heap → (∀ b, H b ≠ none → b = a) → (H a ≠ none → K.lookup a = none) →
      codeAny (model P w) callerA (.call (.ref fa) ⟨[.ref a], []⟩) (fun r s' => r = .ok (.ret (.bool true)) ∧ OldK s1.heap s'.heap ∧ s'.os = s1.os ∧ AllBare s'.gens) s1 := by
    intro H c hO hc hcell hok only free
    have none_at : ∀ {b : Addr} {o : Obj}, s1.heap.get? b = some o → (b = a → False) → H b = none := fun {b o} _ ne => by
      cases q : H b with
      | none => rfl
      | some u => exact (ne (only b (by rw [q]; simp))).elim
    have dict_none : ∀ {b : Addr} {o : Obj} {es : Array DictEntry} {ep : Nat}, s1.heap.get? b = some o → o.data = .dict es ep → H b = none := fun {b o es ep} e d => none_at e fun z => by
      subst z
      rw [ha] at e
      cases e
      exact nomatch (show Data.seq vs.toArray _ = Data.dict es ep from d)
    have ns_of : ∀ {b : Addr} {mm : Str → Option Value}, s1.heap.Ns b mm → (hidT s1.heap H).Ns b mm := fun {b mm} ⟨o, es, ep, e, d, rr⟩ => ⟨o, es, ep, hidT_get e (dict_none e d), d, rr⟩
    have hKb : K.In (hidT s1.heap H) := fun b o e => hidT_get (KX b o e) (by
      cases q : H b with
      | none => rfl
      | some u =>
        have z := only b (by rw [q]; simp)
        subst z
        rw [free (by rw [q]; simp)] at e
        cases e)
    obtain ⟨mc, l1, l2⟩ := hlim
    have hM : Mod K mg (hidT s1.heap H) := ⟨hKb, ns_of hns, ⟨mb, ns_of hb, hbb⟩, ⟨mc, ns_of l1, l2⟩⟩
    have e0 : Env0 P w K mg (hidT s1.heap H) callerA [] s1 H := ⟨rfl, hM, fun b o e => of_hidT e, Nat.le_of_eq (hidT_size _ _), trivial, fun b hb => (nomatch (show b ∈ ([] : List Addr) from hb)), hok, .of_eq hg⟩
    obtain ⟨hh, hrun⟩ := hm c hc
    have want : spM K Ga m [.ref a] H (fun v _ => v = .bl true) (fun _ _ _ => False) := by
      refine ⟨fun _ => a, [c], [.ref 0], one_cell hcell, rfl, fun y hy => by rw [List.mem_singleton.mp hy]; exact Nat.lt_succ_self 0, ?_⟩
      rw [hrun]
      exact fun _ _ b _ _ rl => rl.1
    refine codeAny_mono ((F _ hKb (ns_of hns)).run callerA [] s1 H ⟨[.ref a], []⟩ [.ref a] [.ref a] _ _ hr e0 (hbind s1 (.ref a)) (.cons rfl .nil) want) fun rr s' q => ?_
    cases rr with
    | error e =>
      obtain ⟨_, _, _, _, _, _, _, _, _, _, _, _, z⟩ := (show L2.CX P w [] H s1 (fun _ _ _ => False) e s' from q)
      exact z.elim
    | ok fl =>
      cases fl with
      | ret u =>
        obtain ⟨v, H', os, bare, un, hok2, r2, q2⟩ := q
        have q3 : v = .bl true := q2
        subst q3
        obtain rfl : u = Value.bool true := r2
        refine ⟨rfl, OldK.of_keep (fun b o e => ?_), os, bare⟩
        rcases (hO b) with z | ⟨ob, xs, z⟩
        · exact un.keep b o e z (fun y => nomatch (show b ∈ ([] : List Addr) from y)) (by simp)
        · obtain ⟨e1, _⟩ := hok b _ z
          obtain ⟨e2, _⟩ := hok2 b _ (un.frzs b ob _ z)
          rw [e] at e1
          cases e1
          exact e2
      | next => exact False.elim q
      | brk => exact False.elim q
      | cont => exact False.elim q
  cases hk : K.lookup a with
  | some o =>
    have e := KX a o hk
    rw [ha] at e
    cases e
    exact core (fun _ => none) (.cl (ns.map .int)) (fun _ => .inl rfl) (.inr rfl) ⟨⟨_, vs.toArray, _, hk, rfl, rfl, rfl, by rw [List.size_toArray, lenV]; exact hl, by rw [map_ints]; simpa using rv⟩, wf_ints⟩
      (fun b u z => nomatch (show (none : Option HO) = some u from z)) (fun b z => absurd rfl z) fun z => absurd rfl z
  | none =>
    refine core (fun b => if b = a then some (.frz { cls := .type "list", data := .seq vs.toArray } (.lst (ns.map V.int))) else none) (.fz (ns.map .int)) (fun b => ?_) (.inl rfl) ⟨⟨{ cls := .type "list", data := .seq vs.toArray }, by rw [map_ints]; exact if_pos rfl⟩, wf_ints⟩ (fun b u z => ?_) (fun b z => ?_) fun _ => hk
    · by_cases hb : b = a
      · exact Or.inr ⟨_, _, if_pos hb⟩
      · exact .inl (if_neg hb)
    · by_cases hb : b = a
      · have z2 := (if_pos hb).symm.trans z
        cases z2
        subst hb
        exact ⟨ha, (by rw [List.length_map]; exact hl), vs, _, rv, ha⟩
      · exact nomatch (if_neg hb).symm.trans z
    · by_cases hb : b = a
      · exact hb
      · exact absurd (if_neg hb) z
theorem roomG_caller {k : Nat} (h : k ≤ 100) : RoomG k callerA :=
  ⟨(show Room 100 callerA from ⟨rfl, by decide, by decide⟩).mono h, rfl⟩
theorem walk_m {l : PySem.W.OpenLaw} {n k : Nat} {q : Program} {loose : List Str} {XP : (Str → Option Value) → Heap → Prop} {YP : World → Heap → Prop} {d : DefRec} {K : Params → PySem.W.Frag} {m : Mini.F} {x : Str}
    (hn : l.most = some n) (hn2 : n ≤ sizeLine) (hdf : d.params.defaults = []) (hk : k ≤ 100) (hY : ∀ (w : World) (h : Heap), YP w h → (K w.params).In h)
    (F : ∀ (w : World) (mg : Str → Option Value) (fa : Addr) (h : Heap),
      (K w.params).In h → h.Ns mainGlobals mg → mg d.name = some (.ref fa) →
      ∃ (fd : FuncData) (Ga : Nat → Addr), (∀ (s : Shared) (u : Value), BindsTo s fd ⟨[u], []⟩ [(x, u)]) ∧
        ∀ base : Heap, (K w.params).In base → base.Ns mainGlobals mg → FnM l.prog w (K w.params) mg base Ga k fa fd [x] m)
    (hm : ∀ (ns : List Int) (c : Cell), ns.length ≤ n → Script ns c → ∃ h, m [.ref 0] [c] = .ok (.bl true) h) :
    PySem.W.WalkO q loose XP YP l.row.toRowW d []
      (fun f vs => PySem.call f vs) := by
  refine Att.attach_call hn hdf fun w s0 s1 mg mb fa o pm cd doc a vs ns G Y ho hd hcd hmg hobj hints hlen hg => ?_
  have KX := hY w _ Y
  obtain ⟨fd, Ga, hb, hF⟩ := F w mg fa _ KX G.T.g hmg
  exact law_run KX G.T.g G.T.b G.T.builtins G.T.nolimit hg hobj hints (Nat.le_trans hlen hn2) (roomG_caller hk) hF hb fun c hc => hm ns c hlen hc
section
variable {X : Cx} {Ga : Nat → Addr} {pin : Pin} {Wd : WX} {ph : Nat → Addr} {h : MH} {r : Mini.Env} {sg : L2.St} {H : Hp} {a b c e : Expr} {es rest : List Expr} {kws : List Keyword} {pos : Pos} {m : Mini.E} {ms mk : Mini.A} {body : List Stmt} {sb : Mini.S}
/-! ### calls by keywords -/
theorem k_nil : PK X [] (tA X.K Ga pin Wd aNil) := ⟨fun pos pins s sg H Q I ⟨ph, h, r, S, x⟩ => pk_nil.run pos pins s sg H Q I (rd_okA (ws := []) x S.hr (fun _ hx => nomatch hx))⟩
theorem k_cons {nm : Option Str} {kpos : Pos} (ha : PE X e (tE X.K Ga pin Wd m)) (hr : PK X kws (tA X.K Ga pin Wd mk)) : PK X (⟨nm, e, kpos⟩ :: kws) (tA X.K Ga pin Wd (aCons m mk)) := by
  refine ⟨fun pos pins s sg H Q I ⟨ph, h, r, S, x⟩ => (pk_cons ha hr).run pos pins s sg H Q I ?_⟩
  refine ⟨ph, h, r, S, x.bind fun u h1 _ ph1 H1 b1 g1 R1 ⟨eb1, w1⟩ x1 => ?_⟩
  refine ⟨ph1, h1, r, S.grow g1 R1, x1.bind fun us h2 _ ph2 H2 b2 g2 R2 ⟨eb2, w2⟩ x2 => ?_⟩
  rw [eb1, eb2, ← g2.v w1]
  refine rd_okA (ws := u :: us) x2 R2 fun w hw => ?_
  rcases List.mem_cons.mp hw with hw | hw
  · rw [hw]; exact w1.mono g2.le
  · exact w2 w hw
theorem pick_map {α β : Type} (f : α → β) (is : List Nat) (l : List α) : pick is (l.map f) = (pick is l).map f := by
  unfold pick
  induction is with
  | nil => rfl
  | cons i is ih =>
    rw [List.filterMap_cons, List.filterMap_cons, List.getElem?_map]
    cases l[i]? with
    | none => exact ih
    | some x => show f x :: _ = f x :: _; rw [ih]
theorem pick_mem {α : Type} {is : List Nat} {l : List α} {x : α} (h : x ∈ pick is l) : x ∈ l := by
  unfold pick at h
  obtain ⟨i, _, e⟩ := List.mem_filterMap.mp h
  exact List.mem_of_getElem? e
theorem pick_vals {is : List Nat} {xs : List V} {us : List Value} (rv : Vals xs us) : Vals (pick is xs) (pick is us) := by
  unfold pick
  induction is with
  | nil => exact .nil
  | cons i is ih =>
    rw [List.filterMap_cons, List.filterMap_cons]
    cases e : xs[i]? with
    | none => rw [rv.none_of e]; exact ih
    | some x =>
      obtain ⟨u, e2, ru⟩ := rv.get e
      rw [e2]
      exact .cons ru ih
/-- how the arguments of such a call bind -/
def KB (fd : FuncData) (ps : List Str) (n : Nat) (ks : List Str) (is : List Nat) : Prop := ∀ (s : Shared) (us ws : List Value), us.length = n → ws.length = ks.length → BindsTo s fd ⟨us, ks.zip ws⟩ (ps.zip (pick is (us ++ ws)))
/-- f(k = b, ..) -/
theorem e_callK0 {x : Str} {p : Pos} {k n : Nat} {is : List Nat} {f : Addr} {fd : FuncData} {ps ks : List Str} {mf : Mini.F} (F : FnM X.prog X.w X.K X.mg X.base Ga k f fd ps mf) (hr : RoomG k X.A) (hg : Gl X x) (hm : X.mg x = some (.ref f)) (hk : PySem.W.keepIn X.K (.ref f) = true) (hb : KB fd ps 0 ks is) (tk : Takes X Wd)
    (hkw : PK X kws (tA X.K Ga pin Wd mk)) (hn : ks.length = n) (hall : (backToKw pos (keywordEach kws X.env)).all (·.1.isSome) = true := by rfl) (hks : (backToKw pos (keywordEach kws X.env)).filterMap (·.1) = ks := by rfl) (hdb : (x == ("__debug__" : Str)) = false := by decide)
    (hpl : ((backTo pos (starEach [] X.env)).any (·.1) || (backToKw pos (keywordEach kws X.env)).any (·.1.isNone))
      = false := by rfl) :
    PE X (.Call (.Name x p) [] kws pos) (tE X.K Ga pin Wd (Mini.eCallK mf is aNil (aN n mk))) := by
  refine ⟨fun pins s sg H Q I ⟨ph, h, r, S, x⟩ => ?_⟩
  refine wpAny_Call_Name_kw (ld_glob I hg hm (?_ : _) hdb)
  have x0 : rd X.K Ga Wd relW ph h sg ((aN n mk r h).bind fun ys h2 => mf (pick is ([] ++ ys)) h2) Q := x
  have y : tA X.K Ga pin Wd mk sg H (fun vs H1 => ∃ ph1 h1 ws, ws.length = n ∧ HR X.K Ga ph1 h1 H1 ∧ vs = ws.map (vW ph1) ∧ (∀ w ∈ ws, wf h1.length w) ∧ rd X.K Ga Wd relW ph1 h1 sg (mf (pick is ws) h1) Q) := by
    refine ⟨ph, h, r, S, ?_⟩
    unfold aN at x0
    cases e : mk r h with
    | ok ws h1 =>
      rw [e] at x0
      have x1 : rd X.K Ga Wd relW ph h sg ((if ws.length = n then Mini.R.ok ws h1 else .bad).bind fun ys h2 => mf (pick is ([] ++ ys)) h2) Q := x0
      by_cases c : ws.length = n
      · rw [if_pos c] at x1
        intro ph1 H1 b1 g1 R1 rl
        exact ⟨ph1, h1, ws, c, R1, rl.1, rl.2, rd.base g1 x1⟩
      · rw [if_neg c] at x1; exact x1.elim
    | exc cc d h1 => rw [e] at x0; exact x0
    | bad => rw [e] at x0; exact x0.elim
  refine PySem.W.callWith_KW0 (h₀ := X.base) I.ok.mod.kin hk hall ?_ hpl
  refine thn (hkw.run pos pins s sg H _ I y) fun us s1 ⟨vs, H1, I1, rv, ph1, h1, ws, lw, R1, ev, w1, x1⟩ => ⟨I1.kIn, ?_⟩
  rw [hks]
  subst ev
  have rv2 : Vals ((pick is ws).map (vW ph1)) (pick is us) := by rw [← pick_map]; exact pick_vals rv
  refine wpAny_call (codeAny_mono (run_m F hr tk (fun hl => ?_) I1 R1 (fun w hw => w1 w (pick_mem hw)) rv2 x1) fun rr s' q => ?_)
  · exact hb s1 [] us rfl (by rw [hn, ← rv.length, List.length_map]; exact lw)
  · cases rr with
    | error e => exact q
    | ok fl => cases fl <;> first | exact q | exact q.elim
/-- isinstance(x, (T, U)) -/
theorem e_isi2 {x T U : Str} {ty tu : Mini.Ty} {p p2 p3 p4 : Pos} {k4 : Nat} (hx : x = "isinstance") (hgl : Gl X x) (hm : X.mg x = none) (hgl2 : Gl X T) (hm2 : X.mg T = none) (hv2 : bootBuiltins T = some (.type (tyName ty))) (hgl3 : Gl X U) (hm3 : X.mg U = none) (hv3 : bootBuiltins U = some (.type (tyName tu)))
    (ha : PE X a (tE X.K Ga pin Wd m)) (hn2 : T ≠ "__name__" := by decide) (hd2 : (T == ("__debug__" : Str)) = false := by decide) (hn3 : U ≠ "__name__" := by decide) (hd3 : (U == ("__debug__" : Str)) = false := by decide)
    (he : starEach (a :: [.Tuple [.Name T p2, .Name U p3] k4 p4]) X.env = (false, eval a X.env) :: starEach [.Tuple [.Name T p2, .Name U p3] k4 p4] X.env := by rfl)
    (he2 : starEach (.Tuple [.Name T p2, .Name U p3] k4 p4 :: []) X.env = (false, eval (.Tuple [.Name T p2, .Name U p3] k4 p4) X.env) :: starEach [] X.env := by rfl)
    (he3 : starEach (.Name T p2 :: [.Name U p3]) X.env = (false, eval (.Name T p2) X.env) :: starEach [.Name U p3] X.env := by rfl) (he4 : starEach (.Name U p3 :: []) X.env = (false, eval (.Name U p3) X.env) :: starEach [] X.env := by rfl)
    (hpl : (backTo pos (starEach [.Tuple [.Name T p2, .Name U p3] k4 p4] X.env)).any (·.1) = false := by rfl) :
    PE X (.Call (.Name x p) [a, .Tuple [.Name T p2, .Name U p3] k4 p4] [] pos) (tE X.K Ga pin Wd (eUn (gIsi2 ty tu) m)) := by
  subst hx
  have ht : PE X (.Name T p2) (tC (.ty (tyName ty))) := pe_bltn hgl2 hm2 hv2 rfl hn2 hd2
  have hu : PE X (.Name U p3) (tC (.ty (tyName tu))) := pe_bltn hgl3 hm3 hv3 rfl hn3 hd3
  refine PE.imp (pe_callB call_isiTE hgl hm (by decide +kernel) (pa_cons ha (pa_cons (pe_tup (pa_cons ht (pa_cons hu pa_nil he4) he3)) pa_nil he2) he) (by decide) (by decide) he hpl) fun sg H Q ⟨ph, h, r, s, x⟩ => ?_
  refine ⟨ph, h, r, s, x.bind fun u h1 _ ph1 H1 b1 g1 R1 ⟨eb1, w1⟩ x1 => ?_⟩
  unfold gIsi2 at x1
  by_cases kn : known u h1 = true
  · rw [if_pos kn] at x1
    rw [eb1]
    refine ⟨by show 2 ≤ sizeLine; exact m_line3 (by decide), fun tp htp => ?_⟩
    -- the tuple of types, laid beside: a cell that Mini has not
    have R2 : HR X.K Ga ph1 h1 (upd H1 tp (.tup [V.ty (tyName ty), V.ty (tyName tu)])) := by
      refine ⟨fun i c e => (R1.cells i c e).to (Nat.le_refl _) (fun _ _ => rfl) fun t => ?_, R1.inj⟩
      obtain ⟨o, ho⟩ := (R1.cells i c e).some t
      exact upd_ne fun z => by rw [z, htp] at ho; cases ho
    have q := x1.ok1 ph1 _ _ (Grow.refl _ _) R2 ⟨rfl, trivial⟩
    obtain ⟨tt, tx, kt⟩ := tyx_of R2 kn
    refine ⟨_, tp, [V.ty (tyName ty), V.ty (tyName tu)], tt, [.type (tyName ty), .type (tyName tu)], isTy (Mini.kindOf u h1) ty || isTy (Mini.kindOf u h1) tu, rfl, upd_same, .cons (.ty _) (.cons (.ty _) .nil), tx, ?_, q⟩
    refine kitAny_cons (kt _) (fun z => ?_) fun z => by rw [z]; rfl
    rw [z]
    refine kitAny_cons (kt _) (fun z => ?_) fun z => by rw [z]; rfl
    rw [z]
    exact kitAny_nil
  · rw [if_neg kn] at x1
    exact x1.elim
end
/-! ### short words -/
section
variable {X : Cx} {Ga : Nat → Addr} {pin : Pin} {Wd : WX}
theorem v_ (i : Nat) {x : Str} {pos : Pos} (hN : X.N[i]? = some x := by rfl) (hv : Vis X.env.scope x := by first | exact Or.inl rfl | exact Or.inr (Or.inl rfl) | exact Or.inr (Or.inr rfl)) (hd : (x == ("__debug__" : Str)) = false := by decide)
    (hcd : (x == ("__classdict__" : Str)) = false := by decide) : PE X (.Name x pos) (tE X.K Ga pin Wd (eVar i)) := e_var hN hv hd hcd
theorem g_ (i : Nat) {x : Str} {pos : Pos} (hN : X.N.Nodup) (hl : pin.lets i) (hi : X.N[i]? = some x := by rfl) (hx : Loc X.env.scope x := by first | exact Or.inl rfl | exact Or.inr rfl) (hf : X.fn x = true ∨ X.env.scope.names.lookup x = some .local := by first | exact .inl rfl | exact .inr rfl) : Tg X Ga pin [i] (.Name x pos) (gSet i) := g_name hN hi hx hl hf
/-- a comprehension's own names -/
theorem b_ (i : Nat) {x : Str} (X : Cx) (Ga : Nat → Addr) : TgS X Ga none [i] (gSet i) (gName i) := fun ph h r sg H w Q s hw q => q ph _ H (Grow.refl _ _) (s.put hw lets0) ⟨List.length_set, fun j hj => List.getElem?_set_ne (fun z => hj (by rw [← z]; exact List.mem_cons_self))⟩
theorem bs_nil (X : Cx) (Ga : Nat → Addr) : TgsS X Ga none [] [] gNil := fun ph h r sg H ws Q s hw q => by
  cases ws with
  | nil => exact ⟨rfl, q ph sg H (Grow.refl _ _) s (Fr_.refl _ _)⟩
  | cons w ws => exact q.elim
theorem bs_cons {X : Cx} {Ga : Nat → Addr} {is js : List Nat} {g : Mini.G} {gs : List Mini.G} {t : TG} {ts : TGs} (z1 : TgS X Ga none is g t) (z2 : TgsS X Ga none js gs ts) : TgsS X Ga none (is ++ js) (g :: gs) (gCons t ts) := fun ph h r sg H ws Q s hw q => by
  cases ws with
  | nil => exact q.elim
  | cons w ws =>
    refine ⟨vW ph w, ws.map (vW ph), rfl, z1 ph h r sg H w _ s (hw w List.mem_cons_self) ?_⟩
    have q' : rdG X.K Ga none (is ++ js) ph h sg ((g w r h).bind fun r1 h1 => gAll gs ws r1 h1) Q := q
    cases e : g w r h with
    | ok r1 h1 =>
      rw [e] at q'
      intro ph' sg' H' g' S' f'
      have hw' : ∀ x ∈ ws, wf h.length x := fun x hx => hw x (List.mem_cons_of_mem _ hx)
      rw [← g'.vs hw']
      refine z2 ph' h1 r1 sg' H' ws _ S' (fun x hx => (hw' x hx).mono g'.le) ?_
      have q2 : rdG X.K Ga none (is ++ js) ph h sg (gAll gs ws r1 h1) Q := q'
      cases e2 : gAll gs ws r1 h1 with
      | ok r2 h2 =>
        rw [e2] at q2
        exact fun ph2 sg2 H2 g2 S2 f2 => q2 ph2 sg2 H2 (g'.trans g2) S2 ⟨f2.1.trans f'.1, fun j hj => (f2.2 j (fun z => hj (List.mem_append_right _ z))).trans (f'.2 j (fun z => hj (List.mem_append_left _ z)))⟩
      | exc c d h2 => rw [e2] at q2; exact q2.elim
      | bad => rw [e2] at q2; exact q2.elim
    | exc c d h1 => rw [e] at q'; exact q'.elim
    | bad => rw [e] at q'; exact q'.elim
theorem b_tup {X : Cx} {Ga : Nat → Addr} {is : List Nat} {n : Nat} {gs : List Mini.G} {ts : TGs} (hl : gs.length = n) (z : TgsS X Ga none is gs ts) : TgS X Ga none is (gTupT gs) (gTup X.K n ts) := fun ph h r sg H w Q s hw q => by
  cases w with
  | ref a =>
    unfold gTupT at q
    simp only [] at q
    have go : ∀ {xs : List Mini.W}, rdG X.K Ga none is ph h sg (gAll gs xs r h) Q → SqT X.K H (ph a) (xs.map (vW ph)) → (∀ x ∈ xs, wf h.length x) → gTup X.K n ts (vW ph (.ref a)) sg H Q := fun {xs} q1 q2 q3 => by
      refine ⟨ph a, xs.map (vW ph), rfl, q2, ?_, z ph h r sg H xs Q s q3 q1⟩
      cases e : gAll gs xs r h with
      | ok r1 h1 => rw [List.length_map, gAll_len e, hl]
      | exc c d h1 => rw [e] at q1; exact q1.elim
      | bad => rw [e] at q1; exact q1.elim
    cases e1 : h[a]? with
    | none => rw [e1] at q; exact q.elim
    | some cl =>
      have y := s.hr.cells a cl e1
      rw [e1] at q
      cases cl with
      | tup xs => exact go q (.inl (.inl y.1)) y.2
      | ct xs => exact go q (.inr y.1) y.2
      | _ => exact q.elim
  | _ => exact q.elim
end
theorem gi_ {X : Cx} {Ga : Nat → Addr} {pin : Pin} {Wd : WX} {x : Str} {pos : Pos} {i : Int} (hm : ∃ t, X.mg x = some (.int i t)) (hg : Gl X x := by rfl) (hd : (x == ("__debug__" : Str)) = false := by decide) : PE X (.Name x pos) (tE X.K Ga pin Wd (eC (.int i))) := by
  obtain ⟨t, ht⟩ := hm
  exact e_gint hg ht hd
theorem names_ {X : Cx} {x f : Str} {C : Addr} (T : ErrC X.K X.mg X.prog X.w X.base x f C) (hg : Gl X x := by rfl) (hd : (x == ("__debug__" : Str)) = false := by decide) : Names X x (.ref C) := ⟨hg, hd, .inl T.g⟩
theorem hu64 {k : Nat} {A : Around} (r : RoomG k A) : A.units + 64 < cLine := r.room.units
theorem hu70 {k : Nat} {A : Around} (r : RoomG k A) : A.units + 70 < cLine := by have := r.room.un; omega
theorem hu1 {k : Nat} {A : Around} (r : RoomG k A) : A.units + 1 < cLine := by have := r.room.un; omega
/-- which errors an except clause takes -/
theorem exm_of {K : PySem.W.Frag} {q S : Addr} {b : Bool} (h1 : PySem.W.subIn K (.ref S) (.type "BaseException") = some true) (h2 : PySem.W.isClsIn K S = true) (h3 : PySem.W.typeIn K (.ref S) = some (.type "type")) (h4 : PySem.W.subIn K (.ref q) (.ref S) = some b) : PySem.W.exmOne K (.ref q) (.ref S) = some b := by
  have e1 : (PySem.W.subIn K (.ref S) (.type "BaseException") == some true) = true := by rw [h1] <;> rfl
  have e2 : ((PySem.W.clsIn K S).isSome && PySem.W.typeIn K (.ref S) == some (.type "type")) = true := by
    have h2' : (PySem.W.clsIn K S).isSome = true := h2
    rw [h2', h3] <;> rfl
  show (if (PySem.W.subIn K (.ref S) (.type "BaseException") == some true) = true then (if ((PySem.W.clsIn K S).isSome && PySem.W.typeIn K (.ref S) == some (.type "type")) = true then PySem.W.subIn K (.ref q) (.ref S) else none) else none) = some b
  rw [if_pos e1, if_pos e2]
  exact h4
theorem _root_.L2.Fun.fd_eq {K : PySem.W.Frag} {x qual : Str} {st : Stmt} {f : Addr} {fd fd2 : FuncData} (F : L2.Fun K x qual st f fd) (F2 : L2.Fun K x qual st f fd2) : fd = fd2 := by
  obtain ⟨oc, od, kV, doc, pm, an, cdv, ct, sl, rfl, lk, hcd⟩ := F.ex
  obtain ⟨oc2, od2, kV2, doc2, pm2, an2, cdv2, ct2, osl2, rfl, lk2, hcd2⟩ := F2.ex
  rw [lk] at lk2
  cases lk2
  rfl
/-- a def of the text -/
structure Def (P : Program) (w : World) (K : PySem.W.Frag) (mg : Str → Option Value) (base : Heap) (Ga : Nat → Addr) (k : Nat) (x : Str) (st : Stmt) (ps : List Str) (m : Mini.F) : Prop where
  ex : ∃ (f : Addr) (fd : FuncData), mg x = some (.ref f) ∧ Fun K x x st f fd ∧ Binds K fd ps [] ∧ FnM P w K mg base Ga k f fd ps m
/-- what the top has written of a def -/
structure Src_ (K : PySem.W.Frag) (mg : Str → Option Value) (x : Str) (st : Stmt) (ps : List Str) : Prop where
  ex : ∃ (f : Addr) (fd : FuncData), mg x = some (.ref f) ∧ Fun K x x st f fd ∧ Binds K fd ps []
theorem def_of {P : Program} {w : World} {K : PySem.W.Frag} {mg : Str → Option Value} {base : Heap} {Ga : Nat → Addr} {k : Nat} {x : Str} {st : Stmt} {N ps : List Str} {sb : Mini.S} (Y : Src_ K mg x st ps) (S : FnScope N ps (defScope st))
    (hbody : ∀ (f : Addr) (cdv : Value) (A : Around) (outer : List PySem.Env) (s : Shared) (H : Hp) (E : XK), RoomG k (A.deeper (envOfC x (defScope st) s.heap.objs.size f cdv)) →
      PSs (cxOf (L2.CX P w) P w K mg base N x (defScope st) f cdv A outer s H E) (defBody st) (tS K Ga none (fun c d _ H => E c d H) sb)) :
    Def P w K mg base Ga (k + 1) x st ps (fnOf N.length ps.length sb) := by
  obtain ⟨f, fd, h1, F, h2⟩ := Y.ex
  obtain ⟨oc, od, kV, doc, pm, an, cdv, ct, sl, rfl, lk, hcd⟩ := F.ex
  exact ⟨f, _, h1, F, h2, fnm_of lk hcd S fun A outer s H E hr => hbody f cdv A outer s H E hr⟩
section
variable {X : Cx} {Ga : Nat → Addr} {pin : Pin} {Wd : WX} {e : Expr} {es : List Expr} {kws : List Keyword} {ms mk : Mini.A} {pos p : Pos} {k j : Nat} {x : Str} {st : Stmt} {ps ks : List Str} {mf : Mini.F}
theorem c_ (D : Def X.prog X.w X.K X.mg X.base Ga k x st ps mf) (hr : RoomG j X.A) (tk : Takes X Wd) (ha : PA X (e :: es) (tA X.K Ga pin Wd ms)) (hk : k ≤ j := by decide) (hg : Gl X x := by rfl) (hdb : (x == ("__debug__" : Str)) = false := by decide) (he : starEach (e :: es) X.env = (false, eval e X.env) :: starEach es X.env := by rfl) (hpl : (backTo pos (starEach es X.env)).any (·.1) = false := by rfl) :
    PE X (.Call (.Name x p) (e :: es) [] pos) (tE X.K Ga pin Wd (Mini.eCall mf ms)) := by
  obtain ⟨f, fd, h1, F, h2, M⟩ := D.ex
  exact e_call M (hr.mono hk) hg h1 F.kp h2 tk ha hdb he hpl
theorem c0_ (D : Def X.prog X.w X.K X.mg X.base Ga k x st ps mf) (hr : RoomG j X.A) (tk : Takes X Wd) (hk : k ≤ j := by decide) (hg : Gl X x := by rfl) (hdb : (x == ("__debug__" : Str)) = false := by decide) :
    PE X (.Call (.Name x p) [] [] pos) (tE X.K Ga pin Wd (Mini.eCall mf aNil)) := by
  obtain ⟨f, fd, h1, F, h2, M⟩ := D.ex
  exact e_call0 M (hr.mono hk) hg h1 F.kp h2 tk hdb
theorem kb_of {K : PySem.W.Frag} {f : Addr} {fd : FuncData} {n : Nat} {is : List Nat} (F : Fun K x x st f fd)
    (h : ∀ (kV doc pm : Value) (an : Option Addr) (cdv ct : Value) (us ws : List Value), us.length = n → ws.length = ks.length → bindArgs (PySem.W.fnOf x x (defArgs st) (defBody st) (defScope st) .none kV doc pm an cdv ct) ⟨us, ks.zip ws⟩ = pure (ps.zip (pick is (us ++ ws)))) : KB fd ps n ks is := by
  obtain ⟨oc, od, kV, doc, pm, an, cdv, ct, sl, rfl, lk, hcd⟩ := F.ex
  exact fun s us ws h1 h2 => .of_eq (h kV doc pm an cdv ct us ws h1 h2)
theorem ck0_ {n : Nat} {is : List Nat} (D : Def X.prog X.w X.K X.mg X.base Ga k x st ps mf) (hr : RoomG j X.A) (tk : Takes X Wd)
    (hb : ∀ (kV doc pm : Value) (an : Option Addr) (cdv ct : Value) (us ws : List Value), us.length = 0 → ws.length = ks.length → bindArgs (PySem.W.fnOf x x (defArgs st) (defBody st) (defScope st) .none kV doc pm an cdv ct) ⟨us, ks.zip ws⟩ = pure (ps.zip (pick is (us ++ ws))))
    (hkw : PK X kws (tA X.K Ga pin Wd mk)) (hn : ks.length = n := by rfl) (hk : k ≤ j := by decide) (hg : Gl X x := by rfl) (hall : (backToKw pos (keywordEach kws X.env)).all (·.1.isSome) = true := by rfl) (hks : (backToKw pos (keywordEach kws X.env)).filterMap (·.1) = ks := by rfl) (hdb : (x == ("__debug__" : Str)) = false := by decide)
    (hpl : ((backTo pos (starEach [] X.env)).any (·.1) || (backToKw pos (keywordEach kws X.env)).any (·.1.isNone))
      = false := by rfl) :
    PE X (.Call (.Name x p) [] kws pos) (tE X.K Ga pin Wd (Mini.eCallK mf is aNil (aN n mk))) := by
  obtain ⟨f, fd, h1, F, h2, M⟩ := D.ex
  exact e_callK0 M (hr.mono hk) hg h1 F.kp (kb_of F hb) tk hkw hn hall hks hdb hpl
end
end Br
set_option Elab.async false
set_option autoImplicit false
set_option linter.all false
set_option maxRecDepth 100000
set_option maxHeartbeats 1100000
namespace Br
open PySem PySem.Spec PyProof.Rows L2 Mini
/-! ### instances of own classes -/
theorem fs_lookup {ph : Nat → Addr} {f : Str} : ∀ {fs : List (Str × Mini.W)}, (fsV ph fs).lookup f = (fs.lookup f).map (vW ph)
  | [] => rfl
  | (k, v) :: ys => by
    show ((k, vW ph v) :: fsV ph ys).lookup f = _
    rw [List.lookup_cons, List.lookup_cons]
    cases f == k with
    | true => rfl
    | false => exact fs_lookup
theorem fs_mem {f : Str} {w : Mini.W} : ∀ {fs : List (Str × Mini.W)}, fs.lookup f = some w → ∃ p ∈ fs, p.2 = w
  | [], e => by cases e
  | (k, v) :: ys, e => by
    rw [List.lookup_cons] at e
    cases c : f == k with
    | true => rw [c] at e; cases e; exact ⟨_, List.mem_cons_self, rfl⟩
    | false => rw [c] at e; obtain ⟨p, hp, q⟩ := fs_mem e; exact ⟨p, List.mem_cons_of_mem _ hp, q⟩
theorem fs_put {ph : Nat → Addr} {f : Str} {w : Mini.W} : ∀ {fs : List (Str × Mini.W)}, fsV ph (putFs f w fs) = L2.putF f (vW ph w) (fsV ph fs)
  | [] => rfl
  | (g, x) :: r => by
    show fsV ph (if g = f then (g, w) :: r else (g, x) :: putFs f w r) = if g = f then (g, vW ph w) :: fsV ph r else (g, vW ph x) :: L2.putF f (vW ph w) (fsV ph r)
    by_cases c : g = f
    · rw [if_pos c, if_pos c]; rfl
    · rw [if_neg c, if_neg c]
      show (g, vW ph x) :: fsV ph (putFs f w r) = _
      rw [fs_put]
theorem fs_put_wf {n : Nat} {f : Str} {w : Mini.W} (hw : wf n w) : ∀ {fs : List (Str × Mini.W)}, (∀ p ∈ fs, wf n p.2) → ∀ p ∈ putFs f w fs, wf n p.2
  | [], _, p, hp => by
    rw [show putFs f w [] = [(f, w)] from rfl, List.mem_singleton] at hp
    rw [hp]; exact hw
  | (g, x) :: r, q, p, hp => by
    unfold putFs at hp
    by_cases c : g = f
    · rw [if_pos c] at hp
      rcases List.mem_cons.mp hp with z | z
      · rw [z]; exact hw
      · exact q p (List.mem_cons_of_mem _ z)
    · rw [if_neg c] at hp
      rcases List.mem_cons.mp hp with z | z
      · rw [z]; exact q (g, x) List.mem_cons_self
      · exact fs_put_wf hw (fun p hp => q p (List.mem_cons_of_mem _ hp)) p z
section
variable {X : Cx} {Ga : Nat → Addr} {pin : Pin} {Wd : WX} {ph : Nat → Addr} {h : MH} {r : Mini.Env} {sg : L2.St} {H : Hp} {a b c e o : Expr} {es rest : List Expr} {kws : List Keyword} {pos pos' : Pos} {m mo me : Mini.E} {ms mk : Mini.A} {f : Str} {ok : Nat → Bool}
/-- o.f -/
theorem e_fld (hok : ∀ c, ok c = true → NoAttr X.K (Ga c) f) (ho : PE X o (tE X.K Ga pin Wd mo)) (hb : attributeBase o f X.env (eval o X.env) = eval o X.env := by rfl) : PE X (.Attribute o f pos) (tE X.K Ga pin Wd (eFld ok f mo)) := by
  refine PE.imp (pe_fld ho hb) fun sg H Q ⟨ph, h, r, s, x⟩ => ?_
  refine ⟨ph, h, r, s, x.bind fun u h1 _ ph1 H1 b1 g1 R1 ⟨eb1, w1⟩ x1 => ?_⟩
  unfold fldOf at x1
  cases u with
  | ref n =>
    simp only [] at x1
    cases e1 : h1[n]? with
    | none => rw [e1] at x1; exact x1.elim
    | some cl =>
      rw [e1] at x1
      cases cl with
      | ins c fs =>
        simp only [] at x1
        cases e2 : fs.lookup f with
        | none => rw [e2] at x1; exact x1.elim
        | some w =>
          rw [e2] at x1
          simp only [] at x1
          by_cases k : ok c = true
          · rw [if_pos k] at x1
            obtain ⟨⟨dx, z1, cx⟩, z2⟩ := R1.cells n _ e1
            obtain ⟨p, hp, rfl⟩ := fs_mem e2
            exact ⟨ph1 n, Ga c, dx, fsV ph1 fs, vW ph1 p.2, eb1, z1, cx.cl, hok c k, by rw [fs_lookup, e2]; rfl, rd_ok x1 R1 (z2 p hp)⟩
          · rw [if_neg k] at x1; exact x1.elim
      | _ => exact x1.elim
  | _ => exact x1.elim
/-- o.f = e -/
theorem s_fld (hok : ∀ c, ok c = true → NoAttr X.K (Ga c) f) (ho : PE X o (tE X.K Ga pin Wd mo)) (he : PE X e (tE X.K Ga pin Wd me)) (hs : swapsWith e (some (.Attribute o f pos')) pos.line X.env = pure false := by rfl) :
    PS X (.Assign [.Attribute o f pos'] e pos) (tS X.K Ga pin Wd (sFldSet ok f mo me)) := by
  refine PS.imp (ps_fld ho he hs) fun D sg H ⟨ph, h, r, s, x⟩ => ?_
  have y : rd X.K Ga Wd (fun _ _ (_ : Unit) (_ : Unit) => True) ph h sg ((me r h).bind fun w h1 => (mo r h1).bind fun x h2 => fldPut ok f w x h2) (fun _ H' => D.nx sg H') := by
    refine st_of (k := fun _ h1 => .ok .nx r h1) (D := D) s ?_ fun _ h1 ph1 H1 b g S rl x1 => x1 ph1 sg H1 (Grow.refl _ _) S
    unfold sFldSet at x
    cases e : ((me r h).bind fun w h1 => (mo r h1).bind fun x h2 => fldPut ok f w x h2) <;> (rw [e] at x; exact x)
  refine ⟨ph, h, r, s, y.bind fun w h1 _ ph1 H1 b1 g1 R1 ⟨eb1, w1⟩ x1 => ?_⟩
  refine ⟨ph1, h1, r, s.grow g1 R1, x1.bind fun u h2 _ ph2 H2 b2 g2 R2 ⟨eb2, w2⟩ x2 => ?_⟩
  unfold fldPut at x2
  cases u with
  | ref n =>
    simp only [] at x2
    cases e1 : h2[n]? with
    | none => rw [e1] at x2; exact x2.elim
    | some cl =>
      rw [e1] at x2
      cases cl with
      | ins c fs =>
        simp only [] at x2
        by_cases k : ok c = true ∧ fs.length < 1000
        · rw [if_pos k] at x2
          obtain ⟨⟨dx, z1, cx⟩, z2⟩ := R2.cells n _ e1
          have w1' : wf h2.length w := w1.mono g2.le
          refine ⟨ph2 n, Ga c, dx, fsV ph2 fs, eb2, z1, cx.cl, hok c k.1, ?_, ?_⟩
          · unfold fsV; rw [List.length_map]; exact k.2
          · have R4 : HR X.K Ga ph2 (h2.set n (.ins c (putFs f w fs))) (upd H2 (ph2 n) (.ins (Ga c) dx (L2.putF f (vW ph2 w) (fsV ph2 fs)))) := R2.set e1 trivial trivial ⟨⟨dx, (by rw [fs_put]; exact upd_same), cx⟩, fs_put_wf w1' z2⟩
            rw [eb1, ← g2.v w1]
            exact x2.ok1 ph2 _ () Grow.set R4 trivial
        · rw [if_neg k] at x2; exact x2.elim
      | _ => exact x2.elim
  | _ => exact x2.elim
/-! ### a new instance -/
theorem RoomG.make {k : Nat} {A : Around} (q : RoomG (k + 1) A) (C : Addr) (us : List Value) (kw : List (Str × Value)) : RoomG k (A.under (.builtin "type.__call__" ⟨.ref C :: us, kw⟩)) :=
  ⟨q.room.make C us kw, by
    have e : (A.under (.builtin "type.__call__" ⟨.ref C :: us, kw⟩)).guards = A.guards := by
      first | rfl | simp [Around.under, Code.isGuard, guardIds]
    rw [e]; exact q.g⟩
theorem run_new {k ci : Nat} {fi : Addr} {fd : FuncData} {ps : List Str} {mf : Mini.F} {pins : List (Addr × Obj)} {s : Shared} {Q : VK} {us vs : List Value} {kw : List (Str × Value)} {ws : List Mini.W} (M : Mk X.K (Ga ci) fi) (cx : ClsX X.K (Ga ci)) (F : FnM X.prog X.w X.K X.mg X.base Ga k fi fd ps mf) (hr : RoomG (k + 1) X.A) (tk : Takes X Wd)
    (hb : ∀ (s' : Shared) (x : Value), X.K.In s'.heap → ws.length + 1 = ps.length → BindsTo s' fd ⟨x :: us, kw⟩ (ps.zip (x :: vs))) (I : Inv X pins sg H s) (R : HR X.K Ga ph h H) (hw : ∀ w ∈ ws, wf h.length w) (rv : Vals (ws.map (vW ph)) vs) (x : rd X.K Ga Wd relW ph h sg (newIns ci mf ws h) Q) :
    codeAny (model X.prog X.w) X.A (.call (.ref (Ga ci)) ⟨us, kw⟩) (fun rr s' => match rr with | .ok (.ret u) => EP X pins sg Q u s' | .ok _ => False | .error e => X.xe e s') s := by
  have I2 := Inv.made (C := Ga ci) I
  have f0 : H s.heap.objs.size = none := I.hok.fresh (Nat.le_refl _)
  have f1 : H (s.heap.objs.size + 1) = none := I.hok.fresh (Nat.le_succ _)
  have R1 : HR X.K Ga ph h (upd H s.heap.objs.size (.own (s.heap.objs.size + 1))) := by
    refine ⟨fun i c e => (R.cells i c e).to (Nat.le_refl _) (fun _ _ => rfl) fun t => ?_, R.inj⟩
    obtain ⟨o, ho⟩ := (R.cells i c e).some t
    exact upd_ne fun z => by rw [z, f0] at ho; cases ho
  have R2 := R1.push (a := s.heap.objs.size + 1) (o := .ins (Ga ci) s.heap.objs.size []) (c := .ins ci []) (by rw [upd_ne (Nat.succ_ne_self _)]; exact f1) ⟨⟨s.heap.objs.size, upd_same, cx⟩, fun p hp => nomatch hp⟩
  have g0 : Grow ph h (ext ph h.length (s.heap.objs.size + 1)) (h ++ [.ins ci []]) := Grow.ext
  have hw2 : ∀ w ∈ (Mini.W.ref h.length :: ws), wf (h ++ [Cell.ins ci []]).length w := fun w hm => by
    rcases List.mem_cons.mp hm with z | z
    · rw [z]; show h.length < _; rw [List.length_append]; exact Nat.lt_succ_self _
    · exact (hw w z).mono g0.le
  have rv2 : Vals ((Mini.W.ref h.length :: ws).map (vW (ext ph h.length (s.heap.objs.size + 1)))) (Value.ref (s.heap.objs.size + 1) :: vs) := by
    refine .cons ?_ ?_
    · show Value.ref _ = Value.ref _
      rw [ext_at]
    · rw [g0.vs hw]; exact rv
  have x2 : rd X.K Ga (fun c d _ H => Wd c d sg H) relW (ext ph h.length (s.heap.objs.size + 1)) (h ++ [.ins ci []]) [] (mf (.ref h.length :: ws) (h ++ [.ins ci []])) (fun v H2 => v = .non ∧ Q (.ref (s.heap.objs.size + 1)) H2) := by
    unfold newIns at x
    cases e : mf (.ref h.length :: ws) (h ++ [.ins ci []]) with
    | ok u h3 =>
      rw [e] at x
      cases u with
      | non =>
        have x' : rd X.K Ga Wd relW ph h sg (.ok (.ref h.length) h3) Q := x
        intro ph' H' b g R' rl
        refine ⟨rl.1, ?_⟩
        have l3 : h.length < h3.length := Nat.lt_of_lt_of_le (by rw [List.length_append]; exact Nat.lt_succ_self _) g.le
        refine x' ph' H' _ (g0.trans g) R' ⟨?_, l3⟩
        show V.ref _ = V.ref (ph' h.length)
        rw [g.eq h.length (by rw [List.length_append]; exact Nat.lt_succ_self _), ext_at]
      | _ => exact x.elim
    | exc c d h3 =>
      rw [e] at x
      have x' : rd X.K Ga Wd relW ph h sg (.exc c d h3 : Mini.R Mini.W) Q := x
      exact fun ph' H' g R' z => x' ph' H' (g0.trans g) R' z
    | bad => rw [e] at x; exact x.elim
  have hl : ws.length + 1 = ps.length := by
    by_cases c : (Mini.W.ref h.length :: ws).length = ps.length
    · exact c
    · rw [F.len _ _ c] at x2; exact x2.elim
  refine make_map (f := fi) I.kIn M.makes M.init (beq_iff_eq.mp M.fn) (codeAny_mono (F.run _ X.stack _ _ ⟨Value.ref (s.heap.objs.size + 1) :: us, kw⟩ (Value.ref (s.heap.objs.size + 1) :: vs) _ _ (fun c d H => Wd c d sg H) (hr.make (Ga ci) us kw)
    (I2.env0.make (Ga ci) us kw) (hb _ _ I2.kIn hl) rv2 ⟨_, _, _, R2, rfl, hw2, x2⟩) fun r s' hend => ?_)
  cases r with
  | error e => exact passAt tk sg pins _ _ e s' I2 hend
  | ok fl =>
    cases fl with
    | ret u =>
      obtain ⟨v, H3, I3, rv, ev, q3⟩ := I2.after hend
      subst ev
      exact ⟨rv, ⟨V.ref (s.heap.objs.size + 1), H3, I3, rfl, q3⟩⟩
    | next => exact False.elim hend
    | brk => exact False.elim hend
    | cont => exact False.elim hend
/-- C(e, ..) -/
theorem e_make {x : Str} {p : Pos} {k ci : Nat} {fi : Addr} {fd : FuncData} {ps : List Str} {mf : Mini.F} (M : Mk X.K (Ga ci) fi) (cx : ClsX X.K (Ga ci)) (F : FnM X.prog X.w X.K X.mg X.base Ga k fi fd ps mf) (hr : RoomG (k + 1) X.A) (hg : Gl X x) (hm : X.mg x = some (.ref (Ga ci))) (hb : Binds X.K fd ps []) (tk : Takes X Wd)
    (ha : PA X (e :: es) (tA X.K Ga pin Wd ms)) (hdb : (x == ("__debug__" : Str)) = false := by decide) (he : starEach (e :: es) X.env = (false, eval e X.env) :: starEach es X.env := by rfl) (hpl : (backTo pos (starEach es X.env)).any (·.1) = false := by rfl) :
    PE X (.Call (.Name x p) (e :: es) [] pos) (tE X.K Ga pin Wd (eMake ci mf ms)) := by
  refine ⟨fun pins s sg H Q I ⟨ph, h, r, S, x⟩ => ?_⟩
  refine wpAny_Call_Name_kw (ld_glob I hg hm (?_ : _) hdb)
  have y : tA X.K Ga pin Wd ms sg H (fun vs H1 => ∃ ph1 h1 ws, HR X.K Ga ph1 h1 H1 ∧ vs = ws.map (vW ph1) ∧ (∀ w ∈ ws, wf h1.length w) ∧ rd X.K Ga Wd relW ph1 h1 sg (newIns ci mf ws h1) Q) :=
    ⟨ph, h, r, S, x.bind fun ws h1 _ ph1 H1 b1 g1 R1 ⟨eb1, w1⟩ x1 => ⟨ph1, h1, ws, R1, eb1, w1, x1⟩⟩
  refine PySem.W.callWith_K (h₀ := X.base) I.ok.mod.kin M.kp (thn (ha.run pos pins s sg H _ I y) fun us s1 ⟨vs, H1, I1, rv, ph1, h1, ws, R1, ev, w1, x1⟩ => ⟨I1.kIn, ?_⟩) he hpl
  subst ev
  refine wpAny_call (codeAny_mono (run_new M cx F hr tk (fun s' x kin hl => ?_) I1 R1 w1 rv x1) fun rr s' q => ?_)
  · have b := hb s' (x :: us) kin (by rw [List.append_nil, List.length_cons, ← rv.length, List.length_map]; exact hl)
    rw [List.append_nil] at b
    exact b
  · cases rr with
    | error e => exact q
    | ok fl => cases fl <;> first | exact q | exact q.elim
/-- how the keywords of C(k = e, ..) bind -/
def KB1 (fd : FuncData) (ps : List Str) (n : Nat) (ks : List Str) (is : List Nat) : Prop := ∀ (s : Shared) (x : Value) (ws : List Value), ws.length = ks.length → BindsTo s fd ⟨[x], ks.zip ws⟩ (ps.zip (x :: pick is ws))
theorem e_makeK {x : Str} {p : Pos} {k ci n : Nat} {is : List Nat} {fi : Addr} {fd : FuncData} {ps ks : List Str} {mf : Mini.F} (M : Mk X.K (Ga ci) fi) (cx : ClsX X.K (Ga ci)) (F : FnM X.prog X.w X.K X.mg X.base Ga k fi fd ps mf) (hr : RoomG (k + 1) X.A) (hg : Gl X x) (hm : X.mg x = some (.ref (Ga ci))) (hb : KB1 fd ps n ks is) (tk : Takes X Wd)
    (hkw : PK X kws (tA X.K Ga pin Wd mk)) (hn : ks.length = n) (hall : (backToKw pos (keywordEach kws X.env)).all (·.1.isSome) = true := by rfl) (hks : (backToKw pos (keywordEach kws X.env)).filterMap (·.1) = ks := by rfl) (hdb : (x == ("__debug__" : Str)) = false := by decide)
    (hpl : ((backTo pos (starEach [] X.env)).any (·.1) || (backToKw pos (keywordEach kws X.env)).any (·.1.isNone))
      = false := by rfl) :
    PE X (.Call (.Name x p) [] kws pos) (tE X.K Ga pin Wd (eMakeK ci mf is (aN n mk))) := by
  refine ⟨fun pins s sg H Q I ⟨ph, h, r, S, x⟩ => ?_⟩
  refine wpAny_Call_Name_kw (ld_glob I hg hm (?_ : _) hdb)
  have x0 : rd X.K Ga Wd relW ph h sg ((aN n mk r h).bind fun ys h2 => newIns ci mf (pick is ys) h2) Q := x
  have y : tA X.K Ga pin Wd mk sg H (fun vs H1 => ∃ ph1 h1 ws, ws.length = n ∧ HR X.K Ga ph1 h1 H1 ∧ vs = ws.map (vW ph1) ∧ (∀ w ∈ ws, wf h1.length w) ∧ rd X.K Ga Wd relW ph1 h1 sg (newIns ci mf (pick is ws) h1) Q) := by
    refine ⟨ph, h, r, S, ?_⟩
    unfold aN at x0
    cases e : mk r h with
    | ok ws h1 =>
      rw [e] at x0
      have x1 : rd X.K Ga Wd relW ph h sg ((if ws.length = n then Mini.R.ok ws h1 else .bad).bind fun ys h2 => newIns ci mf (pick is ys) h2) Q := x0
      by_cases c : ws.length = n
      · rw [if_pos c] at x1
        intro ph1 H1 b1 g1 R1 rl
        exact ⟨ph1, h1, ws, c, R1, rl.1, rl.2, rd.base g1 x1⟩
      · rw [if_neg c] at x1; exact x1.elim
    | exc cc d h1 => rw [e] at x0; exact x0
    | bad => rw [e] at x0; exact x0.elim
  refine PySem.W.callWith_KW0 (h₀ := X.base) I.ok.mod.kin M.kp hall (?_ : _) hpl
  refine thn (hkw.run pos pins s sg H _ I y) fun us s1 ⟨vs, H1, I1, rv, ph1, h1, ws, lw, R1, ev, w1, x1⟩ => ⟨I1.kIn, ?_⟩
  rw [hks]
  subst ev
  have rv2 : Vals ((pick is ws).map (vW ph1)) (pick is us) := by rw [← pick_map]; exact pick_vals rv
  refine wpAny_call (codeAny_mono (run_new (us := []) M cx F hr tk (fun s' x kin hl => ?_) I1 R1 (fun w hw => w1 w (pick_mem hw)) rv2 x1) fun rr s' q => ?_)
  · exact hb s' x us (by rw [hn, ← rv.length, List.length_map]; exact lw)
  · cases rr with
    | error e => exact q
    | ok fl => cases fl <;> first | exact q | exact q.elim
/-- isinstance(x, C), C an own class: what the top has written of the two -/
structure KitC (K : PySem.W.Frag) (Ga : Nat → Addr) (ci : Nat) : Prop where
  base : ∀ k : Option Mini.Ty, PySem.W.kitOne K (.type (kindName k)) (.ref (Ga ci)) = some false
  ins : ∀ c, ClsX K (Ga c) → PySem.W.kitOne K (.ref (Ga c)) (.ref (Ga ci)) = some (decide (c = ci))
  exc : ∀ c, ExcX K (Ga c) → PySem.W.kitOne K (.ref (Ga c)) (.ref (Ga ci)) = some (decide (c = ci))
theorem tyx_kind {w : Mini.W} (R : HR X.K Ga ph h H) (e : known w h = true) : (insOf w h = none ∧ clsOf w h = none ∧ TyE X.K H (vW ph w) (.type (kindName (Mini.kindOf w h)))) ∨ (∃ c, insOf w h = some c ∧ clsOf w h = some c ∧ ClsX X.K (Ga c) ∧ TyE X.K H (vW ph w) (.ref (Ga c))) ∨
    ∃ c, insOf w h = none ∧ clsOf w h = some c ∧ ExcX X.K (Ga c) ∧ TyE X.K H (vW ph w) (.ref (Ga c)) := by
  cases w with
  | non => exact .inl ⟨rfl, rfl, .base (.base .non)⟩
  | bl b => exact .inl ⟨rfl, rfl, .base (.base (.bl b))⟩
  | int i => exact .inl ⟨rfl, rfl, .base (.base (.int i))⟩
  | str s => exact .inl ⟨rfl, rfl, .base (.base (.str s))⟩
  | ref n =>
    simp only [known] at e
    simp only [Mini.kindOf, insOf, clsOf]
    cases e1 : h[n]? with
    | none => rw [e1] at e; cases e
    | some cl =>
      have q := R.cells n cl e1
      rw [e1] at e
      cases cl with
      | lst xs => exact .inl ⟨rfl, rfl, .base (.base (.lst q.1))⟩
      | fz xs => obtain ⟨⟨o, q1⟩, _⟩ := q; exact .inl ⟨rfl, rfl, .base (.base (.frz q1))⟩
      | cl xs => obtain ⟨⟨o, its, m, e1, e2, _⟩, _⟩ := q; exact .inl ⟨rfl, rfl, .base (.kList e1 e2)⟩
      | tup xs => exact .inl ⟨rfl, rfl, .base (.base (.tup q.1))⟩
      | ct xs => obtain ⟨⟨o, its, m, e1, e2, _⟩, _⟩ := q; exact .inl ⟨rfl, rfl, .base (.kTuple e1 e2)⟩
      | dic kvs => exact .inl ⟨rfl, rfl, .base (.base (.dK q.1))⟩
      | ins c fs =>
        obtain ⟨⟨dx, q1, cx⟩, _⟩ := q
        exact .inr (.inl ⟨c, rfl, rfl, cx, .base (.base (.ins q1 cx.cl cx.ha cx.hn cx.htk cx.hm))⟩)
      | exo c d =>
        obtain ⟨⟨q1, cx⟩, _⟩ := q
        exact .inr (.inr ⟨c, rfl, rfl, cx, .exc q1 cx.ec (xd_there R e)⟩)
      | _ => cases e
theorem e_isiC {x T : Str} {ci : Nat} {p p2 : Pos} (hx : x = "isinstance") (hgl : Gl X x) (hm : X.mg x = none) (hgl2 : Gl X T) (hm2 : X.mg T = some (.ref (Ga ci))) (kc : KitC X.K Ga ci) (hd2 : (T == ("__debug__" : Str)) = false := by decide)
    (ha : PE X a (tE X.K Ga pin Wd m)) (he : starEach (a :: [.Name T p2]) X.env = (false, eval a X.env) :: starEach [.Name T p2] X.env := by rfl) (he2 : starEach (.Name T p2 :: []) X.env = (false, eval (.Name T p2) X.env) :: starEach [] X.env := by rfl) (hpl : (backTo pos (starEach [.Name T p2] X.env)).any (·.1) = false := by rfl) :
    PE X (.Call (.Name x p) [a, .Name T p2] [] pos) (tE X.K Ga pin Wd (eUn (gIsiC ci) m)) := by
  subst hx
  have ht : PE X (.Name T p2) (tC (.ref (Ga ci))) := pe_glob hgl2 hm2 rfl hd2
  refine PE.imp (pe_callB call_isiE hgl hm (by decide +kernel) (pa_cons ha (pa_cons ht pa_nil he2) he) (by decide) (by decide) he hpl) fun sg H Q ⟨ph, h, r, s, x⟩ => ?_
  refine ⟨ph, h, r, s, x.bind fun u h1 _ ph1 H1 b1 g1 R1 ⟨eb1, w1⟩ x1 => ?_⟩
  unfold gIsiC at x1
  by_cases k : known u h1 = true
  · rw [if_pos k] at x1
    rw [eb1]
    have dc : ∀ c : Nat, ((some c == some ci : Bool)) = decide (c = ci) := fun c => by by_cases z : c = ci <;> simp [z]
    rcases tyx_kind R1 k with ⟨_, e0, tx⟩ | ⟨c, _, e0, cx, tx⟩ | ⟨c, _, e0, cx, tx⟩
    · rw [e0] at x1
      exact ⟨_, _, _, _, _, rfl, .own _, tx, kc.base _, rd_ok (w := .bl false) x1 R1 trivial⟩
    · rw [e0, dc] at x1
      exact ⟨_, _, _, _, _, rfl, .own _, tx, kc.ins c cx, rd_ok (w := .bl _) x1 R1 trivial⟩
    · rw [e0, dc] at x1
      exact ⟨_, _, _, _, _, rfl, .own _, tx, kc.exc c cx, rd_ok (w := .bl _) x1 R1 trivial⟩
  · rw [if_neg k] at x1
    exact x1.elim
end
end Br
set_option Elab.async false
set_option autoImplicit false
set_option linter.all false
set_option maxRecDepth 100000
set_option maxHeartbeats 1100000
namespace PySem.W
open PySem PySem.Spec PySem.Calls PyProof.Rows L2 Builtin
section
variable {prog : Program} {w : World} {A : Around} {E : Value → Shared → Prop} {s : Shared} {K : Frag} {x y C f : Addr} {ox oy : Obj} {od oe : Option Obj}
/-- a special method that is a built-in one, called -/
theorem ifBoundB {M : Model} {name : Str} {id : String} {cls : String} {args : List Value} {Q : Option Value → Shared → Prop} (X : K.In s.heap) (I : InstAt s.heap x ox C od) (hs : findIn K (.ref C) name = some (some (.builtin id))) (S : Slot cls name id)
    (h : wpAny M A (call (.builtin id) (.ref x :: args)) (fun v => Q (some v)) E s) : wpAny M A (callSpecialIfBound? (.ref x) name args) Q E s := by
  have told : wpAny M A (do let v ← call (.builtin id) ([.ref x] ++ args); pure (some v)) Q E s := wpAny_bind (wpAny_mono h (fun _ _ q => wpAny_pure q) fun _ _ q => q)
  unfold callSpecialIfBound?
  unfold bindSpecialIfBound?
  refine wpAny_holding (wpAny_bind (wpAny_bind (wpAny_bind (I.type.here ((looks_findIn X hs).here (?_ : _))))))
  simp only [S.bind]
  refine wpAny_bind (wpAny_askSetting (wpAny_ite (?_ : _)))
  split
  all_goals first
    | exact wpAny_bind (wpAny_pure (wpAny_pure told))
    | exact wpAny_tryCatch (wpAny_bind (wpAny_pure (wpAny_pure told)))
/-- object.__ne__ of an instance with an own == -/
theorem neBody (hu : A.units < cLine) (X : K.In s.heap) (I : InstAt s.heap x ox C od) (hs : findIn K (.ref C) "__eq__" = some (some (.ref f))) (hf : isFn K (.ref f) = true) {Q : Fin → Shared → Prop}
    (hcall : wpAny (model prog w) A (call (.ref f) [.ref x, .ref y]) (fun v s' => ∃ b, v = .bool b ∧ Q (.done (.ret (.bool (!b)))) s') E s) :
    wpAny (model prog w) A (Builtin.«object.__ne__» ⟨[.ref x, .ref y], []⟩) Q E s := by
  unfold Builtin.«object.__ne__» <;> skip
  refine wpAny_bind (wpAny_of_eq (a := ((Value.ref x : Value), [Value.ref y])) (by first | rfl | (simp only [slotArgs]; rfl)) (?_ : _))
  refine wpAny_bind (wpAny_cRoomFor hu (wpAny_bind (ifBound_K X I hs hf (wpAny_mono hcall (fun v s' hv => ?_) fun _ _ e => e))))
  obtain ⟨b, rfl, hq⟩ := hv
  refine wpAny_bind (m := truthy (.bool b)) (wpAny_truthy_bool (?_ : _))
  exact wpAny_pure hq
theorem ne_K (hu : A.units + 1 < cLine) (X : K.In s.heap) (I : InstAt s.heap x ox C od) (J : InstAt s.heap y oy C oe) (hne : findIn K (.ref C) "__ne__" = some (some (.builtin "object.__ne__"))) (ho : subIn K (.ref C) (.type "object") = some true)
    (hs : findIn K (.ref C) "__eq__" = some (some (.ref f))) (hf : isFn K (.ref f) = true) {Q : Value → Shared → Prop}
    (hcall : wpAny (model prog w) A.in1 (call (.ref f) [.ref x, .ref y]) (fun v s' => ∃ b, v = .bool b ∧ Q (.bool (!b)) s') E s) : wpAny (model prog w) A (richCompare .NotEq (.ref x) (.ref y)) Q E s := by
  have sub : Looks (model prog w) s.heap (isInstance (.ref x) (.type "object")) true := I.type.andThen (looks_subIn X ho)
  have same : (Value.ref C != Value.ref C) = false := by simp
  have told : wpAny (model prog w) A (tryCompare (.ref x) "__ne__" (.ref y)) (fun r s' => ∃ b, r = some (.bool b) ∧ Q (.bool b) s') E s := by
    unfold tryCompare
    refine wpAny_bind (ifBoundB X I hne F.cmp_object.ne (wpAny_call (codeAny_call_builtin F.cmp_object.ne.plain F.cmpEntry_ne
      (@check_slot (model prog w) _ _ s "object.__ne__" "object" "__ne__" (.ref x) [.ref y] [] _ F.cmpKind_ne F.cmpSplit_ne sub (F.cmpArgs_ne _ _) (neBody (A := A.in1) hu X I hs hf (wpAny_mono hcall (fun v s' hv => ?_) fun _ _ e => e))))))
    obtain ⟨b, rfl, hq⟩ := hv
    first | exact ⟨b, rfl, wpAny_pure ⟨_, rfl, hq⟩⟩ | exact ⟨b, rfl, wpAny_pure (wpAny_pure ⟨_, rfl, hq⟩)⟩ | exact ⟨b, rfl, ⟨_, rfl, hq⟩⟩
  have fin : ∀ r s', (∃ b, r = some (Value.bool b) ∧ Q (.bool b) s') → ∃ b, r = some (Value.bool b) ∧ Q (.bool b) s' := fun _ _ z => z
  unfold richCompare
  rw [cmpInfo_NotEq]
  simp only [oneThing_ref]
  refine wpAny_holding (wpAny_bind (wpAny_cRoomFor (by omega) (wpAny_bind (I.type.here (wpAny_bind (J.type.here (?_ : _)))))))
  rw [same]
  simp only [if_false, Bool.false_eq_true]
  refine wpAny_bind (wpAny_pure (?_ : _))
  simp only [if_false, Bool.false_eq_true]
  refine wpAny_bind (wpAny_mono told (fun v s' hv => ?_) fun _ _ e => e)
  obtain ⟨b, rfl, hq⟩ := fin _ _ hv
  first | exact wpAny_pure hq | exact wpAny_pure (wpAny_pure hq)
end
end PySem.W
namespace Br
open PySem PySem.Spec PyProof.Rows L2 Mini
/-! ### an own == -/
structure EqC (K : PySem.W.Frag) (Ga : Nat → Addr) (ci : Nat) (f : Addr) : Prop where
  hs : PySem.W.findIn K (.ref (Ga ci)) "__eq__" = some (some (.ref f))
  hf : PySem.W.isFn K (.ref f) = true
  nf0 : ∀ k : Option Mini.Ty, PySem.W.notFirst K (Ga ci) (.type (kindName k)) = true
  nf1 : ∀ c, ClsX K (Ga c) → PySem.W.notFirst K (Ga ci) (.ref (Ga c)) = true
  nf2 : ∀ c, ExcX K (Ga c) → PySem.W.notFirst K (Ga ci) (.ref (Ga c)) = true
section
variable {X : Cx} {Ga : Nat → Addr} {pin : Pin} {Wd : WX} {ph : Nat → Addr} {h : MH} {r : Mini.Env} {sg : L2.St} {H : Hp}
/-- which classes have an own ==, and what it does -/
def EqFs (X : Cx) (Ga : Nat → Addr) (j : Nat) (me : Nat → Option Mini.F) : Prop := ∀ c mf, me c = some mf → ∃ (fi : Addr) (fd : FuncData) (ps : List Str), EqC X.K Ga c fi ∧ FnM X.prog X.w X.K X.mg X.base Ga j fi fd ps mf ∧ Binds X.K fd ps []
def rEqO (X : Cx) (Ga : Nat → Addr) (me : Nat → Option Mini.F) : R2 := fun x y H Q => ∃ ph h wx wy c mf, HR X.K Ga ph h H ∧ x = vW ph wx ∧ y = vW ph wy ∧ wf h.length wx ∧ wf h.length wy ∧ insOf wx h = some c ∧ me c = some mf ∧ known wy h = true ∧
  rd X.K Ga (fun _ _ _ _ => False) relW ph h [] (mf [wx, wy] h) (fun v H' => ∃ b, v = .bl b ∧ Q (.bl b) H')
theorem op_eqO {j : Nat} {me : Nat → Option Mini.F} (hr : RoomG j X.A) (he : EqFs X Ga j me) : OpR X (compareOp .Eq) (rEqO X Ga me) := by
  intro pins s sg H x y v u Q I rx ry q
  obtain ⟨ph, h, wx, wy, c, mf, R, rfl, rfl, hx, hy, ei, em, kn, x2⟩ := q
  obtain ⟨fi, fd, ps, EC, F, hb⟩ := he c mf em
  show wpAny (model X.prog X.w) X.A (richCompare .Eq v u) (EP X pins sg Q) X.xe s
  cases wx with
  | ref n =>
    simp only [insOf] at ei
    cases e1 : h[n]? with
    | none => rw [e1] at ei; cases ei
    | some cl =>
      rw [e1] at ei
      cases cl with
      | ins c' fs =>
        cases ei
        obtain ⟨⟨dx, z1, cx⟩, _⟩ := R.cells n _ e1
        have rx' : v = Value.ref (ph n) := rx
        subst rx'
        obtain ⟨mA, J, _⟩ := ins_get I.hok z1
        obtain ⟨od, J, _⟩ := J.look
        obtain ⟨m, hF⟩ := I.fr
        have ty : ∃ t, PySem.W.notFirst X.K (Ga c) t = true ∧ TyE X.K H (vW ph wy) t := by
          rcases tyx_kind R kn with ⟨_, _, tx⟩ | ⟨c2, _, _, cx2, tx⟩ | ⟨c2, _, _, cx2, tx⟩
          · exact ⟨_, EC.nf0 _, tx⟩
          · exact ⟨_, EC.nf1 c2 cx2, tx⟩
          · exact ⟨_, EC.nf2 c2 cx2, tx⟩
        obtain ⟨t, nf, tx⟩ := ty
        obtain ⟨P, kx, hP, _⟩ := kitE_of I ry tx
        refine PySem.W.cmp_K (op := .Eq) (tb := t) hr.room.units0 hF I.ok.mod.kin J (kx.ty _ _ I.kIn hP) nf EC.hs EC.hf ?_
        have hl : [Mini.W.ref n, wy].length = ps.length := by
          by_cases cc : [Mini.W.ref n, wy].length = ps.length
          · exact cc
          · rw [F.len _ _ cc] at x2; exact x2.elim
        have b := hb s [.ref (ph n), u] I.kIn (by rw [List.append_nil]; exact hl)
        rw [List.append_nil] at b
        have rv : Vals ([Mini.W.ref n, wy].map (vW ph)) [Value.ref (ph n), u] := .cons (show RelV (V.ref (ph n)) (Value.ref (ph n)) from rfl) (.cons ry .nil)
        refine wpAny_call (codeAny_mono (F.run X.A X.stack s H ⟨[.ref (ph n), u], []⟩ [.ref (ph n), u] _ _ (fun _ _ _ => False) hr I.env0 b rv ⟨ph, h, [.ref n, wy], R, rfl, fun w hw => by
          rcases List.mem_cons.mp hw with z | z
          · rw [z]; exact hx
          · rw [List.mem_singleton.mp z]; exact hy, x2⟩) fun rr s' hq => ?_)
        cases rr with
        | error e =>
          exact (passAt (X := X) (W := fun _ _ _ _ => False) takes0 sg pins H s e s' I hq)
        | ok fl =>
          cases fl with
          | ret w =>
            obtain ⟨z, H', I', rz, b, ez, q⟩ := I.after hq
            subst ez
            have rz' : w = Value.bool b := rz
            subst rz'
            exact ⟨.bl b, H', I', rfl, q⟩
          | next => exact False.elim hq
          | brk => exact False.elim hq
          | cont => exact False.elim hq
      | _ => cases ei
  | _ => cases ei
theorem s_eqO {me : Nat → Option Mini.F} : BinS X Ga (eqO me) (fun x y H Q => rEqA X.K x y H Q ∨ rEqO X Ga me x y H Q) := by
  intro Wd ph h H sg x y Q R w1 w2 q
  unfold eqO at q
  cases e : insOf x h with
  | none =>
    rw [e] at q
    exact .inl (s_eq Wd ph h H sg x y Q R w1 w2 q)
  | some c =>
    rw [e] at q
    simp only [] at q
    cases em : me c with
    | none => rw [em] at q; exact q.elim
    | some mf =>
      rw [em] at q
      simp only [] at q
      by_cases kn : known y h = true
      · rw [if_pos kn] at q
        refine .inr ⟨ph, h, x, y, c, mf, R, rfl, rfl, w1, w2, e, em, kn, ?_⟩
        cases e2 : mf [x, y] h with
        | ok w h1 =>
          rw [e2] at q
          cases w with
          | bl b =>
            have q' : rd X.K Ga Wd relW ph h sg (.ok (.bl b) h1) Q := q
            exact fun ph' H' v g R' rl => ⟨b, rl.1, q' ph' H' _ g R' ⟨rfl, trivial⟩⟩
          | _ => exact q.elim
        | exc cc d h1 => rw [e2] at q; exact q.elim
        | bad => rw [e2] at q; exact q.elim
      · rw [if_neg kn] at q; exact q.elim
/-! an own != by an own == -/
structure NeC (K : PySem.W.Frag) (Ga : Nat → Addr) (ci : Nat) : Prop where
  ne : PySem.W.findIn K (.ref (Ga ci)) "__ne__" = some (some (.builtin "object.__ne__"))
  so : PySem.W.subIn K (.ref (Ga ci)) (.type "object") = some true
def NeFs (X : Cx) (Ga : Nat → Addr) (me : Nat → Option Mini.F) : Prop := ∀ c mf, me c = some mf → NeC X.K Ga c
def rNeO (X : Cx) (Ga : Nat → Addr) (me : Nat → Option Mini.F) : R2 := fun x y H Q => ∃ ph h wx wy c mf, HR X.K Ga ph h H ∧ x = vW ph wx ∧ y = vW ph wy ∧ wf h.length wx ∧ wf h.length wy ∧ insOf wx h = some c ∧ me c = some mf ∧ insOf wy h = some c ∧
  rd X.K Ga (fun _ _ _ _ => False) relW ph h [] (mf [wx, wy] h) (fun v H' => ∃ b, v = .bl b ∧ Q (.bl (!b)) H')
theorem ins_cell {w : Mini.W} {c : Nat} (e : insOf w h = some c) : ∃ n fs, w = .ref n ∧ h[n]? = some (.ins c fs) := by
  cases w with
  | ref n =>
    simp only [insOf] at e
    cases e1 : h[n]? with
    | none => rw [e1] at e; cases e
    | some cl =>
      rw [e1] at e
      cases cl with
      | ins c' fs => cases e; exact ⟨n, fs, rfl, e1⟩
      | _ => cases e
  | _ => cases e
theorem op_neO {j : Nat} {me : Nat → Option Mini.F} (hr : RoomG (j + 1) X.A) (he : EqFs X Ga j me) (hn : NeFs X Ga me) : OpR X (compareOp .NotEq) (rNeO X Ga me) := by
  intro pins s sg H x y v u Q I rx ry q
  obtain ⟨ph, h, wx, wy, c, mf, R, rfl, rfl, hx, hy, ei, em, ej, x2⟩ := q
  obtain ⟨fi, fd, ps, EC, F, hb⟩ := he c mf em
  obtain ⟨n, fs, rfl, e1⟩ := ins_cell ei
  obtain ⟨n2, fs2, rfl, e2⟩ := ins_cell ej
  show wpAny (model X.prog X.w) X.A (richCompare .NotEq v u) (EP X pins sg Q) X.xe s
  obtain ⟨⟨dx, z1, cx⟩, _⟩ := R.cells n _ e1
  obtain ⟨⟨dx2, z2, _⟩, _⟩ := R.cells n2 _ e2
  obtain rfl : v = Value.ref (ph n) := rx
  obtain rfl : u = Value.ref (ph n2) := ry
  obtain ⟨mA, J, _⟩ := ins_get I.hok z1
  obtain ⟨od, J, _⟩ := J.look
  obtain ⟨mB, L, _⟩ := ins_get I.hok z2
  obtain ⟨oe, L, _⟩ := L.look
  refine PySem.W.ne_K (by have := hr.room.un; omega) I.kIn J L (hn c mf em).ne (hn c mf em).so EC.hs EC.hf ?_
  have hl : [Mini.W.ref n, .ref n2].length = ps.length := by
    by_cases cc : [Mini.W.ref n, .ref n2].length = ps.length
    · exact cc
    · rw [F.len _ _ cc] at x2; exact x2.elim
  have b := hb s [.ref (ph n), .ref (ph n2)] I.kIn (by rw [List.append_nil]; exact hl)
  rw [List.append_nil] at b
  have rv : Vals ([Mini.W.ref n, .ref n2].map (vW ph)) [Value.ref (ph n), .ref (ph n2)] := .cons (show RelV (V.ref (ph n)) (Value.ref (ph n)) from rfl) (.cons (show RelV (V.ref (ph n2)) (Value.ref (ph n2)) from rfl) .nil)
  refine wpAny_call (codeAny_mono (F.run X.A.in1 X.stack s H ⟨[.ref (ph n), .ref (ph n2)], []⟩ [.ref (ph n), .ref (ph n2)] _ _ (fun _ _ _ => False) ⟨hr.room.in1, hr.g⟩ ⟨I.ok.frames, I.ok.mod, I.bs, I.env0.bsz, I.stack, I.stkFree, I.hok, I.bare⟩ b rv ⟨ph, h, [.ref n, .ref n2], R, rfl, fun w hw => by
      rcases List.mem_cons.mp hw with z | z
      · rw [z]; exact hx
      · rw [List.mem_singleton.mp z]; exact hy, x2⟩) fun rr s' hq => ?_)
  cases rr with
  | error e => exact (passAt (X := X) (W := fun _ _ _ _ => False) takes0 sg pins H s e s' I hq)
  | ok fl =>
    cases fl with
    | ret w =>
      obtain ⟨z, H', I', rz, b, ez, q⟩ := I.after hq
      subst ez
      obtain rfl : w = Value.bool b := rz
      exact ⟨b, rfl, .bl (!b), H', I', rfl, q⟩
    | next => exact False.elim hq
    | brk => exact False.elim hq
    | cont => exact False.elim hq
theorem s_neO {me : Nat → Option Mini.F} {R0 : R2} (s0 : BinS X Ga gNe R0) : BinS X Ga (neO me) (fun x y H Q => R0 x y H Q ∨ rNeO X Ga me x y H Q) := by
  intro Wd ph h H sg x y Q R w1 w2 q
  unfold neO at q
  cases e : insOf x h with
  | none =>
    rw [e] at q
    exact .inl (s0 Wd ph h H sg x y Q R w1 w2 q)
  | some c =>
    rw [e] at q
    simp only [] at q
    cases em : me c with
    | none => rw [em] at q; exact q.elim
    | some mf =>
      rw [em] at q
      simp only [] at q
      by_cases kn : insOf y h = some c
      · rw [if_pos kn] at q
        refine .inr ⟨ph, h, x, y, c, mf, R, rfl, rfl, w1, w2, e, em, kn, ?_⟩
        cases e2 : mf [x, y] h with
        | ok w h1 =>
          rw [e2] at q
          cases w with
          | bl b =>
            have q' : rd X.K Ga Wd relW ph h sg (.ok (.bl (!b)) h1) Q := q
            exact fun ph' H' v g R' rl => ⟨b, rl.1, q' ph' H' _ g R' ⟨rfl, trivial⟩⟩
          | _ => exact q.elim
        | exc cc d h1 => rw [e2] at q; exact q.elim
        | bad => rw [e2] at q; exact q.elim
      · rw [if_neg kn] at q; exact q.elim
end
end Br
set_option Elab.async false
set_option autoImplicit false
set_option linter.all false
set_option maxRecDepth 100000
set_option maxHeartbeats 1100000
namespace Br
open PySem PySem.Spec PyProof.Rows L2 Mini
section
variable {X : Cx} {Ga : Nat → Addr} {pin : Pin} {Wd : WX} {ph : Nat → Addr} {h : MH} {r : Mini.Env} {sg : L2.St} {H : Hp} {a b c e : Expr} {pos : Pos} {m ma mb : Mini.E}
theorem f_tuple : FnS X Ga fTuple (fun xs H Q => ∃ p ys, xs = [.ref p] ∧ ((SqL X.K H p ys ∧ ∀ l, H l = none → Q (.ref l) (upd H l (.tup ys))) ∨ (SqT X.K H p ys ∧ Q (.ref p) H))) := by
  intro Wd ph h H sg xs Q R wx q
  match xs, q with
  | [.ref a], q =>
    simp only [fTuple] at q
    cases e1 : lstAt h a with
    | some ys =>
      rw [e1] at q
      obtain ⟨z1, z2⟩ := lstAt_ok R e1
      exact ⟨ph a, _, rfl, .inl ⟨z1, fun l hl => rd_new (o := fun _ => .tup (ys.map (vW ph))) q R hl (at_tup z2)⟩⟩
    | none =>
      rw [e1] at q
      simp only [] at q
      cases e2 : tupAt h a with
      | none => rw [e2] at q; exact q.elim
      | some ys =>
        rw [e2] at q
        exact ⟨ph a, _, rfl, .inr ⟨(tupAt_ok R e2).1, rd_ok (w := .ref a) q R (wx _ List.mem_cons_self)⟩⟩
theorem bools_map {ph : Nat → Addr} : ∀ {xs : List Mini.W} {bs : List Bool}, boolsOf xs = some bs → xs.map (vW ph) = bs.map V.bl
  | [], bs, e => by cases e; rfl
  | x :: xs, bs, e => by
    cases x with
    | bl b =>
      unfold boolsOf at e
      cases e1 : boolsOf xs with
      | none => rw [e1] at e; cases e
      | some cs =>
        rw [e1] at e
        cases e
        show V.bl b :: xs.map (vW ph) = _
        rw [bools_map e1]
        rfl
    | _ => cases e
theorem f_all : FnS X Ga fAll (rAll X.K) := by
  intro Wd ph h H sg xs Q R wx q
  match xs, q with
  | [.ref a], q =>
    simp only [fAll] at q
    cases e1 : lstAt h a with
    | none => rw [e1] at q; exact q.elim
    | some ys =>
      rw [e1] at q
      obtain ⟨z1, z2⟩ := lstAt_ok R e1
      simp only [Option.bind] at q
      cases e2 : boolsOf ys with
      | none => rw [e2] at q; exact q.elim
      | some bs =>
        rw [e2] at q
        rw [bools_map e2] at z1
        exact ⟨ph a, bs, rfl, z1, rd_ok (w := .bl _) q R trivial⟩
/-- xs[::-1] -/
theorem e_rev {k : Nat} {p1 p2 p3 : Pos} (ha : PE X a (tE X.K Ga pin Wd ma)) : PE X (.Subscript a (.Slice none none (some (.UnaryOp .USub (.Constant (.int 1) k p1) p2)) p3) pos) (tE X.K Ga pin Wd (eRev ma)) := by
  refine PE.imp (pe_revL ha) fun sg H Q ⟨ph, h, r, s, x⟩ => ?_
  refine ⟨ph, h, r, s, x.bind fun u h1 _ ph1 H1 b1 g1 R1 ⟨eb1, w1⟩ x1 => ?_⟩
  unfold revL at x1
  cases u with
  | ref n =>
    simp only [] at x1
    cases e1 : lstAt h1 n with
    | none => rw [e1] at x1; exact x1.elim
    | some ys =>
      rw [e1] at x1
      obtain ⟨z1, z2⟩ := lstAt_ok R1 e1
      refine ⟨ph1 n, _, eb1, z1, fun l hl => ?_⟩
      rw [← List.map_reverse]
      exact rd_new (o := fun _ => .lst (ys.reverse.map (vW ph1))) x1 R1 hl (at_lst fun x hx => z2 x (List.mem_reverse.mp hx))
  | _ => exact x1.elim
/-- + of tuples -/
theorem s_addX : BinS X Ga gAddX (fun x y H Q => rAddA x y H Q ∨ rCatA X.K x y H Q) := by
  intro Wd ph h H sg x y Q R w1 w2 q
  unfold gAddX at q
  cases e1 : tupOf h x with
  | none => rw [e1] at q; exact .inl (s_add Wd ph h H sg x y Q R w1 w2 q)
  | some xs =>
    cases e2 : tupOf h y with
    | none => rw [e1, e2] at q; exact .inl (s_add Wd ph h H sg x y Q R w1 w2 q)
    | some ys =>
      rw [e1, e2] at q
      simp only [] at q
      cases x with
      | ref n =>
        cases y with
        | ref k =>
          obtain ⟨a1, z1⟩ := tupAt_ok R (show tupAt h n = some xs from e1)
          obtain ⟨a2, z2⟩ := tupAt_ok R (show tupAt h k = some ys from e2)
          have hx : xs.map (vW ph) = [] ↔ xs = [] := List.map_eq_nil_iff
          have hy : ys.map (vW ph) = [] ↔ ys = [] := List.map_eq_nil_iff
          by_cases c3 : xs.length + ys.length ≤ 10000000
          · rw [if_pos c3] at q
            refine .inr ⟨ph n, ph k, _, _, rfl, rfl, a1, a2, by rw [List.length_map, List.length_map]; exact m_line c3, fun c1 => ?_, fun c1 c2 => ?_, fun c1 c2 p hp => ?_⟩
            · rw [if_pos (hx.mp c1)] at q
              exact rd_ok (w := .ref k) q R w2
            · rw [if_neg (fun z => c1 (hx.mpr z)), if_pos (hy.mp c2)] at q
              exact rd_ok (w := .ref n) q R w1
            · rw [if_neg (fun z => c1 (hx.mpr z)), if_neg (fun z => c2 (hy.mpr z))] at q
              rw [← List.map_append]
              refine rd_new (o := fun _ => .tup ((xs ++ ys).map (vW ph))) q R hp (at_tup fun x hx => ?_)
              rcases (List.mem_append.mp hx : _ ∨ _) with hx | hx
              · exact z1 x hx
              · exact z2 x hx
          · rw [if_neg c3] at q; exact q.elim
        | _ => cases e2
      | _ => cases e1
theorem s_in : BinS X Ga gIn (rInD X.K) := by
  intro Wd ph h H sg x y Q R w1 w2 q
  unfold gIn at q
  cases e1 : dataOf h dep x with
  | none => rw [e1] at q; exact q.elim
  | some d =>
    cases e2 : dataOf h dep y with
    | none => rw [e1, e2] at q; exact q.elim
    | some dy =>
      rw [e1, e2] at q
      cases dy with
      | list ds =>
        simp only [] at q
        by_cases c : SeqAt.shaped d = true ∧ SeqAt.shaped (.list ds) = true
        · rw [if_pos c] at q
          exact ⟨d, ds, dataOf_ok R _ _ _ w1 e1, dataOf_ok R _ _ _ w2 e2, c.1, c.2, rd_ok (w := .bl _) q R trivial⟩
        · rw [if_neg c] at q; exact q.elim
      | _ => exact q.elim
theorem s_notin : BinS X Ga gNotIn (rNotInD X.K) := by
  intro Wd ph h H sg x y Q R w1 w2 q
  unfold gNotIn at q
  cases e1 : dataOf h dep x with
  | none => rw [e1] at q; exact q.elim
  | some d =>
    cases e2 : dataOf h dep y with
    | none => rw [e1, e2] at q; exact q.elim
    | some dy =>
      rw [e1, e2] at q
      cases dy with
      | list ds =>
        simp only [] at q
        by_cases c : SeqAt.shaped d = true ∧ SeqAt.shaped (.list ds) = true
        · rw [if_pos c] at q
          exact ⟨d, ds, dataOf_ok R _ _ _ w1 e1, dataOf_ok R _ _ _ w2 e2, c.1, c.2, rd_ok (w := .bl _) q R trivial⟩
        · rw [if_neg c] at q; exact q.elim
      | _ => exact q.elim
end
end Br
set_option Elab.async false
set_option autoImplicit false
set_option linter.all false
set_option maxRecDepth 100000
set_option maxHeartbeats 1100000
namespace Br
open PySem PySem.Spec PyProof.Rows L2 Mini
/-! ### own classes as the top has written them, and short words for gen.py -/
structure Meth_ (K : PySem.W.Frag) (C : Addr) (nm qual : Str) (st : Stmt) (ps : List Str) : Prop where
  ex : ∃ (f : Addr) (fd : FuncData), PySem.W.findIn K (.ref C) nm = some (some (.ref f)) ∧ PySem.W.isFn K (.ref f) = true ∧ Fun K nm qual st f fd ∧ Binds K fd ps []
structure DefM (P : Program) (w : World) (K : PySem.W.Frag) (mg : Str → Option Value) (base : Heap) (Ga : Nat → Addr) (k : Nat) (C : Addr) (nm qual : Str) (st : Stmt) (ps : List Str) (m : Mini.F) : Prop where
  ex : ∃ (f : Addr) (fd : FuncData), PySem.W.findIn K (.ref C) nm = some (some (.ref f)) ∧ PySem.W.isFn K (.ref f) = true ∧ Fun K nm qual st f fd ∧ Binds K fd ps [] ∧ FnM P w K mg base Ga k f fd ps m
theorem defm_of {P : Program} {w : World} {K : PySem.W.Frag} {mg : Str → Option Value} {base : Heap} {Ga : Nat → Addr} {k : Nat} {C : Addr} {x q : Str} {st : Stmt} {N ps : List Str} {sb : Mini.S} (Y : Meth_ K C x q st ps) (S : FnScope N ps (defScope st))
    (hbody : ∀ (f : Addr) (cdv : Value) (A : Around) (outer : List PySem.Env) (s : Shared) (H : Hp) (E : XK), RoomG k (A.deeper (envOfC q (defScope st) s.heap.objs.size f cdv)) →
      PSs (cxOf (L2.CX P w) P w K mg base N q (defScope st) f cdv A outer s H E) (defBody st) (tS K Ga none (fun c d _ H => E c d H) sb)) :
    DefM P w K mg base Ga (k + 1) C x q st ps (fnOf N.length ps.length sb) := by
  obtain ⟨f, fd, h1, h0, F, h2⟩ := Y.ex
  obtain ⟨oc, od, kV, doc, pm, an, cdv, ct, sl, rfl, lk, hcd⟩ := F.ex
  exact ⟨f, _, h1, h0, F, h2, fnm_of lk hcd S fun A outer s H E hr => hbody f cdv A outer s H E hr⟩
structure OwnC (K : PySem.W.Frag) (mg : Str → Option Value) (Ga : Nat → Addr) (ci : Nat) (x : Str) : Prop where
  g : mg x = some (.ref (Ga ci))
  cx : ClsX K (Ga ci)
  made : PySem.W.makesIn K (Ga ci) = true
  kp : PySem.W.keepIn K (.ref (Ga ci)) = true
  kit : KitC K Ga ci
section
variable {X : Cx} {Ga : Nat → Addr} {pin : Pin} {Wd : WX} {e a b : Expr} {es : List Expr} {kws : List Keyword} {m ma mb : Mini.E} {ms mk : Mini.A} {pos p : Pos} {k j ci : Nat} {x q : Str} {st : Stmt} {ps ks : List Str} {mf : Mini.F}
theorem mk_ (D : DefM X.prog X.w X.K X.mg X.base Ga k (Ga ci) "__init__" q st ps mf) (C : OwnC X.K X.mg Ga ci x) (hr : RoomG j X.A) (tk : Takes X Wd) (ha : PA X (e :: es) (tA X.K Ga pin Wd ms)) (hk : k + 1 ≤ j := by decide) (hg : Gl X x := by rfl) (hdb : (x == ("__debug__" : Str)) = false := by decide) (he : starEach (e :: es) X.env = (false, eval e X.env) :: starEach es X.env := by rfl) (hpl : (backTo pos (starEach es X.env)).any (·.1) = false := by rfl) :
    PE X (.Call (.Name x p) (e :: es) [] pos) (tE X.K Ga pin Wd (eMake ci mf ms)) := by
  obtain ⟨f, fd, h1, h0, F, h2, M⟩ := D.ex
  exact e_make ⟨C.made, h1, h0, C.kp⟩ C.cx M (hr.mono hk) hg C.g h2 tk ha hdb he hpl
theorem mkK_ {n : Nat} {is : List Nat} (D : DefM X.prog X.w X.K X.mg X.base Ga k (Ga ci) "__init__" q st ps mf) (C : OwnC X.K X.mg Ga ci x) (hr : RoomG j X.A) (tk : Takes X Wd)
    (hb : ∀ (kV doc pm : Value) (an : Option Addr) (cdv ct : Value) (u : Value) (ws : List Value), ws.length = ks.length → bindArgs (PySem.W.fnOf "__init__" q (defArgs st) (defBody st) (defScope st) .none kV doc pm an cdv ct) ⟨[u], ks.zip ws⟩ = pure (ps.zip (u :: pick is ws)))
    (hkw : PK X kws (tA X.K Ga pin Wd mk)) (hn : ks.length = n := by rfl) (hk : k + 1 ≤ j := by decide) (hg : Gl X x := by rfl) (hall : (backToKw pos (keywordEach kws X.env)).all (·.1.isSome) = true := by rfl) (hks : (backToKw pos (keywordEach kws X.env)).filterMap (·.1) = ks := by rfl) (hdb : (x == ("__debug__" : Str)) = false := by decide)
    (hpl : ((backTo pos (starEach [] X.env)).any (·.1) || (backToKw pos (keywordEach kws X.env)).any (·.1.isNone))
      = false := by rfl) :
    PE X (.Call (.Name x p) [] kws pos) (tE X.K Ga pin Wd (eMakeK ci mf is (aN n mk))) := by
  obtain ⟨f, fd, h1, h0, F, h2, M⟩ := D.ex
  refine e_makeK ⟨C.made, h1, h0, C.kp⟩ C.cx M (hr.mono hk) hg C.g ?_ tk hkw hn hall hks hdb hpl
  obtain ⟨oc, od, kV, doc, pm, an, cdv, ct, sl, rfl, lk, hcd⟩ := F.ex
  exact fun s u ws h1 => .of_eq (hb kV doc pm an cdv ct u ws h1)
theorem isiC_ (C : OwnC X.K X.mg Ga ci x) {p2 : Pos} (hm : X.mg "isinstance" = none) (ha : PE X a (tE X.K Ga pin Wd m)) (hg : Gl X x := by rfl) (hgl : Gl X "isinstance" := by rfl) (hd2 : (x == ("__debug__" : Str)) = false := by decide) (he : starEach (a :: [.Name x p2]) X.env = (false, eval a X.env) :: starEach [.Name x p2] X.env := by rfl) (he2 : starEach (.Name x p2 :: []) X.env = (false, eval (.Name x p2) X.env) :: starEach [] X.env := by rfl) (hpl : (backTo pos (starEach [.Name x p2] X.env)).any (·.1) = false := by rfl) :
    PE X (.Call (.Name "isinstance" p) [a, .Name x p2] [] pos) (tE X.K Ga pin Wd (eUn (gIsiC ci) m)) := e_isiC rfl hgl hm hg C.g C.kit hd2 ha he he2 hpl
theorem addX_ (ha : PE X a (tE X.K Ga pin Wd ma)) (hb : PE X b (tE X.K Ga pin Wd mb)) : PE X (.BinOp a .Add b pos) (tE X.K Ga pin Wd (eBin gAddX ma mb)) := e_bin (OpR.or op_addA op_catA) s_addX ha hb
end
theorem blkOk_in {N : List Str} {sc scope : Scope} {own : List (Str × Nat)} (h : blkC N sc scope own = true) : BlkOk N sc scope own := blkOk_by h
theorem blk_in {N N' : List Str} {sc sc' scope : Scope} {own : List (Str × Nat)} (e : sc = sc') (h : blkC N sc' scope own = true) : blkC N sc scope own = true := by rw [e]; exact h
theorem hu65 {k : Nat} {A : Around} (r : RoomG k A) : A.units + 65 < cLine := by have := r.room.un; omega
theorem kitC_of {K : PySem.W.Frag} {Ga : Nat → Addr} {ci n : Nat} (hci : ci < n) (hC : PySem.W.isClsIn K (Ga ci) = true) (hT : PySem.W.typeIn K (.ref (Ga ci)) = some (.type "type")) (h0 : ∀ c, n ≤ c → PySem.W.hasDictIn K (Ga c) = false)
    (h1 : ∀ c, c < n → PySem.W.subIn K (.ref (Ga c)) (.ref (Ga ci)) = some (decide (c = ci))) (h2 : ∀ k : Option Mini.Ty, PySem.W.subIn K (.type (kindName k)) (.ref (Ga ci)) = some false) : KitC K Ga ci := by
  have e2 : ((PySem.W.clsIn K (Ga ci)).isSome && PySem.W.typeIn K (.ref (Ga ci)) == some (.type "type")) = true := by
    have h2' : (PySem.W.clsIn K (Ga ci)).isSome = true := hC
    rw [h2', hT] <;> rfl
  have all : ∀ c, PySem.W.hasDictIn K (Ga c) = true → PySem.W.kitOne K (.ref (Ga c)) (.ref (Ga ci)) = some (decide (c = ci)) := fun c hc => by
    have lt : c < n := Nat.lt_of_not_le fun z => by have := h0 c z; rw [hc] at this; cases this
    have s := h1 c lt
    unfold PySem.W.kitOne
    by_cases z : (Value.ref (Ga c) == Value.ref (Ga ci)) = true
    · rw [if_pos z]
      have zz' : Ga c = Ga ci := Value.ref.inj (beq_iff_eq.mp z)
      by_cases cc : c = ci
      · simp [cc]
      · exfalso
        have s2 := h1 ci hci
        rw [zz', s2] at s
        simp [cc] at s
    · rw [if_neg z]
      show (if ((PySem.W.clsIn K (Ga ci)).isSome && PySem.W.typeIn K (.ref (Ga ci)) == some (.type "type")) = true then PySem.W.subIn K (.ref (Ga c)) (.ref (Ga ci)) else none) = some (decide (c = ci))
      rw [if_pos e2]
      exact s
  refine ⟨fun k => ?_, fun c cx => all c cx.cl.hd, fun c cx => all c cx.xf.hdC⟩
  have n : ¬ (Value.type (kindName k) == Value.ref (Ga ci)) = true := fun z => by have := beq_iff_eq.mp z; cases this
  unfold PySem.W.kitOne
  rw [if_neg n]
  show (if ((PySem.W.clsIn K (Ga ci)).isSome && PySem.W.typeIn K (.ref (Ga ci)) == some (.type "type")) = true then PySem.W.subIn K (.type (kindName k)) (.ref (Ga ci)) else none) = some false
  rw [if_pos e2]
  exact h2 k
end Br
set_option Elab.async false
set_option autoImplicit false
set_option linter.all false
set_option maxRecDepth 100000
set_option maxHeartbeats 1100000
namespace Br
open PySem PySem.Spec PyProof.Rows L2 Mini
section
variable {X : Cx} {Ga : Nat → Addr} {pin : Pin} {Wd : WX} {ph : Nat → Addr} {h : MH} {r : Mini.Env} {sg : L2.St} {H : Hp} {o e : Expr} {m mo : Mini.E}
/-- what a method of one argument does, of Mini and of the model -/
def Met1S (X : Cx) (Ga : Nat → Addr) (g : Mini.W → Mini.W → MH → Mini.R Mini.W) (rr : V → List V → Hp → VK → Prop) : Prop :=
  ∀ (Wd : WX) (ph : Nat → Addr) (h : MH) (H : Hp) (sg : L2.St) (x y : Mini.W) (Q : VK), HR X.K Ga ph h H → wf h.length x → wf h.length y → rd X.K Ga Wd relW ph h sg (g x y h) Q → rr (vW ph x) [vW ph y] H Q
def Met0S (X : Cx) (Ga : Nat → Addr) (g : Mini.W → MH → Mini.R Mini.W) (rr : V → List V → Hp → VK → Prop) : Prop :=
  ∀ (Wd : WX) (ph : Nat → Addr) (h : MH) (H : Hp) (sg : L2.St) (x : Mini.W) (Q : VK), HR X.K Ga ph h H → wf h.length x → rd X.K Ga Wd relW ph h sg (g x h) Q → rr (vW ph x) [] H Q
theorem isLst_ty {u : Mini.W} (R1 : HR X.K Ga ph h H) (c : isLst u h = true) : ∃ n xs, u = .ref n ∧ h[n]? = some (.lst xs) ∧ H (ph n) = some (.lst (xs.map (vW ph))) := by
  cases u with
  | ref n =>
    simp only [isLst] at c
    cases e1 : h[n]? with
    | none => rw [e1] at c; cases c
    | some cl =>
      rw [e1] at c
      cases cl with
      | lst xs => exact ⟨n, xs, rfl, e1, (R1.cells n _ e1).1⟩
      | _ => cases c
  | _ => cases c
theorem e_met1 {nm : Str} {id : String} {p q : Pos} {g : Mini.W → Mini.W → MH → Mini.R Mini.W} {rr : V → List V → Hp → VK → Prop} (slot : Slot "list" nm id) (hty : typeOf (.builtin id) = pure (.type "method_descriptor")) (mt : MtR X id rr) (hg : Met1S X Ga g rr)
    (ho : PE X o (tE X.K Ga pin Wd mo)) (he : PE X e (tE X.K Ga pin Wd m)) (hbase : attributeBase o nm X.env (eval o X.env) = eval o X.env := by rfl)
    (hfew : ((backTo q (starEach [e] X.env)).all (fun x => !x.1) && (backToKw q (keywordEach [] X.env)).all (fun x => x.1.isSome)
      && decide (([e] : List Expr).length + ([] : List Keyword).length + (if ([] : List Keyword).isEmpty then 0 else 1) < 30))
      = true := by rfl)
    (hline : (p.endLine == q.line) = true := by rfl) (hs : starEach (e :: []) X.env = (false, eval e X.env) :: starEach [] X.env := by rfl) (hplain : (backTo q (starEach [] X.env)).any (·.1) = false := by rfl) :
    PE X (.Call (.Attribute o nm p) [e] [] q) (tE X.K Ga pin Wd (eMet1 g mo m)) := by
  refine PE.imp (pe_bm PySem.F.plainAttrs_list slot hty mt ho (pa_cons he pa_nil hs) hbase hfew hline hs hplain) fun sg H Q ⟨ph, h, r, s, x⟩ => ?_
  refine ⟨ph, h, r, s, x.bind fun u h1 _ ph1 H1 b1 g1 R1 ⟨eb1, w1⟩ x1 => ?_⟩
  by_cases c : isLst u h1 = true
  · rw [if_pos c] at x1
    refine ⟨?_, ph1, h1, r, s.grow g1 R1, x1.bind fun y h2 _ ph2 H2 b2 g2 R2 ⟨eb2, w2⟩ x2 => ?_⟩
    · obtain ⟨n, xs, rfl, e1, e2⟩ := isLst_ty R1 c
      rw [eb1]
      exact .inl ⟨rfl, _, .inl (.inl e2)⟩
    · rw [eb1, eb2, ← g2.v w1]
      exact hg Wd ph2 h2 H2 _ u y _ R2 (w1.mono g2.le) w2 x2
  · rw [if_neg c] at x1; exact x1.elim
theorem e_met0 {nm : Str} {id : String} {p q : Pos} {g : Mini.W → MH → Mini.R Mini.W} {rr : V → List V → Hp → VK → Prop} (slot : Slot "list" nm id) (hty : typeOf (.builtin id) = pure (.type "method_descriptor")) (mt : MtR X id rr) (hg : Met0S X Ga g rr)
    (ho : PE X o (tE X.K Ga pin Wd mo)) (hbase : attributeBase o nm X.env (eval o X.env) = eval o X.env := by rfl) (hline : (p.endLine == q.line) = true := by rfl) :
    PE X (.Call (.Attribute o nm p) [] [] q) (tE X.K Ga pin Wd (eMet0 g mo)) := by
  refine PE.imp (pe_bm0 PySem.F.plainAttrs_list slot hty mt ho hbase hline) fun sg H Q ⟨ph, h, r, s, x⟩ => ?_
  refine ⟨ph, h, r, s, x.bind fun u h1 _ ph1 H1 b1 g1 R1 ⟨eb1, w1⟩ x1 => ?_⟩
  by_cases c : isLst u h1 = true
  · rw [if_pos c] at x1
    refine ⟨?_, ?_⟩
    · obtain ⟨n, xs, rfl, e1, e2⟩ := isLst_ty R1 c
      rw [eb1]
      exact .inl ⟨rfl, _, .inl (.inl e2)⟩
    · rw [eb1]
      exact hg Wd ph1 h1 H1 _ u _ R1 w1 x1
  · rw [if_neg c] at x1; exact x1.elim
theorem lstM_ok {K : PySem.W.Frag} {x : Mini.W} {a : Nat} {xs : List Mini.W} (R : HR K Ga ph h H) (e : lstM h x = some (a, xs)) : x = .ref a ∧ h[a]? = some (.lst xs) ∧ H (ph a) = some (.lst (xs.map (vW ph))) ∧ ∀ y ∈ xs, wf h.length y := by
  cases x with
  | ref n =>
    simp only [lstM] at e
    cases e1 : h[n]? with
    | none => rw [e1] at e; cases e
    | some cl =>
      rw [e1] at e
      cases cl with
      | lst ys => cases e; exact ⟨rfl, e1, R.cells _ _ e1⟩
      | _ => cases e
  | _ => cases e
theorem set_lst {K : PySem.W.Frag} {a : Nat} {xs ys : List Mini.W} (R : HR K Ga ph h H) (e : h[a]? = some (.lst xs)) (hy : ∀ y ∈ ys, wf h.length y) : HR K Ga ph (h.set a (.lst ys)) (upd H (ph a) (.lst (ys.map (vW ph)))) :=
  R.set e trivial trivial ⟨upd_same, hy⟩
theorem er_map {α β : Type} (f : α → β) : ∀ (xs : List α) (k : Nat), (xs.map f).eraseIdx k = (xs.eraseIdx k).map f
  | [], _ => rfl
  | x :: xs, 0 => rfl
  | x :: xs, k + 1 => by
    show f x :: (xs.map f).eraseIdx k = f x :: (xs.eraseIdx k).map f
    rw [er_map f xs k]
theorem m_ext : Met1S X Ga gExt rExtend := by
  intro Wd ph h H sg x y Q R w1 w2 q
  unfold gExt at q
  cases e1 : lstM h x with
  | none => rw [e1] at q; exact q.elim
  | some p =>
    cases e2 : lstM h y with
    | none => rw [e1, e2] at q; exact q.elim
    | some p2 =>
      obtain ⟨a, xs⟩ := p
      obtain ⟨b, ys⟩ := p2
      rw [e1, e2] at q
      simp only [] at q
      by_cases c : xs.length + ys.length ≤ 10000000
      · rw [if_pos c] at q
        obtain ⟨rfl, h1, a1, z1⟩ := lstM_ok R e1
        obtain ⟨rfl, h2, a2, z2⟩ := lstM_ok R e2
        refine ⟨ph a, ph b, xs.map (vW ph), ys.map (vW ph), rfl, rfl, a1, a2, by rw [List.length_map, List.length_map]; exact m_line c, ?_⟩
        rw [← List.map_append]
        exact q.ok1 ph _ _ Grow.set (set_lst R h1 fun y hy => by
          rcases (List.mem_append.mp hy : _ ∨ _) with hy | hy
          · exact z1 y hy
          · exact z2 y hy) ⟨rfl, trivial⟩
      · rw [if_neg c] at q; exact q.elim
theorem m_pop : Met0S X Ga gPop rPop := by
  intro Wd ph h H sg x Q R w1 q
  unfold gPop at q
  cases e1 : lstM h x with
  | none => rw [e1] at q; exact q.elim
  | some p =>
    obtain ⟨a, xs⟩ := p
    rw [e1] at q
    simp only [] at q
    cases e2 : xs[xs.length - 1]? with
    | none => rw [e2] at q; exact q.elim
    | some y =>
      rw [e2] at q
      obtain ⟨rfl, h1, a1, z1⟩ := lstM_ok R e1
      refine ⟨ph a, xs.map (vW ph), vW ph y, rfl, rfl, a1, by rw [List.length_map, List.getElem?_map, e2]; rfl, ?_⟩
      have em : (xs.map (vW ph)).dropLast = xs.dropLast.map (vW ph) := by rw [List.map_dropLast]
      rw [em]
      exact q.ok1 ph _ _ Grow.set (set_lst R h1 fun y hy => z1 y (List.dropLast_subset xs hy)) ⟨rfl, by rw [List.length_set]; exact z1 y (List.mem_of_getElem? e2)⟩
theorem m_rev : Met0S X Ga gRevM rReverse := by
  intro Wd ph h H sg x Q R w1 q
  unfold gRevM at q
  cases e1 : lstM h x with
  | none => rw [e1] at q; exact q.elim
  | some p =>
    obtain ⟨a, xs⟩ := p
    rw [e1] at q
    obtain ⟨rfl, h1, a1, z1⟩ := lstM_ok R e1
    refine ⟨ph a, xs.map (vW ph), rfl, rfl, a1, ?_⟩
    rw [← List.map_reverse]
    exact q.ok1 ph _ _ Grow.set (set_lst R h1 fun y hy => z1 y (List.mem_reverse.mp hy)) ⟨rfl, trivial⟩
theorem m_popAt : Met1S X Ga gPopAt rPopAt := by
  intro Wd ph h H sg x y Q R w1 w2 q
  unfold gPopAt at q
  cases e1 : lstM h x with
  | none => rw [e1] at q; exact q.elim
  | some p =>
    obtain ⟨a, xs⟩ := p
    rw [e1] at q
    cases y with
    | int i =>
      simp only [] at q
      by_cases c : 0 ≤ i ∧ i < 9223372036854775808
      · rw [if_pos c] at q
        cases e2 : xs[i.toNat]? with
        | none => rw [e2] at q; exact q.elim
        | some w =>
          rw [e2] at q
          obtain ⟨rfl, h1, a1, z1⟩ := lstM_ok R e1
          have hl : i.toNat < xs.length := (List.getElem?_eq_some_iff.mp e2).1
          refine ⟨ph a, xs.map (vW ph), i, i.toNat, vW ph w, rfl, rfl, a1, by omega, by omega, ?_, by rw [List.getElem?_map, e2]; rfl, ?_⟩
          · rw [List.length_map]
            unfold seqIndex?
            simp only []
            rw [if_neg (by omega : ¬ i < 0), if_pos (by simp; omega)]
          · have em : (xs.map (vW ph)).eraseIdx i.toNat = (xs.eraseIdx i.toNat).map (vW ph) := er_map _ _ _
            rw [em]
            exact q.ok1 ph _ _ Grow.set (set_lst R h1 fun y hy => z1 y (List.mem_of_mem_eraseIdx hy)) ⟨rfl, by rw [List.length_set]; exact z1 w (List.mem_of_getElem? e2)⟩
      · rw [if_neg c] at q; exact q.elim
    | _ => exact q.elim
end
end Br
set_option Elab.async false
set_option autoImplicit false
set_option linter.all false
set_option maxRecDepth 100000
set_option maxHeartbeats 4100000
namespace Br
open PySem PySem.Spec PyProof.Rows L2 Mini
/-! ### a tuple once, or not at all -/
theorem tup_mul1 (l : Addr) (items : Array Value) (n : Nat) (dd : Option Addr) (sl : Array (Option Value)) (u : Tok) :
    Meets (Builtin.«tuple.__mul__» ⟨[.ref l, .int 1 u], []⟩) (fun _ R s => s.heap.get? l = some { cls := .type "tuple", dict := dd, data := .seq items n, slots := sl } ∧ R (.ok (.ret (Value.ref l))) s) :=
  .of_wp fun pr wd A R st hh => by
    obtain ⟨hp, gn, dr, tk, os⟩ := st
    obtain ⟨hL, h⟩ := hh
    have f1 := AutoSeq1.idx_int
    have lim0 : (decide ((1 : Int) < -(2 ^ 63)) || decide ((1 : Int) ≥ 2 ^ 63)) = false := by decide
    wp_walk using wpAny_loadPart' hL
    repeat (first
      | (refine wpAny_ite_false (decide_eq_false (by rw [lim0]; exact Bool.false_ne_true)) ?_; wp_walk using wpAny_loadPart' hL)
      | (refine wpAny_ite_true (by simp) ?_; wp_walk using wpAny_loadPart' hL))
    exact ⟨_, rfl, h⟩
theorem tup_mul0 (l : Addr) (items : Array Value) (n : Nat) (dd : Option Addr) (sl : Array (Option Value)) (u : Tok) (hi : items.isEmpty = false) :
    Meets (Builtin.«tuple.__mul__» ⟨[.ref l, .int 0 u], []⟩) (fun _ R s => s.heap.get? l = some { cls := .type "tuple", dict := dd, data := .seq items n, slots := sl } ∧
      R (.ok (.ret (Value.ref s.heap.objs.size))) { s with heap := s.heap.push { cls := Value.type "tuple", data := Data.seq #[] }, toks := s.toks }) :=
  .of_wp fun pr wd A R st hh => by
    obtain ⟨hp, gn, dr, tk, os⟩ := st
    obtain ⟨hL, h⟩ := hh
    have f1 := AutoSeq1.idx_int
    have lim0 : (decide ((0 : Int) < -(2 ^ 63)) || decide ((0 : Int) ≥ 2 ^ 63)) = false := by decide
    have one1 : (items.isEmpty || (0 : Int) == 1) = false := by rw [hi]; rfl
    wp_walk using wpAny_loadPart' hL
    repeat (first
      | (refine wpAny_ite_false (decide_eq_false (by rw [lim0]; exact Bool.false_ne_true)) ?_; wp_walk using wpAny_loadPart' hL)
      | (refine wpAny_ite_false (decide_eq_false (by rw [one1]; exact Bool.false_ne_true)) ?_; wp_walk using wpAny_loadPart' hL)
      | (refine wpAny_ite_true (by simp) ?_; wp_walk using wpAny_loadPart' hL))
    exact ⟨_, rfl, h⟩
def rRep01 (K : PySem.W.Frag) : R2 := fun x y H Q => ∃ l xs, x = .ref l ∧ SqT K H l xs ∧ xs ≠ [] ∧ ((y = .int 1 ∧ Q (.ref l) H) ∨ (y = .int 0 ∧ ∀ p, H p = none → Q (.ref p) (upd H p (.tup []))))
theorem op_rep01 {X : Cx} : OpR X (binaryOp .Mult) (rRep01 X.K) := by
  intro pins s sg H x y v u Q I rx ry hh
  obtain ⟨l, xs, rfl, hT, hne, q⟩ := hh
  cases rx
  obtain ⟨its, r, ⟨⟨cl, dd, dat, sl⟩, ho, hc, n, hd⟩, hs⟩ := I.tuple hT
  simp only at hc hd
  subst hc hd
  have hi : its.toArray.isEmpty = false := by clear q; exact (by
    cases its with
    | nil => cases r; exact absurd rfl hne
    | cons a b => rfl)
  rcases q with ⟨rfl, q⟩ | ⟨rfl, q⟩
  · obtain ⟨t, rfl⟩ := ry
    refine wpAny_binaryOp_repeat_ref (T := "tuple") (U := "int") (by decide) ⟨_, ho, rfl⟩ (fun s' => typeIs_int s' 1 t) noFill_tuple_mul F.fills_int_mul F.slot_int_rmul repeat_tuple F.slot_int_index.lookup
      (call_meets F.slot_int_rmul (typeIs_int s 1 t) F.entry_int_rmul (F.args_int_rmul_2 _ _) (int_rmul_tuple 1 t l its.toArray n dd sl)
        ⟨ho, rfl, ⟨_, ho, rfl⟩, call_meets F.slot_tuple_mul ⟨_, ho, rfl⟩ F.entry_tuple_mul (F.args_tuple_mul_2 _ _) (tup_mul1 l its.toArray n dd sl t) ⟨ho, ?_⟩⟩)
    exact ⟨.ref l, H, I, rfl, q⟩
  · obtain ⟨t, rfl⟩ := ry
    refine wpAny_binaryOp_repeat_ref (T := "tuple") (U := "int") (by decide) ⟨_, ho, rfl⟩ (fun s' => typeIs_int s' 0 t) noFill_tuple_mul F.fills_int_mul F.slot_int_rmul repeat_tuple F.slot_int_index.lookup
      (call_meets F.slot_int_rmul (typeIs_int s 0 t) F.entry_int_rmul (F.args_int_rmul_2 _ _) (int_rmul_tuple 0 t l its.toArray n dd sl)
        ⟨ho, rfl, ⟨_, ho, rfl⟩, call_meets F.slot_tuple_mul ⟨_, ho, rfl⟩ F.entry_tuple_mul (F.args_tuple_mul_2 _ _) (tup_mul0 l its.toArray n dd sl t hi) ⟨ho, ?_⟩⟩)
    exact ⟨.ref s.heap.objs.size, _, I.laid (t' := s.toks) (o := .tup []) (fun b ob q => Heap.get?_push_of_some _ q) (Nat.le_refl _) ⟨Nat.zero_le _, [], .nil, IsTup.new _ _⟩, rfl, q _ (I.hok.fresh (Nat.le_refl _))⟩
theorem s_mulX {X : Cx} {Ga : Nat → Addr} : BinS X Ga gMulX (fun x y H Q => rI CMulA (fun i j => .int (i * j)) x y H Q ∨ (rRepT X.K x y H Q ∨ rRep01 X.K x y H Q)) := by
  intro Wd ph h H sg x y Q R w1 w2 q
  unfold gMulX at q
  cases e1 : tupOf h x with
  | none => rw [e1] at q; exact .inl (s_intOpC (fun _ _ => mulOk_ok) Wd ph h H sg x y Q R w1 w2 q)
  | some xs =>
    rw [e1] at q
    cases y with
    | int k =>
      simp only [] at q
      cases x with
      | ref n =>
        obtain ⟨a1, z1⟩ := tupAt_ok R (show tupAt h n = some xs from e1)
        by_cases c0 : xs = []
        · rw [if_pos c0] at q; exact q.elim
        · rw [if_neg c0] at q
          have hx : xs.map (vW ph) ≠ [] := fun z => c0 (List.map_eq_nil_iff.mp z)
          by_cases c1 : k = 1
          · rw [if_pos c1] at q
            subst c1
            exact .inr (.inr ⟨ph n, _, rfl, a1, hx, .inl ⟨rfl, rd_ok (w := .ref n) q R w1⟩⟩)
          · rw [if_neg c1] at q
            by_cases c2 : k = 0
            · rw [if_pos c2] at q
              subst c2
              exact .inr (.inr ⟨ph n, _, rfl, a1, hx, .inr ⟨rfl, fun p hp => rd_new (o := fun _ => .tup (([] : List Mini.W).map (vW ph))) q R hp (at_tup fun x hx => nomatch hx)⟩⟩)
            · rw [if_neg c2] at q
              by_cases c3 : 2 ≤ k ∧ k ≤ 1000 ∧ xs.length ≤ 1000
              · rw [if_pos c3] at q
                refine .inr (.inl ⟨ph n, k, _, rfl, rfl, a1, hx, c3.1, c3.2.1, by rw [List.length_map]; exact c3.2.2, fun p hp => ?_⟩)
                have em : (List.replicate k.toNat (xs.map (vW ph))).flatten = ((List.replicate k.toNat xs).flatten).map (vW ph) := by rw [List.map_flatten, List.map_replicate]
                rw [em]
                refine rd_new (o := fun _ => .tup (((List.replicate k.toNat xs).flatten).map (vW ph))) q R hp (at_tup fun x hx => ?_)
                obtain ⟨ls, hl, hx⟩ := List.mem_flatten.mp hx
                rw [(List.mem_replicate.mp hl).2] at hx
                exact z1 x hx
              · rw [if_neg c3] at q; exact q.elim
      | _ => cases e1
    | _ => exact .inl (s_intOpC (fun _ _ => mulOk_ok) Wd ph h H sg x _ Q R w1 w2 q)
theorem mulX_ {X : Cx} {Ga : Nat → Addr} {pin : Pin} {Wd : WX} {a b : Expr} {pos : Pos} {ma mb : Mini.E} (ha : PE X a (tE X.K Ga pin Wd ma)) (hb : PE X b (tE X.K Ga pin Wd mb)) : PE X (.BinOp a .Mult b pos) (tE X.K Ga pin Wd (eBin gMulX ma mb)) := e_bin (OpR.or op_mulA (OpR.or op_repT op_rep01)) s_mulX ha hb
theorem op_isB {X : Cx} : OpR X (compareOp .Is) (fun x y H Q => ∃ b c, x = .bl b ∧ y = .bl c ∧ Q (.bl (decide (b = c))) H) := by
  intro pins s sg H x y v u Q I rx ry h
  obtain ⟨b, c, rfl, rfl, q0⟩ := h
  cases rx
  cases ry
  show wpAny _ _ ((isSame (Value.bool b) (Value.bool c)) >>= fun z => pure (Value.bool z)) _ _ s
  refine wpAny_bind (wpAny_isSame_plain (by rfl) (wpAny_pure ?_))
  refine ⟨.bl (decide (b = c)), H, I, ?_, q0⟩
  show Value.bool _ = Value.bool _
  cases b <;> cases c <;> rfl
theorem op_isnotB {X : Cx} : OpR X (compareOp .IsNot) (fun x y H Q => ∃ b c, x = .bl b ∧ y = .bl c ∧ Q (.bl (!decide (b = c))) H) := by
  intro pins s sg H x y v u Q I rx ry h
  obtain ⟨b, c, rfl, rfl, q0⟩ := h
  cases rx
  cases ry
  show wpAny _ _ ((isSame (Value.bool b) (Value.bool c)) >>= fun z => pure (Value.bool (!z))) _ _ s
  refine wpAny_bind (wpAny_isSame_plain (by rfl) (wpAny_pure ?_))
  refine ⟨.bl (!decide (b = c)), H, I, ?_, q0⟩
  show Value.bool _ = Value.bool _
  cases b <;> cases c <;> rfl
theorem s_is {X : Cx} {Ga : Nat → Addr} : BinS X Ga gIs (fun x y H Q => (y = .non ∧ Q (.bl (decide (x = .non))) H) ∨ ∃ b c, x = .bl b ∧ y = .bl c ∧ Q (.bl (decide (b = c))) H) := by
  intro Wd ph h H sg x y Q R w1 w2 q
  unfold gIs at q
  cases x with
  | bl b => cases y with
    | bl c => exact .inr ⟨b, c, rfl, rfl, rd_ok (w := .bl _) q R trivial⟩
    | _ => exact .inl (s_isN Wd ph h H sg (.bl b) _ Q R w1 w2 q)
  | _ => exact .inl (s_isN Wd ph h H sg _ y Q R w1 w2 q)
theorem s_isnot {X : Cx} {Ga : Nat → Addr} : BinS X Ga gIsNot (fun x y H Q => (y = .non ∧ Q (.bl (!decide (x = .non))) H) ∨ ∃ b c, x = .bl b ∧ y = .bl c ∧ Q (.bl (!decide (b = c))) H) := by
  intro Wd ph h H sg x y Q R w1 w2 q
  unfold gIsNot at q
  cases x with
  | bl b => cases y with
    | bl c => exact .inr ⟨b, c, rfl, rfl, rd_ok (w := .bl _) q R trivial⟩
    | _ => exact .inl (s_notN Wd ph h H sg (.bl b) _ Q R w1 w2 q)
  | _ => exact .inl (s_notN Wd ph h H sg _ y Q R w1 w2 q)
theorem f_str {X : Cx} {Ga : Nat → Addr} : FnS X Ga fStr (fun xs H Q => ∃ i, xs = [.int i] ∧ i.natAbs.log2 < 1920 ∧ Q (.str (toString i)) H) := by
  intro Wd ph h H sg xs Q R wx q
  match xs, q with
  | [.int i], q =>
    simp only [fStr] at q
    by_cases c : i.natAbs.log2 < 1920
    · rw [if_pos c] at q
      exact ⟨i, rfl, c, rd_ok (w := .str _) q R trivial⟩
    · rw [if_neg c] at q; exact q.elim
theorem rowLt_eq : ∀ a b : List Int, rowLt a b = HT.lexLt a b
  | [], [] => rfl
  | [], _ :: _ => rfl
  | _ :: _, [] => rfl
  | a :: l, b :: m => by
    show (if a = b then rowLt l m else decide (a < b)) = if a = b then HT.lexLt l m else decide (a < b)
    rw [rowLt_eq l m]
theorem ints_vW {ph : Nat → Addr} : ∀ {xs : List Mini.W} {ns : List Int}, intsOf xs = some ns → xs.map (vW ph) = ns.map V.int
  | [], ns, e => by cases e; rfl
  | x :: xs, ns, e => by
    cases x with
    | int i =>
      unfold intsOf at e
      cases e1 : intsOf xs with
      | none => rw [e1] at e; cases e
      | some cs =>
        rw [e1] at e
        cases e
        show V.int i :: xs.map (vW ph) = _
        rw [ints_vW e1]
        rfl
    | _ => cases e
theorem s_ltX {X : Cx} {Ga : Nat → Addr} : BinS X Ga gLtX (fun x y H Q => rI0 (fun i j => .bl (decide (i < j))) x y H Q ∨ rLtT X.K x y H Q) := by
  intro Wd ph h H sg x y Q R w1 w2 q
  unfold gLtX at q
  cases e1 : (tupOf h x).bind intsOf with
  | none => rw [e1] at q; exact .inl (s_intCmp Wd ph h H sg x y Q R w1 w2 q)
  | some ns =>
    cases e2 : (tupOf h y).bind intsOf with
    | none => rw [e1, e2] at q; exact .inl (s_intCmp Wd ph h H sg x y Q R w1 w2 q)
    | some ms =>
      rw [e1, e2] at q
      simp only [] at q
      obtain ⟨xs, t1, t2⟩ := Option.bind_eq_some_iff.mp e1
      obtain ⟨ys, t3, t4⟩ := Option.bind_eq_some_iff.mp e2
      cases x with
      | ref n =>
        cases y with
        | ref k =>
          obtain ⟨a1, _⟩ := tupAt_ok R (show tupAt h n = some xs from t1)
          obtain ⟨a2, _⟩ := tupAt_ok R (show tupAt h k = some ys from t3)
          rw [ints_vW t2] at a1
          rw [ints_vW t4] at a2
          rw [rowLt_eq] at q
          exact .inr ⟨ph n, ph k, ns, ms, rfl, rfl, a1, a2, rd_ok (w := .bl _) q R trivial⟩
        | _ => cases t3
      | _ => cases t1
section
variable {X : Cx} {Ga : Nat → Addr} {pin : Pin} {Wd : WX} {ph : Nat → Addr} {h : MH} {r : Mini.Env} {sg : L2.St} {H : Hp} {e tg : Expr} {es : List Expr} {pos : Pos}
theorem pg_or {t1 t2 : TG} (p1 : PG X tg t1) (p2 : PG X tg t2) : PG X tg (fun v σ H Q => t1 v σ H Q ∨ t2 v σ H Q) := ⟨fun pins s σ H v u Q I rv want => by
  rcases want with x | x
  · exact p1.run pins s σ H v u Q I rv x
  · exact p2.run pins s σ H v u Q I rv x⟩
theorem g_seq {is : List Nat} {k n : Nat} {gs : List Mini.G} (hc : X.calm = true) (hg : Tgs X Ga pin is es gs) (hl : gs.length = n := by rfl) (hn : (assignEach es X.env).length = n := by rfl) (hst : (assignEach es X.env).findIdx? (·.1) = none := by rfl) : Tg X Ga pin is (.Tuple es k pos) (gSeqT gs) := by
  obtain ⟨ts, p, z⟩ := hg.ex
  refine ⟨_, pg_or (pg_tup hc p hn hst) (pg_unl hc p hn hst), fun ph h r sg H w Q s hw q => ?_⟩
  cases w with
  | ref a =>
    have q' : rdG X.K Ga pin is ph h sg (match seqAt h a with | some xs => gAll gs xs r h | none => .bad) Q := q
    unfold seqAt at q'
    have len : ∀ {xs : List Mini.W}, rdG X.K Ga pin is ph h sg (gAll gs xs r h) Q → (xs.map (vW ph)).length = n := fun {xs} q1 => by
      cases e : gAll gs xs r h with
      | ok r1 h1 => rw [List.length_map, gAll_len e, hl]
      | exc c d h1 => rw [e] at q1; exact q1.elim
      | bad => rw [e] at q1; exact q1.elim
    cases e1 : h[a]? with
    | none => rw [e1] at q'; exact q'.elim
    | some cl =>
      have y := s.hr.cells a cl e1
      rw [e1] at q'
      cases cl with
      | tup xs => exact .inl ⟨ph a, _, rfl, .inl (.inl y.1), len q', z ph h r sg H xs Q s y.2 q'⟩
      | ct xs => exact .inl ⟨ph a, _, rfl, .inr y.1, len q', z ph h r sg H xs Q s y.2 q'⟩
      | lst xs => exact .inr ⟨ph a, _, rfl, .inl (.inl y.1), len q', z ph h r sg H xs Q s y.2 q'⟩
      | fz xs =>
        obtain ⟨⟨o, y1⟩, y2⟩ := y
        exact .inr ⟨ph a, _, rfl, .inl (.inr ⟨o, y1⟩), len q', z ph h r sg H xs Q s y2 q'⟩
      | cl xs =>
        obtain ⟨⟨o, its, m, y1, y2, y3, y4, y5, y6⟩, yw⟩ := y
        exact .inr ⟨ph a, _, rfl, .inr ⟨o, its, m, y1, y2, y3, y4, y5, y6⟩, len q', z ph h r sg H xs Q s yw q'⟩
      | _ => exact q'.elim
  | _ => exact q.elim
end
end Br
set_option Elab.async false
set_option autoImplicit false
set_option linter.all false
set_option maxRecDepth 100000
/-! Rules for Mini's runs: what holds behind a run. Plain Lean. -/
namespace Mini
open PySem (Str PyData)
section
variable {α β : Type}
abbrev XQ := Nat → Option Nat → MH → Prop
abbrev XS := Nat → Option Nat → Env → MH → Prop
def R.wq (r : R α) (Q : α → MH → Prop) (X : XQ) : Prop := match r with
  | .ok a h => Q a h
  | .exc c d h => X c d h
  | .bad => False
def RS.wq (r : RS) (Q : Fl → Env → MH → Prop) (X : XS) : Prop := match r with
  | .ok f r h => Q f r h
  | .exc c d r h => X c d r h
  | .bad => False
/-- the same, closed: no unfolding passes it -/
structure R.wp (r : R α) (Q : α → MH → Prop) (X : XQ) : Prop where
  run : r.wq Q X
structure RS.wp (r : RS) (Q : Fl → Env → MH → Prop) (X : XS) : Prop where
  run : r.wq Q X
theorem R.wp_eq (r : R α) (Q : α → MH → Prop) (X : XQ) : r.wp Q X = r.wq Q X := propext ⟨fun x => x.run, fun x => ⟨x⟩⟩
theorem RS.wp_eq (r : RS) (Q : Fl → Env → MH → Prop) (X : XS) : r.wp Q X = r.wq Q X := propext ⟨fun x => x.run, fun x => ⟨x⟩⟩
variable {Q : α → MH → Prop} {X : XQ} {QS : Fl → Env → MH → Prop} {XX : XS} {r : Env} {h : MH}
@[simp] theorem wp_ok (a : α) : (R.ok a h).wp Q X = Q a h := by simp only [R.wp_eq, RS.wp_eq]; rfl
@[simp] theorem wp_exc (c : Nat) (d : Option Nat) : (R.exc c d h : R α).wp Q X = X c d h := by simp only [R.wp_eq, RS.wp_eq]; rfl
@[simp] theorem wp_bad : (R.bad : R α).wp Q X = False := by simp only [R.wp_eq, RS.wp_eq]; rfl
@[simp] theorem wp_bind {Q : β → MH → Prop} (x : R α) (f : α → MH → R β) : (x.bind f).wp Q X = x.wp (fun a h => (f a h).wp Q X) X := by simp only [R.wp_eq, RS.wp_eq]; cases x <;> rfl
theorem R.wp.imp {x : R α} {Q' : α → MH → Prop} {X' : XQ} (q : x.wp Q X) (hq : ∀ a h, Q a h → Q' a h) (hx : ∀ c d h, X c d h → X' c d h) : x.wp Q' X' := by
  rw [R.wp_eq] at *
  cases x with
  | ok a h => exact hq a h q
  | exc c d h => exact hx c d h q
  | bad => exact q
theorem RS.wp.imp {x : RS} {Q' : Fl → Env → MH → Prop} {X' : XS} (q : x.wp QS XX) (hq : ∀ f r h, QS f r h → Q' f r h) (hx : ∀ c d r h, XX c d r h → X' c d r h) : x.wp Q' X' := by
  rw [RS.wp_eq] at *
  cases x with
  | ok a r h => exact hq a r h q
  | exc c d r h => exact hx c d r h q
  | bad => exact q
theorem R.wp.toOk {x : R α} (q : x.wp Q (fun _ _ _ => False)) : ∃ a h, x = .ok a h ∧ Q a h := by
  rw [R.wp_eq] at q
  cases x with
  | ok a h => exact ⟨a, h, rfl, q⟩
  | exc c d h => exact q.elim
  | bad => exact q.elim
theorem wp_of_eq {x : R α} {a : α} (e : x = .ok a h) (q : Q a h) : x.wp Q X := by simp only [R.wp_eq, RS.wp_eq]; rw [e]; exact q
@[simp] theorem wp_ite {c : Prop} [Decidable c] {x y : R α} : (if c then x else y).wp Q X = if c then x.wp Q X else y.wp Q X := by simp only [R.wp_eq, RS.wp_eq]; split <;> rfl
/-! statements -/
@[simp] theorem ws_ok (f : Fl) : (RS.ok f r h).wp QS XX = QS f r h := by simp only [R.wp_eq, RS.wp_eq]; rfl
@[simp] theorem ws_exc (c : Nat) (d : Option Nat) : (RS.exc c d r h).wp QS XX = XX c d r h := by simp only [R.wp_eq, RS.wp_eq]; rfl
@[simp] theorem ws_bad : (RS.bad).wp QS XX = False := by simp only [R.wp_eq, RS.wp_eq]; rfl
@[simp] theorem ws_nx : (sNx r h).wp QS XX = QS .nx r h := by simp only [R.wp_eq, RS.wp_eq]; rfl
@[simp] theorem ws_brk : (sBrk r h).wp QS XX = QS .bk r h := by simp only [R.wp_eq, RS.wp_eq]; rfl
@[simp] theorem ws_cnt : (sCnt r h).wp QS XX = QS .ct r h := by simp only [R.wp_eq, RS.wp_eq]; rfl
/-- on behind a statement -/
def thenS (k : Env → MH → Prop) (Q : Fl → Env → MH → Prop) : Fl → Env → MH → Prop
  | .nx, r, h => k r h
  | f, r, h => Q f r h
@[simp] theorem thenS_nx (k : Env → MH → Prop) : thenS k QS .nx r h = k r h := (rfl)
@[simp] theorem thenS_rt (k : Env → MH → Prop) (w : W) : thenS k QS (.rt w) r h = QS (.rt w) r h := (rfl)
@[simp] theorem thenS_bk (k : Env → MH → Prop) : thenS k QS .bk r h = QS .bk r h := (rfl)
@[simp] theorem thenS_ct (k : Env → MH → Prop) : thenS k QS .ct r h = QS .ct r h := (rfl)
@[simp] theorem ws_seq (a b : S) : (sSeq a b r h).wp QS XX = (a r h).wp (thenS (fun r1 h1 => (b r1 h1).wp QS XX) QS) XX := by
  simp only [R.wp_eq, RS.wp_eq]
  unfold sSeq
  cases a r h with
  | ok f r h => cases f <;> rfl
  | exc c d r h => rfl
  | bad => rfl
@[simp] theorem ws_expr (e : E) : (sExpr e r h).wp QS XX = (e r h).wp (fun _ h1 => QS .nx r h1) (fun c d h1 => XX c d r h1) := by simp only [R.wp_eq, RS.wp_eq]; unfold sExpr; cases e r h <;> rfl
@[simp] theorem ws_ret (e : E) : (sRet e r h).wp QS XX = (e r h).wp (fun w h1 => QS (.rt w) r h1) (fun c d h1 => XX c d r h1) := by simp only [R.wp_eq, RS.wp_eq]; unfold sRet; cases e r h <;> rfl
@[simp] theorem ws_if (t : T) (a b : S) : (sIf t a b r h).wp QS XX = (t r h).wp (fun c h1 => if c = true then (a r h1).wp QS XX else (b r h1).wp QS XX) (fun c d h1 => XX c d r h1) := by
  simp only [R.wp_eq, RS.wp_eq]
  unfold sIf
  cases t r h with
  | ok c h1 => cases c <;> rfl
  | exc c d h => rfl
  | bad => rfl
@[simp] theorem ws_asg (e : E) (g : G) : (sAsg e g r h).wp QS XX = (e r h).wp (fun w h1 => (g w r h1).wp (fun r1 h2 => QS .nx r1 h2) (fun _ _ _ => False)) (fun c d h1 => XX c d r h1) := by
  simp only [R.wp_eq, RS.wp_eq]
  unfold sAsg
  cases e r h with
  | ok w h1 => show RS.wq (match g w r h1 with | .ok r1 h2 => RS.ok .nx r1 h2 | _ => .bad) _ _ = (g w r h1).wq _ _; cases g w r h1 <;> rfl
  | exc c d h => rfl
  | bad => rfl
@[simp] theorem ws_set (i : Nat) (e : E) : (sSet i e r h).wp QS XX = (e r h).wp (fun w h1 => QS .nx (r.set i (some w)) h1) (fun c d h1 => XX c d r h1) := by
  unfold sSet
  rw [ws_asg]
  simp only [R.wp_eq]
  rfl
@[simp] theorem ws_par (is : List Nat) (a : A) : (sPar is a r h).wp QS XX = (a r h).wp (fun ws h1 => match setAll is ws r with | some r1 => QS .nx r1 h1 | none => False) (fun c d h1 => XX c d r h1) := by
  simp only [R.wp_eq, RS.wp_eq]
  unfold sPar
  cases a r h with
  | ok ws h1 => simp only [R.wq]; cases setAll is ws r <;> rfl
  | exc c d h => rfl
  | bad => rfl
@[simp] theorem ws_asg2 (e : E) (i j : Nat) : (sAsg2 e i j r h).wp QS XX = (e r h).wp (fun w h1 => QS .nx ((r.set i (some w)).set j (some w)) h1) (fun c d h1 => XX c d r h1) := by simp only [R.wp_eq, RS.wp_eq]; unfold sAsg2; cases e r h <;> rfl
@[simp] theorem ws_aug {i : Nat} {g : W → W → MH → R W} {e : E} : (sAug i g e r h).wp QS XX = match r[i]? with | some (some x) => (e r h).wp (fun y h1 => (g x y h1).wp (fun z h2 => QS .nx (r.set i (some z)) h2) (fun _ _ _ => False)) (fun c d h1 => XX c d r h1) | _ => False := by
  simp only [R.wp_eq, RS.wp_eq]
  unfold sAug
  cases r[i]? with
  | none => rfl
  | some o => cases o with
    | none => rfl
    | some x =>
      simp only []
      cases e r h with
      | ok y h1 => simp only [R.wq]; cases g x y h1 <;> rfl
      | exc c d h => rfl
      | bad => rfl
@[simp] theorem ws_dput (d k e : E) : (sDput d k e r h).wp QS XX = (e r h).wp (fun w h1 => (d r h1).wp (fun x h2 => (k r h2).wp (fun y h3 => (dput w x y h3).wp (fun _ h4 => QS .nx r h4) (fun c d h1 => XX c d r h1)) (fun c d h1 => XX c d r h1)) (fun c d h1 => XX c d r h1)) (fun c d h1 => XX c d r h1) := by
  have key : ∀ x : R Unit, (match x with | .ok _ h1 => RS.ok .nx r h1 | .exc c d h1 => RS.exc c d r h1 | .bad => RS.bad).wp QS XX = x.wp (fun _ h4 => QS .nx r h4) (fun c d h1 => XX c d r h1) := fun x => by rw [RS.wp_eq, R.wp_eq]; cases x <;> rfl
  unfold sDput
  refine (key _).trans ?_
  simp only [wp_bind]
@[simp] theorem ws_raise (c : Nat) (f : Str) (e : E) : (sRaise c f e r h).wp QS XX = (e r h).wp (fun w h1 => XX c (some h1.length) r (h1 ++ [.xd [(f, w)]])) (fun c d h1 => XX c d r h1) := by simp only [R.wp_eq, RS.wp_eq]; unfold sRaise; cases e r h <;> rfl
@[simp] theorem ws_try (n len : Nat) (b : S) (hs : List Hd) : (sTry n len b hs r h).wp QS XX = (b r h).wp QS (fun c d r1 h1 => r1.length = len ∧ (hRun n c d hs r1 h1).wp QS XX) := by
  simp only [R.wp_eq, RS.wp_eq]
  unfold sTry
  cases b r h with
  | ok f r h => rfl
  | exc c d r1 h1 =>
    show RS.wq (if r1.length = len then _ else _) _ _ = (r1.length = len ∧ _)
    by_cases e : r1.length = len
    · rw [if_pos e]; simp [e, RS.wq]
    · rw [if_neg e]; simp [e, RS.wq]
  | bad => rfl
@[simp] theorem ws_hEnd (i : Option Nat) (x : RS) : (hEnd i x).wp QS XX = x.wp (fun f r h => QS f (noSlot i r) h) (fun _ _ _ _ => False) := by simp only [R.wp_eq, RS.wp_eq]; cases x <;> rfl
/-- a def's end -/
def retS (Q : W → MH → Prop) : Fl → Env → MH → Prop
  | .rt w, _, h => Q w h
  | .nx, _, h => Q .non h
  | _, _, _ => False
@[simp] theorem retS_rt {Q : W → MH → Prop} (w : W) : retS Q (.rt w) r h = Q w h := (rfl)
@[simp] theorem retS_nx {Q : W → MH → Prop} : retS Q .nx r h = Q .non h := (rfl)
theorem wp_fn {Q : W → MH → Prop} {n p : Nat} {b : S} {ws : List W} (hp : ws.length = p := by rfl) : (fnOf n p b ws h).wp Q X = (b (begin_ n ws) h).wp (retS Q) (fun c d _ h1 => X c d h1) := by
  simp only [R.wp_eq, RS.wp_eq]
  unfold fnOf
  rw [if_pos hp]
  cases b (begin_ n ws) h with
  | ok f r h => cases f <;> rfl
  | exc c d r h => rfl
  | bad => rfl
/-! ### loops -/
/-- the end of one turn: on, or out -/
def turnS (k : Env → MH → Prop) (Q : Fl → Env → MH → Prop) : Fl → Env → MH → Prop
  | .nx, r, h => k r h
  | .ct, r, h => k r h
  | .bk, r, h => Q .nx r h
  | .rt w, r, h => Q (.rt w) r h
@[simp] theorem turnS_nx (k : Env → MH → Prop) : turnS k QS .nx r h = k r h := (rfl)
@[simp] theorem turnS_ct (k : Env → MH → Prop) : turnS k QS .ct r h = k r h := (rfl)
@[simp] theorem turnS_bk (k : Env → MH → Prop) : turnS k QS .bk r h = QS .nx r h := (rfl)
@[simp] theorem turnS_rt (k : Env → MH → Prop) (w : W) : turnS k QS (.rt w) r h = QS (.rt w) r h := (rfl)
theorem wqs_while {t : T} {b : S} (I : Nat → Env → MH → Prop) (hI : ∀ v r h, I v r h → (t r h).wq (fun c h1 => if c = true then (b r h1).wq (turnS (fun r2 h2 => ∃ v', v' < v ∧ I v' r2 h2) QS) XX else QS .nx r h1) (fun c d h1 => XX c d r h1)) :
    ∀ n v r h, I v r h → v < n → (sWhile t b n r h).wq QS XX := by
  intro n
  induction n with
  | zero => intro v r h _ hv; exact absurd hv (Nat.not_lt_zero _)
  | succ n ih =>
    intro v r h i hv
    have q := hI v r h i
    unfold sWhile
    cases e : t r h with
    | ok c h1 =>
      rw [e] at q
      cases c with
      | false => exact q
      | true =>
        have q2 : (b r h1).wq (turnS (fun r2 h2 => ∃ v', v' < v ∧ I v' r2 h2) QS) XX := q
        show RS.wq (match b r h1 with | .ok .nx r2 h2 => sWhile t b n r2 h2 | .ok .ct r2 h2 => sWhile t b n r2 h2 | .ok .bk r2 h2 => .ok .nx r2 h2 | x => x) _ _
        cases e2 : b r h1 with
        | ok f r2 h2 =>
          rw [e2] at q2
          cases f with
          | nx => obtain ⟨v', l, i'⟩ := q2; exact ih v' r2 h2 i' (by omega)
          | ct => obtain ⟨v', l, i'⟩ := q2; exact ih v' r2 h2 i' (by omega)
          | bk => exact q2
          | rt w => exact q2
        | exc c d r2 h2 => rw [e2] at q2; exact q2
        | bad => rw [e2] at q2; exact q2
    | exc c d h1 => rw [e] at q; exact q
    | bad => rw [e] at q; exact q
/-- turns over known items -/
theorem wqs_turns {src : Src} {g : G} {b : S} (xs : List W) (I : Nat → Env → MH → Prop) (hat : ∀ i r h, I i r h → src.at i h = some xs[i]?)
    (hb : ∀ i x r h, xs[i]? = some x → I i r h → (g x r h).wq (fun r1 h1 => (b r1 h1).wq (turnS (fun r2 h2 => I (i + 1) r2 h2) QS) XX) (fun _ _ _ => False)) (hend : ∀ r h, I xs.length r h → QS .nx r h) :
    ∀ k i r h, I i r h → i ≤ xs.length → xs.length < k + i → (sTurns src g b k i r h).wq QS XX := by
  intro k
  induction k with
  | zero => intro i r h _ h1 h2; omega
  | succ k ih =>
    intro i r h hi hl hk
    unfold sTurns
    rw [hat i r h hi]
    cases e : xs[i]? with
    | none =>
      have : i = xs.length := by
        have := List.getElem?_eq_none_iff.mp e
        omega
      subst this
      exact hend r h hi
    | some x =>
      have q := hb i x r h e hi
      have hlt : i < xs.length := (List.getElem?_eq_some_iff.mp e).1
      show RS.wq (match g x r h with | .ok r1 h1 => _ | _ => _) _ _
      cases e1 : g x r h with
      | ok r1 h1 =>
        rw [e1] at q
        have q2 : (b r1 h1).wq _ _ := q
        show RS.wq (match b r1 h1 with | .ok .nx r2 h2 => sTurns src g b k (i + 1) r2 h2 | .ok .ct r2 h2 => sTurns src g b k (i + 1) r2 h2 | .ok .bk r2 h2 => .ok .nx r2 h2 | x => x) _ _
        cases e2 : b r1 h1 with
        | ok f r2 h2 =>
          rw [e2] at q2
          cases f with
          | nx => exact ih (i + 1) r2 h2 q2 hlt (by omega)
          | ct => exact ih (i + 1) r2 h2 q2 hlt (by omega)
          | bk => exact q2
          | rt w => exact q2
        | exc c d r2 h2 => rw [e2] at q2; exact q2
        | bad => rw [e2] at q2; exact q2
      | exc c d h1 => rw [e1] at q; exact q
      | bad => rw [e1] at q; exact q
theorem ws_while {t : T} {b : S} (I : Nat → Env → MH → Prop) (hI : ∀ v r h, I v r h → (t r h).wp (fun c h1 => if c = true then (b r h1).wp (turnS (fun r2 h2 => ∃ v', v' < v ∧ I v' r2 h2) QS) XX else QS .nx r h1) (fun c d h1 => XX c d r h1))
    (n v : Nat) (r : Env) (h : MH) (i : I v r h) (hv : v < n) : (sWhile t b n r h).wp QS XX := by
  rw [RS.wp_eq]
  refine wqs_while I (fun v r h i => ?_) n v r h i hv
  have q := hI v r h i
  simp only [R.wp_eq, RS.wp_eq] at q
  exact q
theorem ws_turns {src : Src} {g : G} {b : S} (xs : List W) (I : Nat → Env → MH → Prop) (hat : ∀ i r h, I i r h → src.at i h = some xs[i]?)
    (hb : ∀ i x r h, xs[i]? = some x → I i r h → (g x r h).wp (fun r1 h1 => (b r1 h1).wp (turnS (fun r2 h2 => I (i + 1) r2 h2) QS) XX) (fun _ _ _ => False)) (hend : ∀ r h, I xs.length r h → QS .nx r h)
    (k i : Nat) (r : Env) (h : MH) (hi : I i r h) (hl : i ≤ xs.length) (hk : xs.length < k + i) : (sTurns src g b k i r h).wp QS XX := by
  rw [RS.wp_eq]
  refine wqs_turns xs I hat (fun i x r h e q => ?_) hend k i r h hi hl hk
  have q := hb i x r h e q
  simp only [R.wp_eq, RS.wp_eq] at q
  exact q
theorem ws_for {it : I} {g : G} {b : S} : (sFor it g b r h).wp QS XX = (it r h).wp (fun q h1 => (sTurns q.1 g b q.2 0 r h1).wp QS XX) (fun c d h1 => XX c d r h1) := by
  simp only [R.wp_eq, RS.wp_eq]
  unfold sFor
  cases it r h with
  | ok q h1 => rfl
  | exc c d h => rfl
  | bad => rfl
/-- the turns of a range -/
theorem ws_rng {g : G} {b : S} {lo : Int} {n : Nat} (I : Nat → Env → MH → Prop) (h0 : I 0 r h)
    (hb : ∀ i r h, i < n → I i r h → (g (.int (lo + i)) r h).wp (fun r1 h1 => (b r1 h1).wp (turnS (fun r2 h2 => I (i + 1) r2 h2) QS) XX) (fun _ _ _ => False)) (hend : ∀ r h, I n r h → QS .nx r h) :
    (sTurns (.rng lo n) g b (n + 1) 0 r h).wp QS XX := by
  have hl : ((List.range n).map fun (i : Nat) => W.int (lo + i)).length = n := by simp
  refine ws_turns ((List.range n).map fun (i : Nat) => W.int (lo + i)) I (fun i r h _ => ?_) (fun i x r h e q => ?_) (fun r h q => hend r h (by rw [hl] at q; exact q)) _ _ _ _ h0 (Nat.zero_le _) (by rw [hl]; omega)
  · show some (if i < n then _ else _) = _
    by_cases c : i < n
    · simp [c]
    · simp [c]
  · simp only [List.getElem?_map, List.getElem?_range] at e
    by_cases c : i < n
    · simp [List.getElem?_range, c] at e
      rw [← e]
      exact hb i r h c q
    · simp [List.getElem?_range, c] at e
end
end Mini
/-! ### for simp -/
namespace Mini
open PySem (Str PyData)
section
variable {h : MH} {i j : Int} {x y : W} {Q : W → MH → Prop} {X : XQ} {r : Env} {n m : Nat} {xs : List W} {s t : Str} {b c : Bool}
@[simp] theorem o_add : gAdd (.int i) (.int j) h = .ok (.int (i + j)) h := (rfl)
@[simp] theorem o_sub : gSub (.int i) (.int j) h = .ok (.int (i - j)) h := (rfl)
@[simp] theorem o_mul : (gMul (.int i) (.int j) h).wp Q X = (mulOk i j = true ∧ Q (.int (i * j)) h) := by
  simp only [R.wp_eq]
  show R.wq (if mulOk i j = true then _ else _) _ _ = _
  by_cases c : mulOk i j = true <;> simp [c, R.wq]
@[simp] theorem o_div : (gDiv (.int i) (.int j) h).wp Q X = (divOk i j = true ∧ Q (.int (i / j)) h) := by
  simp only [R.wp_eq]
  show R.wq (if divOk i j = true then _ else _) _ _ = _
  by_cases c : divOk i j = true <;> simp [c, R.wq]
@[simp] theorem o_mod : (gMod (.int i) (.int j) h).wp Q X = (0 < j ∧ Q (.int (i % j)) h) := by
  simp only [R.wp_eq]
  show R.wq (if modOk i j = true then _ else _) _ _ = _
  by_cases c : modOk i j = true
  · have c' : 0 < j := of_decide_eq_true c
    simp [c, c', R.wq]
  · have c' : ¬ 0 < j := fun z => c (decide_eq_true z)
    simp [c, c', R.wq]
@[simp] theorem o_pow : (gPow (.int i) (.int j) h).wp Q X = (powOk i j = true ∧ Q (.int (i ^ j.toNat)) h) := by
  simp only [R.wp_eq]
  show R.wq (if powOk i j = true then _ else _) _ _ = _
  by_cases c : powOk i j = true <;> simp [c, R.wq]
@[simp] theorem o_lt : gLt (.int i) (.int j) h = .ok (.bl (decide (i < j))) h := (rfl)
@[simp] theorem o_le : gLe (.int i) (.int j) h = .ok (.bl (decide (i ≤ j))) h := (rfl)
@[simp] theorem o_gt : gGt (.int i) (.int j) h = .ok (.bl (decide (j < i))) h := (rfl)
@[simp] theorem o_ge : gGe (.int i) (.int j) h = .ok (.bl (decide (j ≤ i))) h := (rfl)
@[simp] theorem o_neg : gNeg (.int i) h = .ok (.int (-i)) h := (rfl)
@[simp] theorem o_intOp (f : Int → Int → Int) : intOp f (.int i) (.int j) h = .ok (.int (f i j)) h := (rfl)
@[simp] theorem o_abs : fAbs [.int i] h = .ok (.int (if i < 0 then -i else i)) h := (rfl)
@[simp] theorem o_int : fInt [.int i] h = .ok (.int i) h := (rfl)
@[simp] theorem o_max : fMax2 [.int i, .int j] h = .ok (.int (if j > i then j else i)) h := (rfl)
@[simp] theorem o_min : fMin2 [.int i, .int j] h = .ok (.int (if j < i then j else i)) h := (rfl)
@[simp] theorem o_eqI : gEq (.int i) (.int j) h = .ok (.bl (decide (i = j))) h := by unfold gEq eqB; simp [scl]
@[simp] theorem o_neI : gNe (.int i) (.int j) h = .ok (.bl (!decide (i = j))) h := by unfold gNe eqB; simp [scl]
@[simp] theorem o_eqB : gEq (.bl b) (.bl c) h = .ok (.bl (decide (b = c))) h := by unfold gEq eqB; simp [scl]
@[simp] theorem o_neB : gNe (.bl b) (.bl c) h = .ok (.bl (!decide (b = c))) h := by unfold gNe eqB; simp [scl]
@[simp] theorem o_eqS : gEq (.str s) (.str t) h = .ok (.bl (decide (s = t))) h := by unfold gEq eqB; simp [scl]
@[simp] theorem o_neS : gNe (.str s) (.str t) h = .ok (.bl (!decide (s = t))) h := by unfold gNe eqB; simp [scl]
@[simp] theorem o_isN : gIsN x .non h = .ok (.bl (decide (x = .non))) h := (rfl)
@[simp] theorem o_notN : gNotN x .non h = .ok (.bl (!decide (x = .non))) h := (rfl)
@[simp] theorem tru_bl : tru (.bl b) h = some b := (rfl)
@[simp] theorem tru_int : tru (.int i) h = some (i != 0) := (rfl)
@[simp] theorem tru_non : tru .non h = some false := (rfl)
theorem seq_lst (e : h[n]? = some (.lst xs)) : seqAt h n = some xs := by unfold seqAt; rw [e]
theorem seq_tup (e : h[n]? = some (.tup xs)) : seqAt h n = some xs := by unfold seqAt; rw [e]
theorem seq_fz (e : h[n]? = some (.fz xs)) : seqAt h n = some xs := by unfold seqAt; rw [e]
theorem seq_cl (e : h[n]? = some (.cl xs)) : seqAt h n = some xs := by unfold seqAt; rw [e]
theorem seq_ct (e : h[n]? = some (.ct xs)) : seqAt h n = some xs := by unfold seqAt; rw [e]
/-- an item -/
def itemAt (xs : List W) (i : Int) (P : W → Prop) : Prop := match (ixOf xs.length i).bind fun j => xs[j]? with
  | some w => P w
  | none => False
theorem o_ix (e : seqAt h n = some xs) : (gIx (.ref n) (.int i) h).wp Q X = itemAt xs i (fun w => Q w h) := by
  simp only [R.wp_eq]
  show R.wq (match seqAt h n with | some xs => _ | none => _) _ _ = _
  rw [e]
  unfold itemAt
  simp only [R.wp_eq]
  show R.wq (match (ixOf xs.length i).bind fun j => xs[j]? with | some w => R.ok w h | none => .bad) _ _ = _
  cases (ixOf xs.length i).bind fun j => xs[j]? <;> rfl
theorem item_nn {P : W → Prop} (k : Nat) {w : W} (e : xs[k]? = some w) : itemAt xs (k : Int) P = P w := by
  have hk : k < xs.length := (List.getElem?_eq_some_iff.mp e).1
  unfold itemAt ixOf
  rw [if_pos (by omega)]
  rw [if_pos (by omega)]
  show (match xs[((k : Int)).toNat]? with | some w => P w | none => False) = _
  rw [Int.toNat_natCast, e]
@[simp] theorem item0 {P : W → Prop} : itemAt (x :: xs) 0 P = P x := item_nn 0 rfl
@[simp] theorem item1 {a0 : W} {P : W → Prop} : itemAt (a0 :: x :: xs) 1 P = P x := item_nn 1 rfl
@[simp] theorem item2 {a0 a1 : W} {P : W → Prop} : itemAt (a0 :: a1 :: x :: xs) 2 P = P x := item_nn 2 rfl
@[simp] theorem item3 {a0 a1 a2 : W} {P : W → Prop} : itemAt (a0 :: a1 :: a2 :: x :: xs) 3 P = P x := item_nn 3 rfl
@[simp] theorem item4 {a0 a1 a2 a3 : W} {P : W → Prop} : itemAt (a0 :: a1 :: a2 :: a3 :: x :: xs) 4 P = P x := item_nn 4 rfl
@[simp] theorem item5 {a0 a1 a2 a3 a4 : W} {P : W → Prop} : itemAt (a0 :: a1 :: a2 :: a3 :: a4 :: x :: xs) 5 P = P x := item_nn 5 rfl
/-- any item: each holds -/
theorem item_all {P : W → Prop} {i : Int} (h0 : 0 ≤ i) (h1 : i < xs.length) (hp : ∀ (k : Nat) (w : W), xs[k]? = some w → (k : Int) = i → P w) : itemAt xs i P := by
  have hk : i.toNat < xs.length := by omega
  have e : xs[i.toNat]? = some xs[i.toNat] := by simp [hk]
  have z := item_nn (P := P) i.toNat e
  rw [Int.toNat_of_nonneg h0] at z
  rw [z]
  exact hp _ _ e (Int.toNat_of_nonneg h0)
@[simp] theorem o_tup {a : A} : (eTup a r h).wp Q X = (a r h).wp (fun xs h1 => xs.length ≤ 1000 ∧ Q (.ref h1.length) (h1 ++ [.tup xs])) X := by
  unfold eTup
  rw [wp_bind]
  congr; funext xs h1
  by_cases c : xs.length ≤ 1000 <;> simp [c]
@[simp] theorem o_lst {a : A} : (eLst a r h).wp Q X = (a r h).wp (fun xs h1 => xs.length ≤ 1000 ∧ Q (.ref h1.length) (h1 ++ [.lst xs])) X := by
  unfold eLst
  rw [wp_bind]
  congr; funext xs h1
  by_cases c : xs.length ≤ 1000 <;> simp [c]
@[simp] theorem o_dic0 : (eDic0 r h).wp Q X = Q (.ref h.length) (h ++ [.dic []]) := by rw [R.wp_eq]; rfl
theorem o_put {w : W} {R' : Env → MH → Prop} (e : h[n]? = some (.lst xs)) (h0 : 0 ≤ i) (hk : i < xs.length) : (putL w r (.ref n) (.int i) h).wp R' X = R' r (h.set n (.lst (xs.set i.toNat w))) := by
  simp only [R.wp_eq]
  show R.wq (match h[n]? with | some (.lst xs) => _ | _ => _) _ _ = _
  rw [e]
  simp only [R.wp_eq]
  show R.wq (match ixOf xs.length i with | some j => R.ok r (h.set n (.lst (xs.set j w))) | none => .bad) _ _ = _
  unfold ixOf
  rw [if_pos h0, if_pos hk]
  rfl
@[simp] theorem o_subL {w : W} {o i : E} {R' : Env → MH → Prop} : (gSubL o i w r h).wp R' X = (o r h).wp (fun x h1 => (i r h1).wp (fun y h2 => (putL w r x y h2).wp R' X) X) X := by
  unfold gSubL
  rw [wp_bind]
  congr; funext x h1
  rw [wp_bind]
theorem o_untup {gs : List G} {R' : Env → MH → Prop} (e : h[n]? = some (.tup xs)) : (gTupT gs (.ref n) r h).wp R' X = (gAll gs xs r h).wp R' X := by unfold gTupT; simp only [e]
theorem o_untupC {gs : List G} {R' : Env → MH → Prop} (e : h[n]? = some (.ct xs)) : (gTupT gs (.ref n) r h).wp R' X = (gAll gs xs r h).wp R' X := by unfold gTupT; simp only [e]
@[simp] theorem o_untupN {gs : List G} {R' : Env → MH → Prop} : (gTupT gs (.ref h.length) r (h ++ [.tup xs])).wp R' X = (gAll gs xs r (h ++ [.tup xs])).wp R' X := o_untup (by simp)
@[simp] theorem o_ixN : (gIx (.ref h.length) (.int i) (h ++ [.lst xs])).wp Q X = itemAt xs i (fun w => Q w (h ++ [.lst xs])) := o_ix (seq_lst (by simp))
theorem ite_and {a b P R : Prop} [Decidable a] [Decidable b] (h : ¬(a ∧ b)) : (if a then (if b then P else R) else R) = R := by
  by_cases ha : a
  · rw [if_pos ha, if_neg (fun z => h ⟨ha, z⟩)]
  · rw [if_neg ha]
theorem o_len (e : seqAt h n = some xs) : fLen [.ref n] h = .ok (.int xs.length) h := by unfold fLen; simp only [e]
theorem o_list (e : seqAt h n = some xs) : fList [.ref n] h = .ok (.ref h.length) (h ++ [.lst xs]) := by unfold fList; simp only [e]
theorem o_rng1 {e : E} {R' : Src × Nat → MH → Prop} : (iRng1 e r h).wp R' X = (e r h).wp (fun w h1 => match w with | .int n => rOk n = true ∧ R' (.rng 0 n.toNat, n.toNat + 1) h1 | _ => False) X := by
  unfold iRng1
  rw [wp_bind]
  congr; funext w h1
  cases w with
  | int n => by_cases c : rOk n = true <;> simp [c]
  | _ => simp
theorem o_rng2 {e f : E} {R' : Src × Nat → MH → Prop} : (iRng2 e f r h).wp R' X = (e r h).wp (fun x h1 => (f r h1).wp (fun y h2 => match x, y with | .int i, .int j => (rOk i = true ∧ rOk j = true) ∧ R' (.rng i (j - i).toNat, (j - i).toNat + 1) h2 | _, _ => False) X) X := by
  unfold iRng2
  rw [wp_bind]
  congr; funext w h1
  rw [wp_bind]
  congr; funext y h2
  cases w <;> cases y <;> first | (rename_i i j; by_cases c : rOk i = true ∧ rOk j = true <;> simp [c]; done) | simp
/-- kinds -/
@[simp] theorem k_non (t : Ty) : gIsi t .non h = .ok (.bl false) h := by cases t <;> rfl
@[simp] theorem k_int (t : Ty) : gIsi t (.int i) h = .ok (.bl (decide (t = .tInt))) h := by cases t <;> rfl
@[simp] theorem k_bl (t : Ty) : gIsi t (.bl b) h = .ok (.bl (decide (t = .tBool) || decide (t = .tInt))) h := by cases t <;> rfl
@[simp] theorem k_str (t : Ty) : gIsi t (.str s) h = .ok (.bl (decide (t = .tStr))) h := by cases t <;> rfl
theorem k_lst (t : Ty) (e : h[n]? = some (.lst xs)) : gIsi t (.ref n) h = .ok (.bl (decide (t = .tList))) h := by unfold gIsi known kindOf isTy; simp only [e]; cases t <;> rfl
theorem k_tup (t : Ty) (e : h[n]? = some (.tup xs)) : gIsi t (.ref n) h = .ok (.bl (decide (t = .tTuple))) h := by unfold gIsi known kindOf isTy; simp only [e]; cases t <;> rfl
theorem k_dic (t : Ty) {kvs : List (Sum Int Str × W)} (e : h[n]? = some (.dic kvs)) : gIsi t (.ref n) h = .ok (.bl (decide (t = .tDict))) h := by unfold gIsi known kindOf isTy; simp only [e]; cases t <;> rfl
theorem mul_ok (hi : i.natAbs < two64) : mulOk i j = true := by simp [mulOk, hi]
theorem mul_ok2 (hj : j.natAbs < two64) : mulOk i j = true := by simp [mulOk, hj]
theorem div_ok (h0 : 0 < j) (h1 : j.natAbs < 2 ^ 9000) : divOk i j = true := by
  unfold divOk
  have : j.natAbs.log2 < 9000 := by
    rw [Nat.log2_lt (by omega)]
    exact h1
  simp [h0, this]
theorem pow_ok (h0 : 0 ≤ j) (h1 : j ≤ 1000000) (h2 : i.natAbs < two64) : powOk i j = true := by simp [powOk, h0, h1, h2]
theorem set_at' {h : MH} {b : Nat} {c : Cell} (e : b < h.length) : (h.set b c)[b]? = some c := by rw [List.getElem?_set_self e]
end
/-- what stands in a cell stays: all but b -/
def Ch (b : Nat) (h h' : MH) : Prop := h.length ≤ h'.length ∧ ∀ i, i < h.length → i ≠ b → h'[i]? = h[i]?
/-- all stays -/
def Old (h h' : MH) : Prop := h.length ≤ h'.length ∧ ∀ i, i < h.length → h'[i]? = h[i]?
theorem Old.refl (h : MH) : Old h h := ⟨Nat.le_refl _, fun _ _ => rfl⟩
theorem Ch.refl (b : Nat) (h : MH) : Ch b h h := ⟨Nat.le_refl _, fun _ _ _ => rfl⟩
theorem Old.trans {a b c : MH} (x : Old a b) (y : Old b c) : Old a c := ⟨Nat.le_trans x.1 y.1, fun i hi => (y.2 i (Nat.lt_of_lt_of_le hi x.1)).trans (x.2 i hi)⟩
theorem Ch.trans {n : Nat} {a b c : MH} (x : Ch n a b) (y : Ch n b c) : Ch n a c := ⟨Nat.le_trans x.1 y.1, fun i hi hn => (y.2 i (Nat.lt_of_lt_of_le hi x.1) hn).trans (x.2 i hi hn)⟩
theorem Old.ch {a b : MH} (x : Old a b) (n : Nat) : Ch n a b := ⟨x.1, fun i hi _ => x.2 i hi⟩
theorem Old.app (h : MH) (t : List Cell) : Old h (h ++ t) := ⟨by simp, fun i hi => List.getElem?_append_left hi⟩
theorem Ch.app {b : Nat} {h h' : MH} (c : Ch b h h') (t : List Cell) : Ch b h (h' ++ t) := c.trans ((Old.app _ _).ch b)
theorem lt_of_at {h : MH} {i : Nat} {c : Cell} (e : h[i]? = some c) : i < h.length := (List.getElem?_eq_some_iff.mp e).1
theorem Old.at {a b : MH} (x : Old a b) {i : Nat} {c : Cell} (e : a[i]? = some c) : b[i]? = some c := (x.2 i (lt_of_at e)).trans e
theorem Ch.at {n : Nat} {a b : MH} (x : Ch n a b) {i : Nat} {c : Cell} (e : a[i]? = some c) (hn : i ≠ n) : b[i]? = some c := (x.2 i (lt_of_at e) hn).trans e
theorem Ch.set (h : MH) (b : Nat) (c : Cell) : Ch b h (h.set b c) := ⟨by simp, fun i _ hn => List.getElem?_set_ne (Ne.symm hn)⟩
theorem set_at {h : MH} {b : Nat} {c c' : Cell} (e : h[b]? = some c) : (h.set b c')[b]? = some c' := by rw [List.getElem?_set_self (lt_of_at e)]
theorem app_at {h : MH} {i : Nat} {c : Cell} (e : h[i]? = some c) (t : List Cell) : (h ++ t)[i]? = some c := (Old.app h t).at e
@[simp] theorem new_at (h : MH) (c : Cell) : (h ++ [c])[h.length]? = some c := by simp
theorem rOk_iff (i : Int) : (rOk i = true) = (-4611686018427387904 ≤ i ∧ i < 4611686018427387904) := by simp [rOk]
/-- what holds between two statements -/
theorem ws_cut {QS : Fl → Env → MH → Prop} {XX : XS} {r : Env} {h : MH} {a b : S} (P : Env → MH → Prop) (q1 : (a r h).wp (fun f r1 h1 => f = .nx ∧ P r1 h1) XX) (q2 : ∀ r1 h1, P r1 h1 → (b r1 h1).wp QS XX) : (sSeq a b r h).wp QS XX := by
  rw [ws_seq]
  refine q1.imp (fun f r1 h1 ⟨e, p⟩ => ?_) (fun _ _ _ _ x => x)
  subst e
  exact q2 r1 h1 p
theorem sSeq_assoc (a b c : S) : sSeq a (sSeq b c) = sSeq (sSeq a b) c := by
  funext r h
  unfold sSeq
  cases a r h with
  | ok f r h => cases f <;> rfl
  | exc c d r h => rfl
  | bad => rfl
theorem item_mem {xs : List W} {i : Int} {P : W → Prop} (h0 : 0 ≤ i) (h1 : i < xs.length) (hp : ∀ w, w ∈ xs → P w) : itemAt xs i P :=
  item_all h0 h1 fun k w e _ => hp w (List.mem_of_getElem? e)
/-- a for over what stands in a value -/
def forIn_ (w : W) (g : G) (b : S) : S := sFor (iSeq (eC w)) g b
section
variable {QS : Fl → Env → MH → Prop} {XX : XS} {r : Env} {h : MH} {g : G} {b : S} {α : Type}
@[simp] theorem ws_forL {e : E} : (sFor (iSeq e) g b r h).wp QS XX = (e r h).wp (fun w h1 => (forIn_ w g b r h1).wp QS XX) (fun c d h1 => XX c d r h1) := by
  unfold forIn_
  simp only [ws_for, iSeq, wp_bind, eC, wp_ok]
theorem ws_lst {a : Nat} {xs : List W} (e : h[a]? = some (.lst xs)) (I : Nat → Env → MH → Prop) (h0 : I 0 r h) (hat : ∀ i r h, I i r h → h[a]? = some (.lst xs))
    (hb : ∀ i x r h, xs[i]? = some x → I i r h → (g x r h).wp (fun r1 h1 => (b r1 h1).wp (turnS (fun r2 h2 => I (i + 1) r2 h2) QS) XX) (fun _ _ _ => False)) (hend : ∀ r h, I xs.length r h → QS .nx r h) : (forIn_ (.ref a) g b r h).wp QS XX := by
  unfold forIn_
  have l : lstAt h a = some xs := by unfold lstAt; rw [e]
  simp only [ws_for, iSeq, wp_bind, eC, wp_ok, l]
  exact ws_turns xs I (fun i r h q => by show (lstAt h a).map _ = _; unfold lstAt; rw [hat i r h q]; rfl) hb hend _ 0 r h h0 (Nat.zero_le _) (by omega)
/-- list comprehension -/
theorem wp_lcTurns {src : Src} {g : G} {t : T} {e : E} {D : Nat} {Q : W → MH → Prop} (xs : List W) (I : Nat → List W → MH → Prop) (hat : ∀ i acc h, I i acc h → src.at i h = some xs[i]?)
    (hb : ∀ i x acc h, xs[i]? = some x → h[D]? = some (.lst acc) → I i acc h → (g x r h).wp (fun r1 h1 => (t r1 h1).wp (fun c h2 => if c = true then (e r1 h2).wp (fun y h3 => h3[D]? = some (.lst acc) ∧ I (i + 1) (acc ++ [y]) (h3.set D (.lst (acc ++ [y])))) (fun _ _ _ => False)
      else h2[D]? = some (.lst acc) ∧ I (i + 1) acc h2) (fun _ _ _ => False)) (fun _ _ _ => False)) (hend : ∀ acc h, h[D]? = some (.lst acc) → I xs.length acc h → Q (.ref D) h) (hx : xs.length < 9999999) :
    ∀ k i acc h, acc.length ≤ i → h[D]? = some (.lst acc) → I i acc h → i ≤ xs.length → xs.length < k + i → (lcTurns src g t e r D k i h).wq Q (fun _ _ _ => False) := by
  intro k
  induction k with
  | zero => intro i acc h _ _ _ h1 h2; omega
  | succ k ih =>
    intro i acc h la hD hi hl hk
    unfold lcTurns
    rw [hat i acc h hi]
    cases ex : xs[i]? with
    | none =>
      have : i = xs.length := by
        have := List.getElem?_eq_none_iff.mp ex
        omega
      subst this
      exact hend acc h hD hi
    | some x =>
      have q := hb i x acc h ex hD hi
      have hlt : i < xs.length := (List.getElem?_eq_some_iff.mp ex).1
      simp only [R.wp_eq] at q
      show R.wq (match g x r h with | .ok r1 h1 => _ | _ => _) _ _
      cases e1 : g x r h with
      | ok r1 h1 =>
        rw [e1] at q
        have q2 : (t r1 h1).wq _ _ := q
        show R.wq ((t r1 h1).bind _) _ _
        cases e2 : t r1 h1 with
        | ok c h2 =>
          rw [e2] at q2
          cases c with
          | true =>
            have q3 : (e r1 h2).wq _ _ := q2
            show R.wq ((e r1 h2).bind _) _ _
            cases e3 : e r1 h2 with
            | ok y h3 =>
              rw [e3] at q3
              obtain ⟨z1, z2⟩ := q3
              show R.wq (lcAdd D y _ h3) _ _
              unfold lcAdd
              rw [z1]
              show R.wq (if acc.length < 10000000 then _ else _) _ _
              rw [if_pos (by omega)]
              exact ih (i + 1) (acc ++ [y]) _ (by simp; omega) (set_at z1) z2 hlt (by omega)
            | exc c d h => rw [e3] at q3; exact q3.elim
            | bad => rw [e3] at q3; exact q3.elim
          | false =>
            obtain ⟨z1, z2⟩ := (show h2[D]? = some (.lst acc) ∧ I (i + 1) acc h2 from q2)
            exact ih (i + 1) acc h2 (by omega) z1 z2 hlt (by omega)
        | exc c d h => rw [e2] at q2; exact q2.elim
        | bad => rw [e2] at q2; exact q2.elim
      | exc c d h1 => rw [e1] at q; exact q.elim
      | bad => rw [e1] at q; exact q.elim
theorem quiet_wq {x : R α} {Q : α → MH → Prop} {X : XQ} (q : x.wq Q (fun _ _ _ => False)) : x.quiet.wp Q X := by
  rw [R.wp_eq]
  cases x with
  | ok a h => exact q
  | exc c d h => exact q.elim
  | bad => exact q.elim
/-- over range(n), n a number -/
theorem wp_lc_rng {g : G} {t : T} {e : E} {Q : W → MH → Prop} {X : XQ} {vs : List Nat} {n : Nat} (hn : n < 9999999) (I : Nat → List W → MH → Prop) (h0 : I 0 [] (h ++ [.lst []]))
    (hb : ∀ i acc h1, i < n → h1[h.length]? = some (.lst acc) → I i acc h1 → (g (.int i) (wipe r vs) h1).wp (fun r1 h1 => (t r1 h1).wp (fun c h2 => if c = true then (e r1 h2).wp (fun y h3 => h3[h.length]? = some (.lst acc) ∧ I (i + 1) (acc ++ [y]) (h3.set h.length (.lst (acc ++ [y])))) (fun _ _ _ => False)
      else h2[h.length]? = some (.lst acc) ∧ I (i + 1) acc h2) (fun _ _ _ => False)) (fun _ _ _ => False)) (hend : ∀ acc h1, h1[h.length]? = some (.lst acc) → I n acc h1 → Q (.ref h.length) h1) :
    (eLc vs (iRng1 (eC (.int n))) g t e r h).wp Q X := by
  unfold eLc
  have ro : rOk (n : Int) = true := by simp [rOk]; omega
  simp only [wp_bind, o_rng1, eC, wp_ok, ro, true_and]
  have hl : ((List.range n).map fun (i : Nat) => W.int i).length = n := by simp
  refine quiet_wq (wp_lcTurns ((List.range n).map fun (i : Nat) => W.int i) I (fun i acc h1 _ => ?_) (fun i x acc h1 e hD q => ?_) (fun acc h1 hD q => hend acc h1 hD (by rw [hl] at q; exact q)) (by rw [hl]; exact hn) _ 0 [] _ (Nat.le_refl _) (by simp) h0 (Nat.zero_le _) (by rw [hl]; simp))
  · show some (if i < ((n : Int)).toNat then _ else _) = _
    by_cases c : i < n
    · simp [c]
    · simp [c]
  · simp only [List.getElem?_map] at e
    by_cases c : i < n
    · simp [List.getElem?_range, c] at e
      rw [← e]
      exact hb i acc h1 c hD q
    · simp [List.getElem?_range, c] at e
end
end Mini
set_option Elab.async false
set_option autoImplicit false
set_option linter.all false
set_option maxRecDepth 100000
/-! Rules for the runs of Mini2's combinators. -/
namespace Mini
open PySem (Str PyData)
section
variable {h : MH} {i j k : Int} {x y : W} {Q : W → MH → Prop} {X : XQ} {r : Env} {n m c : Nat} {xs ys : List W} {s t : Str} {a b : Bool} {ok : Nat → Bool} {f : Str} {fs : List (Str × W)} {QS : Fl → Env → MH → Prop} {XX : XS}
@[simp] theorem o_addX : gAddX (.int i) (.int j) h = .ok (.int (i + j)) h := (rfl)
@[simp] theorem o_ltX : gLtX (.int i) (.int j) h = .ok (.bl (decide (i < j))) h := (rfl)
theorem o_catX (e1 : tupAt h n = some xs) (e2 : tupAt h m = some ys) (hl : xs.length + ys.length ≤ 10000000) (h1 : xs ≠ []) (h2 : ys ≠ []) : gAddX (.ref n) (.ref m) h = .ok (.ref h.length) (h ++ [.tup (xs ++ ys)]) := by
  unfold gAddX tupOf
  simp only [e1, e2]
  rw [if_pos hl, if_neg h1, if_neg h2]
theorem o_catX1 (e1 : tupAt h n = some []) (e2 : tupAt h m = some ys) (hl : ys.length ≤ 10000000) : gAddX (.ref n) (.ref m) h = .ok (.ref m) h := by
  unfold gAddX tupOf
  simp only [e1, e2]
  rw [if_pos (by simpa using hl), if_pos trivial]
theorem o_catX2 (e1 : tupAt h n = some xs) (e2 : tupAt h m = some []) (hl : xs.length ≤ 10000000) (h1 : xs ≠ []) : gAddX (.ref n) (.ref m) h = .ok (.ref n) h := by
  unfold gAddX tupOf
  simp only [e1, e2]
  rw [if_pos (by simpa using hl), if_neg h1, if_pos trivial]
@[simp] theorem o_mulX : (gMulX (.int i) (.int j) h).wp Q X = (mulOk i j = true ∧ Q (.int (i * j)) h) := o_mul
theorem o_repX (e : tupAt h n = some xs) (hx : xs ≠ []) (h2 : 2 ≤ k) (h3 : k ≤ 1000) (h4 : xs.length ≤ 1000) : gMulX (.ref n) (.int k) h = .ok (.ref h.length) (h ++ [.tup (List.replicate k.toNat xs).flatten]) := by
  unfold gMulX tupOf
  simp only [e]
  rw [if_neg hx, if_neg (by omega), if_neg (by omega), if_pos ⟨h2, h3, h4⟩]
theorem o_repX1 (e : tupAt h n = some xs) (hx : xs ≠ []) : gMulX (.ref n) (.int 1) h = .ok (.ref n) h := by
  unfold gMulX tupOf
  simp only [e]
  rw [if_neg hx, if_pos trivial]
theorem o_repX0 (e : tupAt h n = some xs) (hx : xs ≠ []) : gMulX (.ref n) (.int 0) h = .ok (.ref h.length) (h ++ [.tup []]) := by
  unfold gMulX tupOf
  simp only [e]
  rw [if_neg hx, if_neg (by decide), if_pos trivial]
@[simp] theorem o_isB : gIs (.bl a) (.bl b) h = .ok (.bl (decide (a = b))) h := (rfl)
@[simp] theorem o_isnotB : gIsNot (.bl a) (.bl b) h = .ok (.bl (!decide (a = b))) h := (rfl)
@[simp] theorem o_isNX : gIs x .non h = .ok (.bl (decide (x = .non))) h := by cases x <;> rfl
@[simp] theorem o_isnotNX : gIsNot x .non h = .ok (.bl (!decide (x = .non))) h := by cases x <;> rfl
theorem tup_at (e : h[n]? = some (.tup xs)) : tupAt h n = some xs := by unfold tupAt; rw [e]
theorem lst_at (e : h[n]? = some (.lst xs)) : lstAt h n = some xs := by unfold lstAt; rw [e]
theorem o_tuple (e : lstAt h n = some xs) : fTuple [.ref n] h = .ok (.ref h.length) (h ++ [.tup xs]) := by unfold fTuple; simp only [e]
theorem o_all {bs : List Bool} (e : lstAt h n = some (bs.map .bl)) : fAll [.ref n] h = .ok (.bl (bs.all id)) h := by
  have q : ∀ bs : List Bool, boolsOf (bs.map .bl) = some bs := fun bs => by
    induction bs with
    | nil => rfl
    | cons b bs ih => show (boolsOf (bs.map .bl)).map (b :: ·) = _; rw [ih]; rfl
  unfold fAll
  simp only [e, Option.bind, q]
@[simp] theorem o_eRev {e : E} : (eRev e r h).wp Q X = (e r h).wp (fun w h1 => (revL w h1).wp Q X) X := by unfold eRev; rw [wp_bind]
theorem o_rev (e : lstAt h n = some xs) : revL (.ref n) h = .ok (.ref h.length) (h ++ [.lst xs.reverse]) := by unfold revL; simp only [e]
@[simp] theorem o_eFld {o : E} : (eFld ok f o r h).wp Q X = (o r h).wp (fun w h1 => (fldOf ok f w h1).wp Q X) X := by unfold eFld; rw [wp_bind]
theorem o_fld {w : W} (e : h[n]? = some (.ins c fs)) (hk : ok c = true) (hf : fs.lookup f = some w) : fldOf ok f (.ref n) h = .ok w h := by
  unfold fldOf
  simp only [e, hf]
  rw [if_pos hk]
@[simp] theorem o_eMake {F' : F} {as : A} : (eMake c F' as r h).wp Q X = (as r h).wp (fun ws h1 => (newIns c F' ws h1).wp Q X) X := by unfold eMake; rw [wp_bind]
@[simp] theorem o_eMakeK {F' : F} {is : List Nat} {as : A} : (eMakeK c F' is as r h).wp Q X = (as r h).wp (fun ws h1 => (newIns c F' (pick is ws) h1).wp Q X) X := by unfold eMakeK; rw [wp_bind]
theorem o_new {F' : F} {ws : List W} (q : (F' (.ref h.length :: ws) (h ++ [.ins c []])).wp (fun w h1 => w = .non ∧ Q (.ref h.length) h1) X) : (newIns c F' ws h).wp Q X := by
  unfold newIns
  rw [wp_bind]
  refine q.imp (fun w h1 z => ?_) (fun _ _ _ x => x)
  obtain ⟨rfl, z⟩ := z
  rw [wp_ok]
  exact z
@[simp] theorem ws_fld {o e : E} : (sFldSet ok f o e r h).wp QS XX = (e r h).wp (fun w h1 => (o r h1).wp (fun x h2 => (fldPut ok f w x h2).wp (fun _ h3 => QS .nx r h3) (fun c d h1 => XX c d r h1)) (fun c d h1 => XX c d r h1)) (fun c d h1 => XX c d r h1) := by
  have key : ∀ x : R Unit, (match x with | .ok _ h1 => RS.ok .nx r h1 | .exc c d h1 => RS.exc c d r h1 | .bad => RS.bad).wp QS XX = x.wp (fun _ h4 => QS .nx r h4) (fun c d h1 => XX c d r h1) := fun x => by rw [RS.wp_eq, R.wp_eq]; cases x <;> rfl
  unfold sFldSet
  refine (key _).trans ?_
  simp only [wp_bind]
theorem o_fldPut {w : W} (e : h[n]? = some (.ins c fs)) (hk : ok c = true) (hl : fs.length < 1000) : fldPut ok f w (.ref n) h = .ok () (h.set n (.ins c (putFs f w fs))) := by
  unfold fldPut
  simp only [e]
  rw [if_pos ⟨hk, hl⟩]
@[simp] theorem o_met1 {g : W → W → MH → R W} {o e : E} : (eMet1 g o e r h).wp Q X = (o r h).wp (fun x h1 => isLst x h1 = true ∧ (e r h1).wp (fun y h2 => (g x y h2).wp Q X) X) X := by
  unfold eMet1
  rw [wp_bind]
  congr; funext x h1
  by_cases c : isLst x h1 = true <;> simp [c]
@[simp] theorem o_met0 {g : W → MH → R W} {o : E} : (eMet0 g o r h).wp Q X = (o r h).wp (fun x h1 => isLst x h1 = true ∧ (g x h1).wp Q X) X := by
  unfold eMet0
  rw [wp_bind]
  congr; funext x h1
  by_cases c : isLst x h1 = true <;> simp [c]
theorem isLst_at (e : h[n]? = some (.lst xs)) : isLst (.ref n) h = true := by unfold isLst; simp only [e]
theorem lstM_at (e : h[n]? = some (.lst xs)) : lstM h (.ref n) = some (n, xs) := by unfold lstM; simp only [e]
theorem o_ext (e1 : h[n]? = some (.lst xs)) (e2 : h[m]? = some (.lst ys)) (hl : xs.length + ys.length ≤ 10000000) : gExt (.ref n) (.ref m) h = .ok .non (h.set n (.lst (xs ++ ys))) := by
  unfold gExt
  simp only [lstM_at e1, lstM_at e2]
  rw [if_pos hl]
theorem isiC_ins (e : h[n]? = some (.ins m fs)) : gIsiC c (.ref n) h = .ok (.bl (decide (m = c))) h := by
  unfold gIsiC known clsOf
  simp only [e]
  by_cases z : m = c <;> simp [z]
end
end Mini
set_option Elab.async false
set_option autoImplicit false
set_option linter.all false
set_option maxRecDepth 100000
/-! Data told by values, and what keeps it. Plain Lean. -/
namespace Mini
open PySem (Str PyData)
/-! ### frames -/
/-- all cells below n stay, but b -/
structure Kp (n b : Nat) (h h' : MH) : Prop where
  le : h.length ≤ h'.length
  eq : ∀ i, i < n → i ≠ b → h'[i]? = h[i]?
theorem Kp.refl (n b : Nat) (h : MH) : Kp n b h h := ⟨Nat.le_refl _, fun _ _ _ => rfl⟩
theorem Kp.trans {n m b : Nat} {x y z : MH} (p : Kp n b x y) (q : Kp m b y z) (hm : n ≤ m := by omega) : Kp n b x z := ⟨Nat.le_trans p.le q.le, fun i h1 h2 => (q.eq i (by omega) h2).trans (p.eq i h1 h2)⟩
theorem Kp.low {n m b : Nat} {x y : MH} (p : Kp n b x y) (hm : m ≤ n := by omega) : Kp m b x y := ⟨p.le, fun i h1 h2 => p.eq i (by omega) h2⟩
theorem Ch.kp {b : Nat} {h h' : MH} (c : Ch b h h') : Kp h.length b h h' := ⟨c.1, c.2⟩
theorem Kp.ch {b : Nat} {h h' : MH} (c : Kp h.length b h h') : Ch b h h' := ⟨c.le, c.eq⟩
theorem Old.kp {h h' : MH} (c : Old h h') (b : Nat) : Kp h.length b h h' := ⟨c.1, fun i hi _ => c.2 i hi⟩
theorem Kp.app {n b : Nat} {h h' : MH} (c : Kp n b h h') (t : List Cell) (hn : n ≤ h'.length := by omega) : Kp n b h (h' ++ t) := ⟨by rw [List.length_append]; have := c.le; omega, fun i h1 h2 => by rw [List.getElem?_append_left (by omega)]; exact c.eq i h1 h2⟩
theorem Kp.set {n b p : Nat} {h h' : MH} (c : Kp n b h h') (x : Cell) (hp : n ≤ p ∨ p = b) : Kp n b h (h'.set p x) := ⟨by rw [List.length_set]; exact c.le, fun i h1 h2 => by rw [List.getElem?_set_ne (by omega)]; exact c.eq i h1 h2⟩
theorem at_new {h t : MH} {i : Nat} {c : Cell} (e : t[i]? = some c) : (h ++ t)[h.length + i]? = some c := by rw [List.getElem?_append_right (by omega), Nat.add_sub_cancel_left]; exact e
/-! ### data -/
mutual
/-- w tells the data d; the cells are below n, and b is none of them -/
inductive Den (n b : Nat) (h : MH) : W → PyData → Prop
  | non : Den n b h .non .none
  | bl (x : Bool) : Den n b h (.bl x) (.bool x)
  | int (i : Int) : Den n b h (.int i) (.int i)
  | str (s : Str) : Den n b h (.str s) (.str s)
  | lst {p : Nat} {xs : List W} {ds : List PyData} (hp : p < n) (hb : p ≠ b) (e : lstAt h p = some xs) (q : DenA n b h xs ds) : Den n b h (.ref p) (.list ds)
  | tup {p : Nat} {xs : List W} {ds : List PyData} (hp : p < n) (hb : p ≠ b) (e : tupAt h p = some xs) (q : DenA n b h xs ds) : Den n b h (.ref p) (.tuple ds)
inductive DenA (n b : Nat) (h : MH) : List W → List PyData → Prop
  | nil : DenA n b h [] []
  | cons {x : W} {xs : List W} {d : PyData} {ds : List PyData} (q : Den n b h x d) (r : DenA n b h xs ds) : DenA n b h (x :: xs) (d :: ds)
end
section
variable {n m b : Nat} {h h' : MH} {w x y : W} {d dx dy : PyData} {xs : List W} {ds : List PyData} {p : Nat}
theorem lstAt_eq {k : MH} (e : k[p]? = h[p]?) : lstAt k p = lstAt h p := by unfold lstAt; rw [e]
theorem tupAt_eq {k : MH} (e : k[p]? = h[p]?) : tupAt k p = tupAt h p := by unfold tupAt; rw [e]
mutual
theorem Den.keep (k : Kp n b h h') (hm : n ≤ m) : ∀ {w : W} {d : PyData}, Den n b h w d → Den m b h' w d
  | _, _, .non => .non
  | _, _, .bl x => .bl x
  | _, _, .int i => .int i
  | _, _, .str s => .str s
  | _, _, .lst hp hb e q => .lst (by omega) hb ((lstAt_eq (k.eq _ hp hb)).trans e) (DenA.keep k hm q)
  | _, _, .tup hp hb e q => .tup (by omega) hb ((tupAt_eq (k.eq _ hp hb)).trans e) (DenA.keep k hm q)
theorem DenA.keep (k : Kp n b h h') (hm : n ≤ m) : ∀ {xs : List W} {ds : List PyData}, DenA n b h xs ds → DenA m b h' xs ds
  | _, _, .nil => .nil
  | _, _, .cons q r => .cons (Den.keep k hm q) (DenA.keep k hm r)
end
theorem Den.up (q : Den n b h w d) (hm : n ≤ m := by omega) : Den m b h w d := q.keep (Kp.refl n b h) hm
theorem DenA.up (q : DenA n b h xs ds) (hm : n ≤ m := by omega) : DenA m b h xs ds := q.keep (Kp.refl n b h) hm
mutual
theorem Den.data : ∀ {w : W} {d : PyData}, Den n b h w d → ∀ k, d.depth < k → dataOf h k w = some d
  | _, _, .non, k + 1, _ => rfl
  | _, _, .bl x, k + 1, _ => rfl
  | _, _, .int i, k + 1, _ => rfl
  | _, _, .str s, k + 1, _ => rfl
  | _, _, .lst (p := p) (ds := ds) hp hb e q, k + 1, hk => by
    have z := DenA.data q k (by simp only [PyData.depth] at hk; omega)
    unfold lstAt at e
    unfold dataOf
    cases e1 : h[p]? with
    | none => rw [e1] at e; cases e
    | some c => rw [e1] at e; cases c <;> first | (cases e; simp only [e1, z]; rfl) | cases e
  | _, _, .tup (p := p) (ds := ds) hp hb e q, k + 1, hk => by
    have z := DenA.data q k (by simp only [PyData.depth] at hk; omega)
    unfold tupAt at e
    unfold dataOf
    cases e1 : h[p]? with
    | none => rw [e1] at e; cases e
    | some c => rw [e1] at e; cases c <;> first | (cases e; simp only [e1, z]; rfl) | cases e
theorem DenA.data : ∀ {xs : List W} {ds : List PyData}, DenA n b h xs ds → ∀ k, PyData.depthAll ds < k → dataAll (dataOf h k) xs = some ds
  | _, _, .nil, k, _ => rfl
  | _, _, .cons q r, k, hk => by
    simp only [PyData.depthAll] at hk
    have z1 := Den.data q k (by omega)
    have z2 := DenA.data r k (by omega)
    simp only [dataAll, z1, z2]
end
theorem DenA.snoc : ∀ {xs : List W} {ds : List PyData}, DenA n b h xs ds → Den n b h x d → DenA n b h (xs ++ [x]) (ds ++ [d])
  | _, _, .nil, q => .cons q .nil
  | _, _, .cons a r, q => .cons a (DenA.snoc r q)
theorem DenA.append : ∀ {xs ys : List W} {ds es : List PyData}, DenA n b h xs ds → DenA n b h ys es → DenA n b h (xs ++ ys) (ds ++ es)
  | _, _, _, _, .nil, q => q
  | _, _, _, _, .cons a r, q => .cons a (DenA.append r q)
theorem DenA.len : ∀ {xs : List W} {ds : List PyData}, DenA n b h xs ds → xs.length = ds.length
  | _, _, .nil => rfl
  | _, _, .cons a r => congrArg (· + 1) (DenA.len r)
/-- data that == and repr take -/
structure Nic (k s : Nat) (d : PyData) : Prop where
  lay : d.canLay0 = true
  dep : d.depth ≤ k
  shw : d.showable = true
  len : d.shown.length ≤ s
theorem Nic.mono {k k' s s' : Nat} (q : Nic k s d) (hk : k ≤ k') (hs : s ≤ s') : Nic k' s' d := ⟨q.lay, Nat.le_trans q.dep hk, q.shw, Nat.le_trans q.len hs⟩
theorem nic_non : Nic 0 4 .none := ⟨rfl, by decide, rfl, by decide +kernel⟩
theorem nic_bool (x : Bool) : Nic 0 5 (.bool x) := ⟨rfl, Nat.le_refl _, rfl, by cases x <;> decide +kernel⟩
theorem nic_int {i : Int} (hi : i.natAbs < 2 ^ 1900) : Nic 0 2000 (.int i) := by
  have hl : i.natAbs.log2 < 1900 := by
    by_cases c : i.natAbs = 0
    · rw [c]; decide
    · exact (Nat.log2_lt c).mpr hi
  refine ⟨rfl, by simp [PyData.depth], by unfold PyData.showable; exact decide_eq_true (by omega), ?_⟩
  unfold PyData.shown
  have e := PySem.int_text_length_le (k := 1900) (by decide) hl
  show (Str.ofString (toString i)).length ≤ _
  rw [PySem.ofString_length]
  omega
theorem textFrom_le : ∀ (ts : List Str) (k : Nat) (acc : Str), (PySem.textFrom k acc ts).length ≤ acc.length + PySem.piled ts
  | [], k, acc => by show acc.length ≤ _; omega
  | t :: r, k, acc => by
    have ih := textFrom_le r (k + 1) (acc ++ (if k > 0 then ", " else "" : String) ++ t)
    have e : (acc ++ (if k > 0 then ", " else "" : String) ++ t).length = (acc.length + if k > 0 then 2 else 0) + t.length := by
      rw [PySem.strLen_append, PySem.strLen_append]
      split <;> rfl
    rw [e] at ih
    rw [PySem.piled_cons]
    have : (if k > 0 then 2 else 0) ≤ 2 := by split <;> omega
    show (PySem.textFrom (k + 1) _ r).length ≤ _
    omega
theorem nics {k s : Nat} : ∀ {ds : List PyData}, (∀ d ∈ ds, Nic k s d) → PyData.canLayAll0 ds = true ∧ PyData.depthAll ds ≤ k ∧ PyData.showableAll ds = true ∧ PySem.piled (PyData.shownAll ds) ≤ ds.length * (s + 2)
  | [], _ => ⟨rfl, Nat.zero_le _, rfl, by simp [PyData.shownAll, PySem.piled]⟩
  | d :: ds, q => by
    obtain ⟨h1, h2, h3, h4⟩ := q d List.mem_cons_self
    obtain ⟨z1, z2, z3, z4⟩ := nics fun x hx => q x (List.mem_cons_of_mem _ hx)
    refine ⟨by simp only [PyData.canLayAll0, h1, z1, Bool.and_self], by simp only [PyData.depthAll]; omega, by simp only [PyData.showableAll, h3, z3, Bool.and_self], ?_⟩
    simp only [PyData.shownAll, PySem.piled_cons, List.length_cons, Nat.add_mul]
    omega
theorem nic_list {k s : Nat} (q : ∀ d ∈ ds, Nic k s d) : Nic (k + 1) (ds.length * (s + 2) + 2) (.list ds) := by
  obtain ⟨z1, z2, z3, z4⟩ := nics q
  refine ⟨by simp only [PyData.canLay0, z1], by simp only [PyData.depth]; omega, by simp only [PyData.showable, z3], ?_⟩
  simp only [PyData.shown, PySem.listText, PySem.strLen_append]
  have := textFrom_le (PyData.shownAll ds) 0 "["
  have e1 : (("[" : String) : Str).length = 1 := rfl
  have e2 : (("]" : String) : Str).length = 1 := rfl
  omega
theorem nic_tuple {k s : Nat} (q : ∀ d ∈ ds, Nic k s d) : Nic (k + 1) (ds.length * (s + 2) + 3) (.tuple ds) := by
  obtain ⟨z1, z2, z3, z4⟩ := nics q
  refine ⟨by simp only [PyData.canLay0, z1], by simp only [PyData.depth]; omega, by simp only [PyData.showable, z3], ?_⟩
  simp only [PyData.shown, PySem.tupleText, PySem.strLen_append]
  have e1 : (("(" : String) : Str).length = 1 := rfl
  have e2 : (((if (PyData.shownAll ds).length == 1 then ",)" else ")" : String)) : Str).length ≤ 2 := by split <;> decide +kernel
  by_cases c : PyData.shownAll ds = []
  · rw [c]
    have e3 : (Str.join ", " []).length = 0 := rfl
    rw [c] at e2
    omega
  · have := PySem.join_length_add _ c
    omega
theorem dataR_of (q : Den n b h w d) (hk : d.depth ≤ 11) : dataR h w = some d := by
  have z := q.data dep (by unfold dep; omega)
  unfold dataR
  have : dicAt h w = none := by
    cases q with
    | @lst p xs ds hp hb e q =>
      unfold lstAt at e
      unfold dicAt
      cases e1 : h[p]? with
      | none => simp only [e1]
      | some c => rw [e1] at e; cases c <;> first | (cases e; done) | (simp only [e1]; done)
    | @tup p xs ds hp hb e q =>
      unfold tupAt at e
      unfold dicAt
      cases e1 : h[p]? with
      | none => simp only [e1]
      | some c => rw [e1] at e; cases c <;> first | (cases e; done) | (simp only [e1]; done)
    | _ => rfl
  rw [this]
  exact z
theorem repr_den {k s : Nat} (q : Den n b h w d) (N : Nic k s d) (hk : k ≤ 11) (hs : s ≤ 10000000) : fRepr [w] h = .ok (.str d.shown) h := by
  have := N.dep
  have := N.len
  unfold fRepr
  simp only [dataR_of q (by omega)]
  rw [if_pos ⟨N.shw, by omega, by omega⟩]
theorem eqB_den {b' : Nat} (qx : Den n b h x dx) (qy : Den m b' h y dy) (hx : dx.canLay0 = true) (hy : dy.canLay0 = true) (kx : dx.depth ≤ 11) (ky : dy.depth ≤ 11) : eqB x y h = some (PyData.eqv dx dy) := by
  unfold eqB
  by_cases c : scl x y = true
  · rw [if_pos c]
    congr 1
    cases qx <;> cases qy <;> first | (simp [PyData.eqv]; done) | (simp only [scl] at c; cases c) | skip
    all_goals (simp only [PyData.eqv, W.str.injEq, W.bl.injEq, W.int.injEq]; first | rfl | (rename_i u v; by_cases z : u = v <;> simp [z]))
  · rw [if_neg c]
    simp only [qx.data dep (by unfold dep; omega), qy.data dep (by unfold dep; omega)]
    rw [if_pos ⟨by simp only [PySem.SeqAt.shaped, hx, Bool.true_and]; exact decide_eq_true (by omega), by simp only [PySem.SeqAt.shaped, hy, Bool.true_and]; exact decide_eq_true (by omega)⟩]
theorem eq_den {b' : Nat} (qx : Den n b h x dx) (qy : Den m b' h y dy) (hx : dx.canLay0 = true) (hy : dy.canLay0 = true) (kx : dx.depth ≤ 11) (ky : dy.depth ≤ 11) : gEq x y h = .ok (.bl (PyData.eqv dx dy)) h := by
  unfold gEq
  rw [eqB_den qx qy hx hy kx ky]
theorem ne_den {b' : Nat} (qx : Den n b h x dx) (qy : Den m b' h y dy) (hx : dx.canLay0 = true) (hy : dy.canLay0 = true) (kx : dx.depth ≤ 11) (ky : dy.depth ≤ 11) : gNe x y h = .ok (.bl (!PyData.eqv dx dy)) h := by
  unfold gNe
  rw [eqB_den qx qy hx hy kx ky]
/-! ### rows of numbers -/
def intsD (xs : List Int) : List PyData := xs.map .int
theorem denA_ints {xs : List Int} : DenA n b h (xs.map .int) (intsD xs) := by
  induction xs with
  | nil => exact .nil
  | cons x xs ih => exact .cons (.int x) ih
theorem lay_ints {xs : List Int} : PyData.canLayAll0 (intsD xs) = true := by
  induction xs with
  | nil => rfl
  | cons x xs ih => show (PyData.canLay0 (.int x) && PyData.canLayAll0 (intsD xs)) = true; rw [ih]; rfl
theorem depth_ints {xs : List Int} : PyData.depthAll (intsD xs) = 0 := by
  induction xs with
  | nil => rfl
  | cons x xs ih => show max (PyData.depth (.int x)) (PyData.depthAll (intsD xs)) = 0; rw [ih]; rfl
theorem eqv_ints : ∀ {xs ys : List Int}, PyData.eqvAll (intsD xs) (intsD ys) = decide (xs = ys)
  | [], [] => rfl
  | [], _ :: _ => rfl
  | _ :: _, [] => rfl
  | x :: xs, y :: ys => by
    show (PyData.eqv (.int x) (.int y) && PyData.eqvAll (intsD xs) (intsD ys)) = _
    rw [eqv_ints]
    simp only [PyData.eqv]
    by_cases c : x = y <;> by_cases d : xs = ys <;> simp [c, d]
theorem eq_tups {q : Nat} {xs ys : List Int} (e1 : tupAt h p = some (xs.map .int)) (e2 : tupAt h q = some (ys.map .int)) : gEq (.ref p) (.ref q) h = .ok (.bl (decide (xs = ys))) h := by
  have d1 : Den (p + 1) (p + 1) h (.ref p) (.tuple (intsD xs)) := .tup (by omega) (by omega) e1 denA_ints
  have d2 : Den (q + 1) (q + 1) h (.ref q) (.tuple (intsD ys)) := .tup (by omega) (by omega) e2 denA_ints
  rw [eq_den d1 d2 (by simp only [PyData.canLay0, lay_ints]) (by simp only [PyData.canLay0, lay_ints]) (by simp only [PyData.depth, depth_ints]; omega) (by simp only [PyData.depth, depth_ints]; omega)]
  simp only [PyData.eqv, eqv_ints]
theorem ne_tups {q : Nat} {xs ys : List Int} (e1 : tupAt h p = some (xs.map .int)) (e2 : tupAt h q = some (ys.map .int)) : gNe (.ref p) (.ref q) h = .ok (.bl (!decide (xs = ys))) h := by
  have z := eq_tups e1 e2
  unfold gEq at z
  unfold gNe
  cases e : eqB (.ref p) (.ref q) h with
  | none => rw [e] at z; cases z
  | some v => rw [e] at z; cases z; rfl
end
end Mini
set_option Elab.async false
set_option autoImplicit false
set_option linter.all false
set_option maxRecDepth 100000
/-! Loops and comprehensions over sequences. -/
namespace Mini
open PySem (Str PyData)
@[simp] theorem wipe_nil (r : Env) : wipe r [] = r := (rfl)
@[simp] theorem wipe_cons (r : Env) (i : Nat) (is : List Nat) : wipe r (i :: is) = (wipe r is).set i none := (rfl)
/-- the items of a cell -/
def itemsOf : Cell → Option (List W)
  | .lst xs => some xs
  | .fz xs => some xs
  | .cl xs => some xs
  | .tup xs => some xs
  | .ct xs => some xs
  | _ => none
section
variable {QS : Fl → Env → MH → Prop} {XX : XS} {r : Env} {h : MH} {g : G} {b : S} {a : Nat} {c : Cell} {xs : List W}
theorem seq_of (e : h[a]? = some c) (hs : itemsOf c = some xs) : seqAt h a = some xs := by
  unfold seqAt
  rw [e]
  cases c <;> first | exact hs | (cases hs; done)
theorem seq_cell (e : seqAt h a = some xs) : ∃ c, h[a]? = some c ∧ itemsOf c = some xs := by
  unfold seqAt at e
  cases e1 : h[a]? with
  | none => rw [e1] at e; cases e
  | some c => rw [e1] at e; refine ⟨c, rfl, ?_⟩; cases c <;> first | exact e | (cases e; done)
theorem tup_seq (e : tupAt h a = some xs) : seqAt h a = some xs := by
  unfold tupAt at e
  unfold seqAt
  cases e1 : h[a]? with
  | none => rw [e1] at e; cases e
  | some c => rw [e1] at e; cases c <;> first | exact e | (cases e; done)
theorem lst_seq (e : lstAt h a = some xs) : seqAt h a = some xs := by
  unfold lstAt at e
  unfold seqAt
  cases e1 : h[a]? with
  | none => rw [e1] at e; cases e
  | some c => rw [e1] at e; cases c <;> first | exact e | (cases e; done)
/-- what a for walks -/
theorem src_seq (e : h[a]? = some c) (hs : itemsOf c = some xs) : ∃ s : Src, iSeq (eC (.ref a)) r h = .ok (s, xs.length + 1) h ∧ ∀ i h', h'[a]? = some c → s.at i h' = some xs[i]? := by
  cases c with
  | lst ys => cases hs; exact ⟨.lst a, by simp only [iSeq, eC, R.bind, lstAt, e], fun i h' e' => by show (lstAt h' a).map _ = _; simp only [lstAt, e', Option.map]⟩
  | fz ys => cases hs; exact ⟨.lst a, by simp only [iSeq, eC, R.bind, lstAt, e], fun i h' e' => by show (lstAt h' a).map _ = _; simp only [lstAt, e', Option.map]⟩
  | cl ys => cases hs; exact ⟨.lst a, by simp only [iSeq, eC, R.bind, lstAt, e], fun i h' e' => by show (lstAt h' a).map _ = _; simp only [lstAt, e', Option.map]⟩
  | tup ys => cases hs; exact ⟨.tup a, by simp only [iSeq, eC, R.bind, lstAt, tupAt, e], fun i h' e' => by show (tupAt h' a).map _ = _; simp only [tupAt, e', Option.map]⟩
  | ct ys => cases hs; exact ⟨.tup a, by simp only [iSeq, eC, R.bind, lstAt, tupAt, e], fun i h' e' => by show (tupAt h' a).map _ = _; simp only [tupAt, e', Option.map]⟩
  | _ => cases hs
theorem ws_sq (e : h[a]? = some c) (hs : itemsOf c = some xs) (I : Nat → Env → MH → Prop) (h0 : I 0 r h) (hat : ∀ i r h, I i r h → h[a]? = some c)
    (hb : ∀ i x r h, xs[i]? = some x → I i r h → (g x r h).wp (fun r1 h1 => (b r1 h1).wp (turnS (fun r2 h2 => I (i + 1) r2 h2) QS) XX) (fun _ _ _ => False)) (hend : ∀ r h, I xs.length r h → QS .nx r h) : (forIn_ (.ref a) g b r h).wp QS XX := by
  obtain ⟨s, z1, z2⟩ := src_seq (r := r) e hs
  unfold forIn_
  rw [ws_for, z1, wp_ok]
  exact ws_turns xs I (fun i r h q => z2 i h (hat i r h q)) hb hend _ 0 r h h0 (Nat.zero_le _) (by omega)
end
section
variable {r : Env} {h : MH} {g : G} {t : T} {e : E} {a b : Nat} {c : Cell} {xs : List W} {vs : List Nat} {Q : W → MH → Prop} {X : XQ} {ex : E}
/-- a comprehension over what stands in a value -/
def lcIn_ (w : W) (vs : List Nat) (g : G) (t : T) (e : E) : E := eLc vs (iSeq (eC w)) g t e
@[simp] theorem wp_lcE : (eLc vs (iSeq ex) g t e r h).wp Q X = (ex r h).wp (fun w h1 => (lcIn_ w vs g t e r h1).wp Q X) X := by
  unfold lcIn_ eLc
  simp only [wp_bind, iSeq, eC, wp_ok]
/-- over a range of numbers -/
def lcR_ (i : Int) (vs : List Nat) (g : G) (t : T) (e : E) : E := eLc vs (iRng1 (eC (.int i))) g t e
@[simp] theorem wp_lcR : (eLc vs (iRng1 ex) g t e r h).wp Q X = (ex r h).wp (fun w h1 => match w with | .int i => (lcR_ i vs g t e r h1).wp Q X | _ => False) X := by
  unfold lcR_ eLc
  simp only [wp_bind, iRng1, eC, wp_ok]
  congr; funext w h1
  cases w <;> simp
theorem wp_lc_n {n : Nat} (hn : n < 9999999) (I : Nat → List W → MH → Prop) (h0 : I 0 [] (h ++ [.lst []]))
    (hb : ∀ i acc h1, i < n → h1[h.length]? = some (.lst acc) → I i acc h1 → (g (.int i) (wipe r vs) h1).wp (fun r1 h1 => (t r1 h1).wp (fun c h2 => if c = true then (e r1 h2).wp (fun y h3 => h3[h.length]? = some (.lst acc) ∧ I (i + 1) (acc ++ [y]) (h3.set h.length (.lst (acc ++ [y])))) (fun _ _ _ => False)
      else h2[h.length]? = some (.lst acc) ∧ I (i + 1) acc h2) (fun _ _ _ => False)) (fun _ _ _ => False)) (hend : ∀ acc h1, h1[h.length]? = some (.lst acc) → I n acc h1 → Q (.ref h.length) h1) :
    (lcR_ (n : Int) vs g t e r h).wp Q X := wp_lc_rng hn I h0 hb hend
theorem wp_lc_sq (ec : h[a]? = some c) (hs : itemsOf c = some xs) (hx : xs.length < 9999999) (I : Nat → List W → MH → Prop) (hat : ∀ i acc h1, I i acc h1 → h1[a]? = some c) (h0 : I 0 [] (h ++ [.lst []]))
    (hb : ∀ i x acc h1, xs[i]? = some x → h1[h.length]? = some (.lst acc) → I i acc h1 → (g x (wipe r vs) h1).wp (fun r1 h1 => (t r1 h1).wp (fun c h2 => if c = true then (e r1 h2).wp (fun y h3 => h3[h.length]? = some (.lst acc) ∧ I (i + 1) (acc ++ [y]) (h3.set h.length (.lst (acc ++ [y])))) (fun _ _ _ => False)
      else h2[h.length]? = some (.lst acc) ∧ I (i + 1) acc h2) (fun _ _ _ => False)) (fun _ _ _ => False)) (hend : ∀ acc h1, h1[h.length]? = some (.lst acc) → I xs.length acc h1 → Q (.ref h.length) h1) :
    (lcIn_ (.ref a) vs g t e r h).wp Q X := by
  unfold lcIn_
  obtain ⟨s, z1, z2⟩ := src_seq (r := r) ec hs
  unfold eLc
  rw [z1]
  refine quiet_wq (wp_lcTurns xs I (fun i acc h1 q => z2 i h1 (hat i acc h1 q)) hb hend hx _ 0 [] _ (Nat.le_refl _) (by simp) h0 (Nat.zero_le _) ?_)
  show xs.length < xs.length + 1 + 0
  omega
/-- each item by itself: some are told anew, some are left out -/
theorem wp_lc_fm (ec : h[a]? = some c) (hs : itemsOf c = some xs) (hx : xs.length < 9999999) (f : W → Option W)
    (hf : ∀ x ∈ xs, ∀ h1, Old h h1 → (g x (wipe r vs) h1).wp (fun r1 h2 => (t r1 h2).wp (fun c h3 => if c = true then (e r1 h3).wp (fun z h4 => f x = some z ∧ Old h1 h4) (fun _ _ _ => False) else f x = none ∧ Old h1 h3) (fun _ _ _ => False)) (fun _ _ _ => False))
    (q : ∀ h', Old h h' → h'[h.length]? = some (.lst (xs.filterMap f)) → Q (.ref h.length) h') : (lcIn_ (.ref a) vs g t e r h).wp Q X := by
  have la := lt_of_at ec
  refine wp_lc_sq ec hs hx (fun i acc h1 => Old h h1 ∧ acc = (xs.take i).filterMap f) (fun i acc h1 w => w.1.at ec) ⟨Old.app _ _, rfl⟩ (fun i x acc h1 hi hD w => ?_) (fun acc h1 hD w => ?_)
  · obtain ⟨O, rfl⟩ := w
    have tk : xs.take (i + 1) = xs.take i ++ [x] := by rw [List.take_add_one, hi]; rfl
    refine (hf x (List.mem_of_getElem? hi) h1 O).imp (fun r1 h2 w2 => w2.imp (fun c h3 w3 => ?_) fun _ _ _ z => z) fun _ _ _ z => z
    by_cases cc : c = true
    · rw [if_pos cc] at w3 ⊢
      refine w3.imp (fun z h4 ⟨e1, O4⟩ => ⟨O4.at hD, ?_, ?_⟩) fun _ _ _ z => z
      · exact ⟨by rw [List.length_set]; exact (O.trans O4).1, fun j hj => by rw [List.getElem?_set_ne (by omega)]; exact (O.trans O4).2 j hj⟩
      · rw [tk, List.filterMap_append]; simp [e1]
    · rw [if_neg cc] at w3 ⊢
      exact ⟨w3.2.at hD, O.trans w3.2, by rw [tk, List.filterMap_append]; simp [w3.1]⟩
  · obtain ⟨O, rfl⟩ := w
    rw [List.take_length] at hD
    exact q h1 O hD
end
section
variable {h : MH} {n : Nat} {w : W} {ok : Nat → Bool} {f : Str} {d c : Nat} {fs : List (Str × W)} {Q : W → MH → Prop} {X : XQ} {r : Env}
@[simp] theorem o_eXfl {o : E} : (eXfl ok f o r h).wp Q X = (o r h).wp (fun w h1 => (xfOf ok f w h1).wp Q X) X := by unfold eXfl; rw [wp_bind]
theorem o_xf (e : h[n]? = some (.exo c (some d))) (e2 : h[d]? = some (.xd fs)) (hk : ok c = true) (hf : fs.lookup f = some w) : xfOf ok f (.ref n) h = .ok w h := by
  unfold xfOf
  simp only [e, e2, hf]
  rw [if_pos hk]
@[simp] theorem o_eErr {e : E} : (eErr c f e r h).wp Q X = (e r h).wp (fun w h1 => Q (.ref (h1.length + 1)) (h1 ++ [.xd [(f, w)], .exo c (some h1.length)])) X := by unfold eErr; simp only [wp_bind, wp_ok]
theorem o_unseq {gs : List G} {xs : List W} {R' : Env → MH → Prop} (e : seqAt h n = some xs) : (gSeqT gs (.ref n) r h).wp R' X = (gAll gs xs r h).wp R' X := by unfold gSeqT; simp only [e]
end
end Mini
set_option Elab.async false
set_option autoImplicit false
set_option linter.all false
set_option maxRecDepth 100000
/-! Functions that many laws share, with their classes and errors as parameters. -/
namespace Lb
open Mini
def b_is_whole  : S :=
    (sRet (eAnd (eUn (gIsi .tInt) (eVar 0)) (eNot (eUn (gIsi .tBool) (eVar 0)))))
def m_is_whole  : F := fnOf 1 1 b_is_whole
def b_is_between  : S :=
    (sRet (eAnd (Mini.eCall m_is_whole (aCons (eVar 0) aNil)) (eChain gLe gLe (eVar 1) (eVar 0) (eVar 2))))
def m_is_between  : F := fnOf 3 3 b_is_between
def b_is_tuple_of  : S :=
    (sRet (eAnd (eUn (gIsi .tTuple) (eVar 0)) (eBin gEq (eFn fLen (aCons (eVar 0) aNil)) (eVar 1))))
def m_is_tuple_of  : F := fnOf 2 2 b_is_tuple_of
def b_is_contents  : S :=
    (sRet (eAnd (Mini.eCall m_is_tuple_of (aCons (eVar 0) (aCons (eVar 1) aNil))) (eFn fAll (aCons (eLc [3] (iSeq (eVar 0)) (gSet 3) Mini.tYes (Mini.eCall m_is_between (aCons (eVar 3) (aCons (eC (.int 0)) (aCons (eBin gSub (eVar 2) (eC (.int 1))) aNil))))) aNil))))
def m_is_contents  : F := fnOf 4 3 b_is_contents
def b_Disk___init__ (okB okC : Nat → Bool) (xB xC : Nat) : S :=
    (sSeq (Mini.sIf (Mini.tNot (tTru (Mini.eCall m_is_between (aCons (eVar 1) (aCons (eC (.int 1)) (aCons (eC (.int (24))) aNil))))))
    (sRaise xB ("given" : PySem.Str) (eVar 1))
    sNx)
    (sSeq (Mini.sIf (Mini.tNot (tTru (Mini.eCall m_is_between (aCons (eVar 2) (aCons (eC (.int 2)) (aCons (eC (.int (64))) aNil))))))
    (sRaise xC ("given" : PySem.Str) (eVar 2))
    sNx)
    (sSeq (sFldSet okB "blocks" (eVar 0) (eVar 1))
    (sFldSet okC "contents" (eVar 0) (eVar 2)))))
def m_Disk___init__ (okB okC : Nat → Bool) (xB xC : Nat) : F := fnOf 3 3 (b_Disk___init__ okB okC xB xC)
def b_Disk___eq__ (okB okC : Nat → Bool) (cD : Nat) : S :=
    (sRet (eAnd (eUn (gIsiC cD) (eVar 1)) (eAnd (eBin gEq (eFld okB "blocks" (eVar 0)) (eFld okB "blocks" (eVar 1))) (eBin gEq (eFld okC "contents" (eVar 0)) (eFld okC "contents" (eVar 1))))))
def m_Disk___eq__ (okB okC : Nat → Bool) (cD : Nat) : F := fnOf 2 2 (b_Disk___eq__ okB okC cD)
def b_power  : S :=
    (sSeq (sSet 2 (eC (.int 1)))
    (sSeq (Mini.sFor (Mini.iRng1 (eVar 1)) (gSet 3)
    (sSet 2 (eBin gMulX (eVar 2) (eVar 0))))
    (sRet (eVar 2))))
def m_power  : F := fnOf 4 2 b_power
def b_number_from  : S :=
    (sSeq (sSet 2 (eC (.int 0)))
    (sSeq (Mini.sFor (iSeq (eVar 0)) (gSet 3)
    (sSet 2 (eBin gAddX (eBin gMulX (eVar 2) (eVar 1)) (eVar 3))))
    (sRet (eVar 2))))
def m_number_from  : F := fnOf 4 2 b_number_from
def b_figures  : S :=
    (sSeq (sSet 3 (eLst aNil))
    (sSeq (Mini.sFor (Mini.iRng1 (eVar 2)) (gSet 4)
    (sSeq (sExpr (eApp (eVar 3) (eBin gMod (eVar 0) (eVar 1))))
    (sSet 0 (eBin gDiv (eVar 0) (eVar 1)))))
    (sRet (eFn fTuple (aCons (eRev (eVar 3)) aNil)))))
def m_figures  : F := fnOf 5 3 b_figures
def b_count (okB okC : Nat → Bool) : S :=
    (sRet (Mini.eCall m_power (aCons (eFld okC "contents" (eVar 0)) (aCons (eFld okB "blocks" (eVar 0)) aNil))))
def m_count (okB okC : Nat → Bool) : F := fnOf 1 1 (b_count okB okC)
def b_is_filling (okB okC : Nat → Bool) : S :=
    (sRet (Mini.eCall m_is_contents (aCons (eVar 1) (aCons (eFld okB "blocks" (eVar 0)) (aCons (eFld okC "contents" (eVar 0)) aNil)))))
def m_is_filling (okB okC : Nat → Bool) : F := fnOf 2 2 (b_is_filling okB okC)
def b_check_filling (okB okC : Nat → Bool) (eF : Nat) : S :=
    (Mini.sIf (Mini.tNot (tTru (Mini.eCall (m_is_filling okB okC) (aCons (eVar 0) (aCons (eVar 1) aNil)))))
    (sRaise eF ("given" : PySem.Str) (eVar 1))
    sNx)
def m_check_filling (okB okC : Nat → Bool) (eF : Nat) : F := fnOf 2 2 (b_check_filling okB okC eF)
def b_number_of (okB okC : Nat → Bool) (eF : Nat) : S :=
    (sSeq (sExpr (Mini.eCall (m_check_filling okB okC eF) (aCons (eVar 0) (aCons (eVar 1) aNil))))
    (sRet (Mini.eCall m_number_from (aCons (eVar 1) (aCons (eFld okC "contents" (eVar 0)) aNil)))))
def m_number_of (okB okC : Nat → Bool) (eF : Nat) : F := fnOf 2 2 (b_number_of okB okC eF)
def b_filling_at (okB okC : Nat → Bool) (eN : Nat) : S :=
    (sSeq (Mini.sIf (Mini.tNot (tTru (Mini.eCall m_is_between (aCons (eVar 1) (aCons (eC (.int 0)) (aCons (eBin gSub (Mini.eCall (m_count okB okC) (aCons (eVar 0) aNil)) (eC (.int 1))) aNil))))))
    (sRaise eN ("given" : PySem.Str) (eVar 1))
    sNx)
    (sRet (Mini.eCall m_figures (aCons (eVar 1) (aCons (eFld okC "contents" (eVar 0)) (aCons (eFld okB "blocks" (eVar 0)) aNil))))))
def m_filling_at (okB okC : Nat → Bool) (eN : Nat) : F := fnOf 2 2 (b_filling_at okB okC eN)
def b__law_cell (k0 : Int) : S :=
    (sRet (eIf (tBl (eBin gLtX (eVar 1) (eFn fLen (aCons (eVar 0) aNil)))) (eBin gIx (eVar 0) (eVar 1)) (eBin gAddX (eBin gAddX (eBin gMulX (eC (.int 6007)) (eVar 1)) (eC (.int k0))) (eBin gMod (eFn fInt (aCons (eFn fSum (aCons (eSl (eVar 0) oNo (oSo (eC (.int 1)))) aNil)) aNil)) (eC (.int 1000033))))))
def m__law_cell (k0 : Int) : F := fnOf 2 2 (b__law_cell k0)
def b__law_box  : S :=
    (sRet (eLst (aCons (eFn fAbs (aCons (eVar 0) aNil)) (aCons (eBin gGe (eFn fAbs (aCons (eVar 0) aNil)) (eBin gPow (eC (.int 10)) (eC (.int 18)))) (aCons (eBin gMod (eFn fInt (aCons (eFn fAbs (aCons (eVar 0) aNil)) aNil)) (eC (.int 2147483629))) (aCons (eC (.int 0)) aNil))))))
def m__law_box  : F := fnOf 1 1 b__law_box
def b__law_take (k0 : Int) : S :=
    (sSeq (Mini.sIf (Mini.tAnd (tTru (eBin gIx (eVar 0) (eC (.int 1)))) (tBl (eBin gGt (eBin gIx (eVar 0) (eC (.int 0))) (eC (.int 0)))))
    (sSeq (sSet 2 (eBin gMod (eFn fInt (aCons (eBin gIx (eVar 0) (eC (.int 0))) aNil)) (eVar 1)))
    (sSeq (sAsg (eBin gDiv (eBin gIx (eVar 0) (eC (.int 0))) (eVar 1)) (gSubL (eVar 0) (eC (.int 0))))
    (sRet (eVar 2))))
    sNx)
    (sSeq (sAsg (eBin gAddX (eBin gIx (eVar 0) (eC (.int 3))) (eC (.int 1))) (gSubL (eVar 0) (eC (.int 3))))
    (sSeq (sSet 3 (eBin gMod (eFn fInt (aCons (eBin gPow (eBin gAddX (eBin gAddX (eBin gIx (eVar 0) (eC (.int 2))) (eBin gMulX (eC (.int k0)) (eBin gIx (eVar 0) (eC (.int 3))))) (eC (.int 179424673))) (eC (.int 5))) aNil)) (eC (.int 2147483647))))
    (sRet (eBin gMod (eFn fInt (aCons (eBin gDiv (eBin gMod (eFn fInt (aCons (eBin gPow (eBin gAddX (eBin gMulX (eVar 3) (eC (.int 48271))) (eBin gMulX (eC (.int 104729)) (eBin gIx (eVar 0) (eC (.int 3))))) (eC (.int 3))) aNil)) (eC (.int 2147483587))) (eC (.int 64))) aNil)) (eVar 1))))))
def m__law_take (k0 : Int) : F := fnOf 4 2 (b__law_take k0)
end Lb
set_option Elab.async false
set_option autoImplicit false
set_option linter.all false
set_option maxRecDepth 100000
namespace Lb
open Mini
open PySem (Str PyData)
section
variable {h : MH} {w : W} {lo hi : Int} {Q : W → MH → Prop} {X : XQ} {n b : Nat}
/-! ### tests of values -/
def isInt : W → Bool
  | .int _ => true
  | _ => false
def btw (w : W) (lo hi : Int) : Bool := match w with
  | .int i => decide (lo ≤ i) && decide (i ≤ hi)
  | _ => false
theorem isi_ref (t : Ty) {n : Nat} (k : known (.ref n) h = true) : gIsi t (.ref n) h = .ok (.bl (isTy (kindOf (.ref n) h) t)) h := by
  unfold gIsi
  rw [if_pos k]
theorem isi_refI {n : Nat} (k : known (.ref n) h = true) : gIsi .tInt (.ref n) h = .ok (.bl false) h := by
  rw [isi_ref _ k]
  have : isTy (kindOf (.ref n) h) .tInt = false := by
    unfold kindOf
    simp only []
    cases e : h[n]? with
    | none => rfl
    | some c => cases c <;> rfl
  rw [this]
theorem whole_spec (k : known w h = true) (q : Q (.bl (isInt w)) h) : (m_is_whole [w] h).wp Q X := by
  unfold m_is_whole
  rw [wp_fn]
  cases w with
  | ref n =>
    simp -implicitDefEqProofs [b_is_whole, isi_refI k]
    exact q
  | _ =>
    simp -implicitDefEqProofs [b_is_whole]
    exact q
theorem between_spec (k : known w h = true) (q : Q (.bl (btw w lo hi)) h) : (m_is_between [w, .int lo, .int hi] h).wp Q X := by
  unfold m_is_between
  rw [wp_fn]
  simp -implicitDefEqProofs [b_is_between]
  refine whole_spec k ?_
  cases w with
  | int i =>
    simp -implicitDefEqProofs [isInt]
    unfold btw at q
    by_cases c : lo ≤ i <;> simp [c] at q ⊢ <;> exact q
  | _ =>
    simp -implicitDefEqProofs [isInt]
    exact q
/-- the items, if w is a tuple -/
theorem kind_tup (k : known w h = true) : isTy (kindOf w h) .tTuple = (tupOf h w).isSome := by
  cases w with
  | ref n =>
    unfold kindOf tupOf tupAt
    simp only []
    cases e : h[n]? with
    | none => rfl
    | some c => cases c <;> rfl
  | _ => rfl
def isTupN (h : MH) (w : W) (many : Int) : Bool := match tupOf h w with
  | some xs => decide ((xs.length : Int) = many)
  | none => false
theorem tupAt_len {p : Nat} {xs : List W} (e : tupAt h p = some xs) : fLen [.ref p] h = .ok (.int xs.length) h := o_len (tup_seq e)
theorem tuple_of_spec {many : Int} (k : known w h = true) (q : Q (.bl (isTupN h w many)) h) : (m_is_tuple_of [w, .int many] h).wp Q X := by
  unfold m_is_tuple_of
  rw [wp_fn]
  simp -implicitDefEqProofs [b_is_tuple_of]
  have e : gIsi .tTuple w h = .ok (.bl (tupOf h w).isSome) h := by
    unfold gIsi
    rw [if_pos k, kind_tup k]
  rw [e]
  unfold isTupN at q
  cases et : tupOf h w with
  | none =>
    rw [et] at q
    simp -implicitDefEqProofs
    exact q
  | some xs =>
    rw [et] at q
    simp -implicitDefEqProofs
    cases w with
    | ref p =>
      rw [tupAt_len et]
      simp -implicitDefEqProofs
      exact q
    | _ => cases et
/-- is w a tuple of so many contents -/
def isCon (h : MH) (w : W) (many cs : Int) : Bool := match tupOf h w with
  | some xs => decide ((xs.length : Int) = many) && xs.all fun x => btw x 0 (cs - 1)
  | none => false
structure Items (h : MH) (w : W) : Prop where
  kn : known w h = true
  it : ∀ xs, tupOf h w = some xs → xs.length < 9999999 ∧ ∀ x ∈ xs, known x h = true
theorem known_old {h' : MH} (O : Old h h') (k : known w h = true) : known w h' = true := by
  cases w with
  | ref n =>
    unfold known at k ⊢
    simp only [] at k ⊢
    cases e : h[n]? with
    | none => rw [e] at k; cases k
    | some c =>
      rw [O.at e]
      rw [e] at k
      cases c with
      | exo c d =>
        cases d with
        | none => rfl
        | some d =>
          simp only [xdAt] at k ⊢
          cases e2 : h[d]? with
          | none => rw [e2] at k; cases k
          | some c2 => rw [O.at e2]; rw [e2] at k; exact k
      | _ => exact k
  | _ => rfl
theorem contents_spec {many cs : Int} (I : Items h w) (q : ∀ h', Old h h' → Q (.bl (isCon h w many cs)) h') : (m_is_contents [w, .int many, .int cs] h).wp Q X := by
  unfold m_is_contents
  rw [wp_fn]
  simp -implicitDefEqProofs [b_is_contents]
  refine tuple_of_spec I.kn ?_
  unfold isCon at q
  unfold isTupN
  cases et : tupOf h w with
  | none =>
    rw [et] at q
    simp -implicitDefEqProofs
    exact q h (Old.refl _)
  | some xs =>
    rw [et] at q
    obtain ⟨hl, hk⟩ := I.it xs et
    by_cases c : (xs.length : Int) = many
    · simp -implicitDefEqProofs [c]
      cases w with
      | ref p =>
        obtain ⟨cl, ec, hs⟩ := seq_cell (tup_seq et)
        refine wp_lc_fm ec hs hl (fun x => some (.bl (btw x 0 (cs - 1)))) (fun x hx h1 O => ?_) (fun h' O e => ?_)
        · simp -implicitDefEqProofs
          refine between_spec (known_old O (hk x hx)) ?_
          exact ⟨rfl, Old.refl _⟩
        · have em : xs.filterMap (fun x => some (W.bl (btw x 0 (cs - 1)))) = (xs.map fun x => btw x 0 (cs - 1)).map .bl := by
            rw [List.filterMap_eq_map', List.map_map]; rfl
          rw [em] at e
          rw [o_all (lst_at e)]
          simp -implicitDefEqProofs
          have q' := q h' O
          simp only [c, decide_true, Bool.true_and] at q'
          simpa [List.all_map, Function.comp_def] using q'
      | _ => cases et
    · simp -implicitDefEqProofs [c]
      have q' := q h (Old.refl _)
      simpa [c] using q'
end
end Lb
set_option Elab.async false
set_option autoImplicit false
set_option linter.all false
set_option maxRecDepth 100000
namespace Lb
open Mini
open PySem (Str PyData)
/-- a row of numbers -/
abbrev nW (x : Nat) : W := .int (x : Int)
abbrev rowW (xs : List Nat) : List W := xs.map nW
/-! ### plain numbers -/
def numOf (b : Nat) (xs : List Nat) : Nat := xs.foldl (fun a x => a * b + x) 0
theorem numOf_snoc (b : Nat) (xs : List Nat) (x : Nat) : numOf b (xs ++ [x]) = numOf b xs * b + x := by unfold numOf; rw [List.foldl_append]; rfl
def figs (b : Nat) : Nat → Nat → List Nat
  | 0, _ => []
  | k + 1, n => figs b k (n / b) ++ [n % b]
theorem figs_len (b : Nat) : ∀ k n, (figs b k n).length = k
  | 0, _ => rfl
  | k + 1, n => by show (figs b k (n / b) ++ [n % b]).length = _; rw [List.length_append, figs_len b k]; rfl
theorem figs_lt {b : Nat} (hb : 0 < b) : ∀ k n, ∀ x ∈ figs b k n, x < b
  | 0, _, _, hx => nomatch hx
  | k + 1, n, x, hx => by
    rcases List.mem_append.mp (show x ∈ figs b k (n / b) ++ [n % b] from hx) with h | h
    · exact figs_lt hb k _ x h
    · rw [List.mem_singleton.mp h]; exact Nat.mod_lt _ hb
theorem num_figs {b : Nat} (hb : 0 < b) : ∀ k n, n < b ^ k → numOf b (figs b k n) = n
  | 0, n, h => by have : n = 0 := by simpa using h
                  subst this; rfl
  | k + 1, n, h => by
    have h1 : n / b < b ^ k := by rw [Nat.div_lt_iff_lt_mul hb, ← Nat.pow_succ]; exact h
    show numOf b (figs b k (n / b) ++ [n % b]) = n
    rw [numOf_snoc, num_figs hb k _ h1, Nat.mul_comm]
    exact Nat.div_add_mod n b
theorem snoc_cases {α : Type} (xs : List α) (h : xs ≠ []) : ∃ ys y, xs = ys ++ [y] := ⟨xs.dropLast, xs.getLast h, (List.dropLast_concat_getLast h).symm⟩
theorem figs_num {b : Nat} (hb : 0 < b) : ∀ (k : Nat) (xs : List Nat), xs.length = k → (∀ x ∈ xs, x < b) → figs b k (numOf b xs) = xs
  | 0, xs, h, _ => by rw [List.length_eq_zero_iff.mp h]; rfl
  | k + 1, xs, h, hx => by
    obtain ⟨ys, y, rfl⟩ := snoc_cases xs (by intro z; rw [z] at h; cases h)
    have hy : y < b := hx y (by simp)
    show figs b k (numOf b (ys ++ [y]) / b) ++ [numOf b (ys ++ [y]) % b] = _
    rw [numOf_snoc]
    have e1 : (numOf b ys * b + y) / b = numOf b ys := by rw [Nat.mul_comm, Nat.mul_add_div hb, Nat.div_eq_of_lt hy, Nat.add_zero]
    have e2 : (numOf b ys * b + y) % b = y := by rw [Nat.mul_comm, Nat.mul_add_mod, Nat.mod_eq_of_lt hy]
    rw [e1, e2, figs_num hb k ys (by simpa using h) fun x hx' => hx x (by simp [hx'])]
theorem num_lt {b : Nat} (hb : 0 < b) : ∀ (k : Nat) (xs : List Nat), xs.length = k → (∀ x ∈ xs, x < b) → numOf b xs < b ^ k
  | 0, xs, h, _ => by rw [List.length_eq_zero_iff.mp h]; exact Nat.one_pos
  | k + 1, xs, h, hx => by
    obtain ⟨ys, y, rfl⟩ := snoc_cases xs (by intro z; rw [z] at h; cases h)
    have hy : y < b := hx y (by simp)
    have ih := num_lt hb k ys (by simpa using h) fun x hx' => hx x (by simp [hx'])
    rw [numOf_snoc, Nat.pow_succ]
    have : (numOf b ys + 1) * b ≤ b ^ k * b := Nat.mul_le_mul_right b ih
    rw [Nat.add_mul] at this
    omega
theorem figs_range (b : Nat) : ∀ k n, figs b k n = ((List.range k).map fun j => n / b ^ j % b).reverse
  | 0, _ => rfl
  | k + 1, n => by
    show figs b k (n / b) ++ [n % b] = _
    rw [figs_range b k, List.range_succ_eq_map, List.map_cons, List.reverse_cons, List.map_map]
    congr 1
    · congr 1
      apply List.map_congr_left
      intro j _
      show n / b / b ^ j % b = n / b ^ (j + 1) % b
      rw [Nat.div_div_eq_div_mul, Nat.pow_succ, Nat.mul_comm]
    · simp
/-! ### draws -/
section
variable {h : MH} {Q : W → MH → Prop} {X : XQ}
theorem rOkN {k : Nat} (h : k ≤ 1000000000000) : rOk (k : Int) = true := by simp [rOk]; omega
theorem small64 {x : Int} (h0 : -1000000000000000 ≤ x) (h1 : x ≤ 1000000000000000) : x.natAbs < two64 := by simp only [two64]; omega
theorem div9000 {x : Nat} (h : x ≤ 2 ^ 64) : x < 2 ^ 9000 := Nat.lt_of_le_of_lt h (Nat.pow_lt_pow_right (by decide) (by decide))
/-- the box that is drawn from -/
def Box (h : MH) (b : Nat) (c : Int) : Prop := ∃ (z : Int) (f : Bool) (m k : Int), h[b]? = some (.lst [.int z, .bl f, .int m, .int k]) ∧ 0 ≤ m ∧ m < 2147483629 ∧ 0 ≤ k ∧ k ≤ c
theorem take_spec {b : Nat} {c many k0 : Int} (B : Box h b c) (hm : 0 < many) (hm2 : many ≤ 100000) (hc : c < 1000000) (h0 : 0 ≤ k0) (h1 : k0 ≤ 200000000)
    (q : ∀ (d : Nat) h', (d : Int) < many → Box h' b (c + 1) → Ch b h h' → h'.length = h.length → Q (.int d) h') : (m__law_take k0 [.ref b, .int many] h).wp Q X := by
  obtain ⟨z, f, m, k, e, m0, m1, k0', k1⟩ := B
  unfold m__law_take
  rw [wp_fn]
  have hb := lt_of_at e
  have dk : divOk z many = true := div_ok hm (div9000 (by omega))
  have p0 : 0 ≤ k0 * (k + 1) := Int.mul_nonneg h0 (by omega)
  have p2 : k0 * (k + 1) ≤ 200000000 * 1000001 := Int.mul_le_mul h1 (by omega) (by omega) (by decide)
  have tail : ∀ d h', 0 ≤ d → d < many → (∃ z', h' = h.set b (.lst [.int z', .bl f, .int m, .int k])) ∨ h' = h.set b (.lst [.int z, .bl f, .int m, .int (k + 1)]) → Q (.int d) h' := by
    rintro d h' d0 d1 hh
    obtain ⟨d, rfl⟩ : ∃ e : Nat, d = e := ⟨d.toNat, by omega⟩
    rcases hh with ⟨z', rfl⟩ | rfl
    · exact q d _ d1 ⟨z', f, m, k, set_at e, m0, m1, k0', by omega⟩ (Ch.set _ _ _) (by simp)
    · exact q d _ d1 ⟨z, f, m, k + 1, set_at e, m0, m1, by omega, by omega⟩ (Ch.set _ _ _) (by simp)
  have p1 : powOk (m + k0 * (k + 1) + 179424673) 5 = true := pow_ok (by omega) (by omega) (by simp only [two64]; omega)
  have p3 : mulOk k0 (k + 1) = true := mul_ok (small64 (by omega) (by omega))
  simp -implicitDefEqProofs [b__law_take, o_ix (seq_lst e), o_put e, o_ix (seq_lst (set_at' hb)), dk, hm, p1, p3]
  have rest : mulOk ((m + k0 * (k + 1) + 179424673) ^ 5 % 2147483647) 48271 = true ∧ mulOk 104729 (k + 1) = true ∧
      powOk ((m + k0 * (k + 1) + 179424673) ^ 5 % 2147483647 * 48271 + 104729 * (k + 1)) 3 = true ∧
        divOk (((m + k0 * (k + 1) + 179424673) ^ 5 % 2147483647 * 48271 + 104729 * (k + 1)) ^ 3 % 2147483587) 64 = true ∧
          Q (W.int (((m + k0 * (k + 1) + 179424673) ^ 5 % 2147483647 * 48271 + 104729 * (k + 1)) ^ 3 % 2147483587 / 64 % many))
            (h.set b (.lst [.int z, .bl f, .int m, .int (k + 1)])) := by
    generalize (m + k0 * (k + 1) + 179424673) ^ 5 = y
    have y0 := Int.emod_nonneg y (by decide : (2147483647 : Int) ≠ 0)
    have y1 := Int.emod_lt_of_pos y (by decide : (0 : Int) < 2147483647)
    refine ⟨mul_ok2 (by decide), mul_ok (by decide), pow_ok (by omega) (by omega) (by simp only [two64]; omega), div_ok (by decide) (div9000 (by decide)), ?_⟩
    exact tail _ _ (Int.emod_nonneg _ (by omega)) (Int.emod_lt_of_pos _ hm) (.inr rfl)
  split
  · split
    · exact tail _ _ (Int.emod_nonneg _ (by omega)) (Int.emod_lt_of_pos _ hm) (.inl ⟨_, rfl⟩)
    · exact rest
  · exact rest
theorem box_spec {g : Int} (q : ∀ h', Box h' h.length 0 → Old h h' → h'.length = h.length + 1 → Q (.ref h.length) h') : (m__law_box [.int g] h).wp Q X := by
  unfold m__law_box
  rw [wp_fn]
  simp -implicitDefEqProofs [b__law_box]
  exact ⟨by decide, q _ ⟨_, _, _, _, new_at h _, Int.emod_nonneg _ (by decide), Int.emod_lt_of_pos _ (by decide), Int.le_refl _, Int.le_refl _⟩ (Old.app _ _) (by simp)⟩
/-- the script's cell -/
def Scr (h : MH) (s : Nat) (ns : List Int) : Prop := h[s]? = some (.fz (ns.map .int)) ∨ h[s]? = some (.cl (ns.map .int))
theorem Scr.seq {s : Nat} {ns : List Int} (S : Scr h s ns) : seqAt h s = some (ns.map .int) := by
  rcases S with e | e
  · exact seq_fz e
  · exact seq_cl e
theorem Scr.lt {s : Nat} {ns : List Int} (S : Scr h s ns) : s < h.length := by
  rcases S with e | e <;> exact lt_of_at e
theorem Scr.kp {h' : MH} {n b s : Nat} {ns : List Int} (S : Scr h s ns) (C : Kp n b h h') (h1 : s < n) (hn : s ≠ b) : Scr h' s ns := by
  rcases S with e | e
  · exact .inl ((C.eq s h1 hn).trans e)
  · exact .inr ((C.eq s h1 hn).trans e)
theorem ints_map (ns : List Int) : intsOf (ns.map .int) = some ns := by
  induction ns with
  | nil => rfl
  | cons n ns ih => show (intsOf (ns.map .int)).map (n :: ·) = _; rw [ih]; rfl
theorem cut_map (ns : List Int) (lo hi : Option Int) : ∃ ms : List Int, cut (ns.map W.int) lo hi = ms.map .int := ⟨_, by unfold cut; rw [← List.map_drop, ← List.map_take]⟩
theorem Scr.slice {s : Nat} {ns : List Int} (S : Scr h s ns) (lo hi : Option Int) : ∃ ms : List Int, slice (.ref s) lo hi h = .ok (.ref h.length) (h ++ [.lst (ms.map .int)]) := by
  obtain ⟨ms, e⟩ := cut_map ns lo hi
  refine ⟨ms, ?_⟩
  rcases S with q | q <;> (unfold Mini.slice; simp only [q, e])
theorem sum_ints {n : Nat} {ms : List Int} (e : h[n]? = some (.lst (ms.map .int))) : fSum [.ref n] h = .ok (.int ms.sum) h := by
  unfold fSum
  simp only [e, ints_map]
theorem cell_spec {s : Nat} {k : Nat} {k0 : Int} {ns : List Int} (S : Scr h s ns) (hk : k < 1000) (q : ∀ v h', Old h h' → Q (.int v) h') : (m__law_cell k0 [.ref s, .int k] h).wp Q X := by
  unfold m__law_cell
  rw [wp_fn]
  obtain ⟨ms, e⟩ := S.slice none (some 1)
  simp -implicitDefEqProofs [b__law_cell, o_len S.seq, eSl, e, sum_ints (new_at h _), o_ix S.seq]
  split
  · rename_i c
    have c' : k < ns.length := by omega
    rw [item_nn (w := .int ns[k]) k (by simp [c'])]
    exact q _ _ (Old.refl _)
  · exact ⟨mul_ok (by decide), q _ _ (Old.app _ _)⟩
theorem Box.mono {b : Nat} {c c' : Int} (B : Box h b c) (hc : c ≤ c' := by omega) : Box h b c' := by
  obtain ⟨z, f, m, k, e, a1, a2, a3, a4⟩ := B
  exact ⟨z, f, m, k, e, a1, a2, a3, by omega⟩
theorem Box.lt {b : Nat} {c : Int} (B : Box h b c) : b < h.length := by
  obtain ⟨z, f, m, k, e, _⟩ := B
  exact lt_of_at e
theorem Box.old {h' : MH} {b : Nat} {c : Int} (B : Box h b c) (O : Old h h') : Box h' b c := by
  obtain ⟨z, f, m, k, e, r⟩ := B
  exact ⟨z, f, m, k, O.at e, r⟩
theorem Box.app {b : Nat} {c : Int} (B : Box h b c) (t : List Cell) : Box (h ++ t) b c := B.old (Old.app _ _)
theorem Box.set {b p : Nat} {c : Int} (B : Box h b c) (x : Cell) (hp : p ≠ b) : Box (h.set p x) b c := by
  obtain ⟨z, f, m, k, e, r⟩ := B
  exact ⟨z, f, m, k, by rw [List.getElem?_set_ne hp]; exact e, r⟩
end
end Lb
set_option Elab.async false
set_option autoImplicit false
set_option linter.all false
set_option maxRecDepth 100000
namespace Lb
open Mini
open PySem (Str PyData)
section
variable {h : MH} {Q : W → MH → Prop} {X : XQ} {okB okC : Nat → Bool} {cD eF eN xB xC : Nat}
/-! ### powers, numbers, figures -/
theorem power_spec {base many : Nat} (hb : base ≤ 1000000000) (hm : many ≤ 1000000000) (q : Q (.int ((base ^ many : Nat) : Int)) h) : (m_power [.int base, .int many] h).wp Q X := by
  unfold m_power
  rw [wp_fn]
  simp -implicitDefEqProofs [b_power, ws_for, o_rng1, rOkN (show many ≤ 1000000000000 by omega)]
  refine ws_rng (fun i r h1 => h1 = h ∧ ∃ v, r = [some (.int base), some (.int many), some (.int ((base ^ i : Nat) : Int)), v]) ⟨rfl, none, by simp⟩ ?_ ?_
  · rintro i r h1 hi ⟨rfl, v, rfl⟩
    simp -implicitDefEqProofs only [gSet, wp_ok, ws_set, eBin, wp_bind, eVar]
    simp -implicitDefEqProofs
    exact ⟨mul_ok2 (small64 (by omega) (by omega)), by simp [Int.pow_succ]⟩
  · rintro r h1 ⟨rfl, v, rfl⟩
    simp -implicitDefEqProofs
    simpa using q
theorem row_get {xs : List Nat} {i : Nat} {w : W} (e : (rowW xs)[i]? = some w) : ∃ x, xs[i]? = some x ∧ w = nW x := by
  rw [List.getElem?_map] at e
  cases e1 : xs[i]? with
  | none => rw [e1] at e; cases e
  | some x => rw [e1] at e; cases e; exact ⟨x, rfl, rfl⟩
theorem number_spec {base p : Nat} {c : Cell} {xs : List Nat} (hb : base ≤ 1000000000) (e : h[p]? = some c) (hs : itemsOf c = some (rowW xs)) (q : Q (.int (numOf base xs : Nat)) h) : (m_number_from [.ref p, .int base] h).wp Q X := by
  unfold m_number_from
  rw [wp_fn]
  simp -implicitDefEqProofs [b_number_from]
  refine ws_sq e hs (fun i r h1 => h1 = h ∧ ∃ v, r = [some (.ref p), some (.int base), some (.int (numOf base (xs.take i) : Nat)), v]) ⟨rfl, none, rfl⟩ (fun i r h1 w => by rw [w.1]; exact e) ?_ ?_
  · rintro i x r h1 hx ⟨rfl, v, rfl⟩
    obtain ⟨y, hy, rfl⟩ := row_get hx
    have tk : xs.take (i + 1) = xs.take i ++ [y] := by rw [List.take_add_one, hy]; rfl
    simp -implicitDefEqProofs
    refine ⟨mul_ok2 (small64 (by omega) (by omega)), ?_⟩
    rw [tk, numOf_snoc]
    simp
  · rintro r h1 ⟨rfl, v, rfl⟩
    simp -implicitDefEqProofs
    simpa using q
theorem figures_spec {n base many : Nat} (hb : 0 < base) (hb2 : base ≤ 1000000000) (hm : many ≤ 1000000) (q : ∀ z h', h.length ≤ z → Old h h' → h'[z]? = some (.tup (rowW (figs base many n))) → Q (.ref z) h') : (m_figures [.int n, .int base, .int many] h).wp Q X := by
  unfold m_figures
  rw [wp_fn]
  simp -implicitDefEqProofs [b_figures, ws_for, o_rng1, rOkN (show many ≤ 1000000000000 by omega)]
  refine ws_rng (fun i r h1 => Old h h1 ∧ h1[h.length]? = some (.lst (rowW ((List.range i).map fun j => n / base ^ j % base))) ∧ ∃ v, r = [some (.int ((n / base ^ i : Nat) : Int)), some (.int base), some (.int many), some (.ref h.length), v]) ⟨Old.app _ _, by simp, none, by simp⟩ ?_ ?_
  · rintro i r h1 hi ⟨O, e, v, rfl⟩
    have hbi : 0 < (base : Int) := by omega
    simp -implicitDefEqProofs only [gSet, wp_ok, ws_seq, ws_expr, eApp, wp_bind, eVar, List.set_cons_succ, List.set_cons_zero, List.getElem?_cons_zero, List.getElem?_cons_succ, isLst_at e, if_true]
    simp -implicitDefEqProofs only [eBin, wp_bind, eVar, List.getElem?_cons_zero, List.getElem?_cons_succ, wp_ok, o_mod, hbi, true_and]
    have ap : ∀ y, app (.ref h.length) y h1 = .ok .non (h1.set h.length (.lst (rowW ((List.range i).map fun j => n / base ^ j % base) ++ [y]))) := fun y => by
      unfold app
      simp only [e]
      rw [if_pos (by simp; omega)]
    rw [ap]
    simp -implicitDefEqProofs
    refine ⟨div_ok hbi (div9000 (by omega)), ⟨by rw [List.length_set]; exact O.1, fun j hj => by rw [List.getElem?_set_ne (by omega)]; exact O.2 j hj⟩, ?_, ?_⟩
    · rw [List.getElem?_set_self (lt_of_at e)]
      simp [List.range_succ]
    · have z : n / base ^ i / base = n / base ^ (i + 1) := by rw [Nat.div_div_eq_div_mul, Nat.pow_succ]
      exact_mod_cast congrArg (fun x : Nat => (x : Int)) z
  · rintro r h1 ⟨O, e, v, rfl⟩
    simp -implicitDefEqProofs
    rw [o_rev (lst_at e)]
    simp -implicitDefEqProofs
    rw [o_tuple (lst_at (new_at h1 _))]
    simp -implicitDefEqProofs
    refine q _ _ (by have := O.1; simp; omega) ((O.trans (Old.app _ _))) ?_
    rw [figs_range]
    simp [rowW]
/-! ### disks -/
def DiskAt (h : MH) (z cD n m : Nat) : Prop := h[z]? = some (.ins cD [("blocks", .int n), ("contents", .int m)])
structure Sizes (n m : Nat) : Prop where
  n0 : 1 ≤ n
  n1 : n ≤ 24
  m0 : 2 ≤ m
  m1 : m ≤ 64
theorem btw_nat {n a b : Nat} (h0 : a ≤ n) (h1 : n ≤ b) : btw (.int n) a b = true := by simp [btw]; omega
theorem disk_ok {n m : Nat} (S : Sizes n m) (hB : okB cD = true) (hC : okC cD = true) (q : Q (.ref h.length) (h ++ [.ins cD [("blocks", .int n), ("contents", .int m)]])) : (newIns cD (m_Disk___init__ okB okC xB xC) [.int n, .int m] h).wp Q X := by
  obtain ⟨n0, n1, m0, m1⟩ := S
  refine o_new ?_
  unfold m_Disk___init__
  rw [wp_fn]
  simp -implicitDefEqProofs [b_Disk___init__]
  refine between_spec rfl ?_
  have e1 : btw (.int n) 1 24 = true := btw_nat n0 n1
  have e2 : btw (.int m) 2 64 = true := btw_nat m0 m1
  simp -implicitDefEqProofs [e1]
  refine between_spec rfl ?_
  simp -implicitDefEqProofs [e2]
  have p0 : putFs "blocks" (.int n) [] = ([("blocks", .int n)] : List (Str × W)) := rfl
  have p1 : putFs "contents" (.int m) ([("blocks", .int n)] : List (Str × W)) = ([("blocks", .int n), ("contents", .int m)] : List (Str × W)) := by unfold putFs; rw [if_neg (by decide +kernel)]; rfl
  rw [o_fldPut (fs := []) (new_at h _) hB (by simp), p0]
  simp -implicitDefEqProofs
  rw [o_fldPut (fs := [("blocks", .int n)]) (by simp) hC (by simp), p1]
  simpa using q
theorem disk_badB {a c : W} (k : known a h = true) (hb : btw a 1 24 = false) (q : ∀ h', Old h h' → X xB (some (h.length + 1)) (h ++ [.ins cD [], .xd [("given", a)]])) : (newIns cD (m_Disk___init__ okB okC xB xC) [a, c] h).wp Q X := by
  refine o_new ?_
  unfold m_Disk___init__
  rw [wp_fn]
  simp -implicitDefEqProofs [b_Disk___init__]
  refine between_spec (known_old (Old.app _ _) k) ?_
  simp -implicitDefEqProofs [hb]
  exact q h (Old.refl _)
theorem disk_badC {a c : W} (k : known a h = true) (k2 : known c h = true) (hb : btw a 1 24 = true) (hc : btw c 2 64 = false) (q : X xC (some (h.length + 1)) (h ++ [.ins cD [], .xd [("given", c)]])) : (newIns cD (m_Disk___init__ okB okC xB xC) [a, c] h).wp Q X := by
  refine o_new ?_
  unfold m_Disk___init__
  rw [wp_fn]
  simp -implicitDefEqProofs [b_Disk___init__]
  refine between_spec (known_old (Old.app _ _) k) ?_
  simp -implicitDefEqProofs [hb]
  refine between_spec (known_old (Old.app _ _) k2) ?_
  simp -implicitDefEqProofs [hc]
  exact q
theorem DiskAt.blocks {z n m : Nat} (D : DiskAt h z cD n m) (hB : okB cD = true) : fldOf okB "blocks" (.ref z) h = .ok (.int n) h := o_fld D hB rfl
theorem DiskAt.contents {z n m : Nat} (D : DiskAt h z cD n m) (hC : okC cD = true) : fldOf okC "contents" (.ref z) h = .ok (.int m) h := o_fld D hC rfl
theorem DiskAt.old {h' : MH} {z n m : Nat} (D : DiskAt h z cD n m) (O : Old h h') : DiskAt h' z cD n m := O.at D
theorem DiskAt.kp {h' : MH} {z n m k b : Nat} (D : DiskAt h z cD n m) (C : Kp k b h h') (h1 : z < k) (h2 : z ≠ b) : DiskAt h' z cD n m := (C.eq z h1 h2).trans D
theorem disk_eq {z1 z2 n1 m1 n2 m2 : Nat} (D1 : DiskAt h z1 cD n1 m1) (D2 : DiskAt h z2 cD n2 m2) (hB : okB cD = true) (hC : okC cD = true) (q : Q (.bl (decide (n1 = n2) && decide (m1 = m2))) h) : (m_Disk___eq__ okB okC cD [.ref z1, .ref z2] h).wp Q X := by
  unfold m_Disk___eq__
  rw [wp_fn]
  simp -implicitDefEqProofs [b_Disk___eq__, isiC_ins D2, D1.blocks hB, D2.blocks hB]
  by_cases c : n1 = n2
  · have e : decide ((m1 : Int) = m2) = decide (m1 = m2) := decide_eq_decide.mpr (by omega)
    simp -implicitDefEqProofs [c, D1.contents hC, D2.contents hC, e]
    simpa [c] using q
  · have c' : ¬ ((n1 : Int) = n2) := by omega
    simp -implicitDefEqProofs [c']
    simpa [c] using q
theorem disk_eq_other {z1 : Nat} {w : W} (k : known w h = true) (hc : clsOf w h ≠ some cD) (q : Q (.bl false) h) : (m_Disk___eq__ okB okC cD [.ref z1, w] h).wp Q X := by
  unfold m_Disk___eq__
  rw [wp_fn]
  have e : gIsiC cD w h = .ok (.bl false) h := by
    unfold gIsiC
    rw [if_pos k]
    have : (clsOf w h == some cD) = false := by simpa using hc
    rw [this]
  simp -implicitDefEqProofs [b_Disk___eq__, e]
  exact q
theorem count_spec {z n m : Nat} (D : DiskAt h z cD n m) (hn : n ≤ 24) (hm : m ≤ 64) (hB : okB cD = true) (hC : okC cD = true) (q : Q (.int ((m ^ n : Nat) : Int)) h) : (m_count okB okC [.ref z] h).wp Q X := by
  unfold m_count
  rw [wp_fn]
  simp -implicitDefEqProofs [b_count, D.blocks hB, D.contents hC]
  exact power_spec (by omega) (by omega) q
theorem is_filling_spec {z n m : Nat} {w : W} (D : DiskAt h z cD n m) (hB : okB cD = true) (hC : okC cD = true) (I : Items h w) (q : ∀ h', Old h h' → Q (.bl (isCon h w n m)) h') : (m_is_filling okB okC [.ref z, w] h).wp Q X := by
  unfold m_is_filling
  rw [wp_fn]
  simp -implicitDefEqProofs [b_is_filling, D.blocks hB, D.contents hC]
  exact contents_spec I q
theorem check_filling_ok {z n m : Nat} {w : W} (D : DiskAt h z cD n m) (hB : okB cD = true) (hC : okC cD = true) (I : Items h w) (f : isCon h w n m = true) (q : ∀ h', Old h h' → Q .non h') : (m_check_filling okB okC eF [.ref z, w] h).wp Q X := by
  unfold m_check_filling
  rw [wp_fn]
  simp -implicitDefEqProofs [b_check_filling]
  refine is_filling_spec D hB hC I fun h' O => ?_
  simp -implicitDefEqProofs [f]
  exact q h' O
theorem check_filling_bad {z n m : Nat} {w : W} (D : DiskAt h z cD n m) (hB : okB cD = true) (hC : okC cD = true) (I : Items h w) (f : isCon h w n m = false) (q : ∀ h', Old h h' → X eF (some h'.length) (h' ++ [.xd [("given", w)]])) : (m_check_filling okB okC eF [.ref z, w] h).wp Q X := by
  unfold m_check_filling
  rw [wp_fn]
  simp -implicitDefEqProofs [b_check_filling]
  refine is_filling_spec D hB hC I fun h' O => ?_
  simp -implicitDefEqProofs [f]
  exact q h' O
/-- a filling of a disk with n blocks and m contents -/
structure Fil (n m : Nat) (xs : List Nat) : Prop where
  len : xs.length = n
  lt : ∀ x ∈ xs, x < m
/-- a row of numbers in a tuple -/
def RowAt (h : MH) (p : Nat) (xs : List Nat) : Prop := tupAt h p = some (rowW xs)
theorem tupAt_lt {p : Nat} {ws : List W} (e : tupAt h p = some ws) : p < h.length := by
  unfold tupAt at e
  cases e1 : h[p]? with
  | none => rw [e1] at e; cases e
  | some c => exact lt_of_at e1
theorem tupAt_old {h' : MH} {p : Nat} {ws : List W} (e : tupAt h p = some ws) (O : Old h h') : tupAt h' p = some ws := (tupAt_eq (O.2 p (tupAt_lt e))).trans e
theorem tupAt_kp {h' : MH} {p k b : Nat} {ws : List W} (e : tupAt h p = some ws) (C : Kp k b h h') (h1 : p < k) (h2 : p ≠ b) : tupAt h' p = some ws := (tupAt_eq (C.eq p h1 h2)).trans e
theorem RowAt.tup {p : Nat} {xs : List Nat} (R : RowAt h p xs) : tupAt h p = some (rowW xs) := R
theorem RowAt.seq {p : Nat} {xs : List Nat} (R : RowAt h p xs) : seqAt h p = some (rowW xs) := tup_seq R
theorem RowAt.lt {p : Nat} {xs : List Nat} (R : RowAt h p xs) : p < h.length := tupAt_lt R
theorem RowAt.old {h' : MH} {p : Nat} {xs : List Nat} (R : RowAt h p xs) (O : Old h h') : RowAt h' p xs := tupAt_old R O
theorem RowAt.kp {h' : MH} {p k b : Nat} {xs : List Nat} (R : RowAt h p xs) (C : Kp k b h h') (h1 : p < k) (h2 : p ≠ b) : RowAt h' p xs := tupAt_kp R C h1 h2
theorem tup_known {p : Nat} {ws : List W} (e : tupAt h p = some ws) : known (.ref p) h = true := by
  unfold tupAt at e
  unfold Mini.known
  simp only []
  cases e1 : h[p]? with
  | none => rw [e1] at e; cases e
  | some c => rw [e1] at e; cases c <;> first | rfl | (cases e; done)
theorem RowAt.known {p : Nat} {xs : List Nat} (R : RowAt h p xs) : known (.ref p) h = true := tup_known R
theorem RowAt.items {p : Nat} {xs : List Nat} (R : RowAt h p xs) (hl : xs.length < 9999999) : Items h (.ref p) := ⟨R.known, fun ys e => by
  have : ys = rowW xs := Option.some.inj (e.symm.trans R.tup)
  subst this
  refine ⟨by rw [List.length_map]; exact hl, fun x hx => ?_⟩
  obtain ⟨y, _, rfl⟩ := List.mem_map.mp hx
  rfl⟩
theorem RowAt.con {p n m : Nat} {xs : List Nat} (R : RowAt h p xs) : isCon h (.ref p) n m = (decide (xs.length = n) && xs.all fun x => decide (x < m)) := by
  unfold isCon tupOf
  simp only [R.tup, List.length_map, List.all_map]
  congr 1
  · apply decide_eq_decide.mpr; omega
  · apply List.all_congr rfl
    intro x
    simp [btw]
    omega
theorem Fil.con {p n m : Nat} {xs : List Nat} (F : Fil n m xs) (R : RowAt h p xs) : isCon h (.ref p) n m = true := by
  rw [R.con]
  simp [F.len]
  exact F.lt
theorem number_of_spec {z p n m : Nat} {xs : List Nat} (D : DiskAt h z cD n m) (hn : n ≤ 24) (hm : m ≤ 64) (hB : okB cD = true) (hC : okC cD = true) (F : Fil n m xs) (R : RowAt h p xs) (q : ∀ h', Old h h' → Q (.int (numOf m xs : Nat)) h') : (m_number_of okB okC eF [.ref z, .ref p] h).wp Q X := by
  unfold m_number_of
  rw [wp_fn]
  simp -implicitDefEqProofs [b_number_of]
  refine check_filling_ok D hB hC (R.items (by have := F.len; omega)) (F.con R) fun h' O => ?_
  simp -implicitDefEqProofs [(D.old O).contents hC]
  obtain ⟨c, ec, hs⟩ := seq_cell (R.old O).seq
  exact number_spec (by omega) ec hs (q h' O)
theorem number_of_bad {z n m : Nat} {w : W} (D : DiskAt h z cD n m) (hB : okB cD = true) (hC : okC cD = true) (I : Items h w) (f : isCon h w n m = false) (q : ∀ h', Old h h' → X eF (some h'.length) (h' ++ [.xd [("given", w)]])) : (m_number_of okB okC eF [.ref z, w] h).wp Q X := by
  unfold m_number_of
  rw [wp_fn]
  simp -implicitDefEqProofs [b_number_of]
  exact check_filling_bad D hB hC I f fun h' O => q h' O
theorem filling_at_spec {z n m k : Nat} (D : DiskAt h z cD n m) (hn : n ≤ 24) (hm : 0 < m) (hm2 : m ≤ 64) (hB : okB cD = true) (hC : okC cD = true) (hk : k < m ^ n) (q : ∀ p h', h.length ≤ p → Old h h' → h'[p]? = some (.tup (rowW (figs m n k))) → Q (.ref p) h') : (m_filling_at okB okC eN [.ref z, .int k] h).wp Q X := by
  unfold m_filling_at
  rw [wp_fn]
  simp -implicitDefEqProofs [b_filling_at]
  refine count_spec D hn hm2 hB hC ?_
  simp -implicitDefEqProofs
  refine between_spec rfl ?_
  have e : btw (.int (k : Int)) 0 ((m : Int) ^ n - 1) = true := by
    have : ((m ^ n : Nat) : Int) = (m : Int) ^ n := by simp
    simp only [btw, Bool.and_eq_true, decide_eq_true_eq]
    omega
  simp -implicitDefEqProofs [e, D.blocks hB, D.contents hC]
  exact figures_spec hm (by omega) (by omega) q
theorem filling_at_bad {z n m : Nat} {w : W} (D : DiskAt h z cD n m) (hn : n ≤ 24) (hm2 : m ≤ 64) (hB : okB cD = true) (hC : okC cD = true) (k : known w h = true) (f : btw w 0 ((m ^ n : Nat) - 1 : Int) = false) (q : X eN (some h.length) (h ++ [.xd [("given", w)]])) : (m_filling_at okB okC eN [.ref z, w] h).wp Q X := by
  unfold m_filling_at
  rw [wp_fn]
  simp -implicitDefEqProofs [b_filling_at]
  refine count_spec D hn hm2 hB hC ?_
  simp -implicitDefEqProofs
  refine between_spec k ?_
  have e : ((m ^ n : Nat) : Int) = (m : Int) ^ n := by simp
  rw [e] at f
  simp -implicitDefEqProofs [f]
  exact q
/-! ### tuples: repeated, joined, cut -/
theorem rep_spec {p : Nat} {k : Nat} {x : W} (e : tupAt h p = some [x]) (hk : k ≤ 1000) (q : ∀ p' h', Old h h' → tupAt h' p' = some (List.replicate k x) → (p' = p ∨ h.length ≤ p') → Q (.ref p') h') : (gMulX (.ref p) (.int k) h).wp Q X := by
  by_cases c1 : k = 1
  · subst c1
    rw [show ((1 : Nat) : Int) = 1 by rfl, o_repX1 e (by simp), wp_ok]
    exact q p h (Old.refl _) e (.inl rfl)
  · by_cases c0 : k = 0
    · subst c0
      rw [show ((0 : Nat) : Int) = 0 by rfl, o_repX0 e (by simp), wp_ok]
      exact q _ _ (Old.app _ _) (tup_at (new_at h _)) (.inr (Nat.le_refl _))
    · rw [o_repX e (by simp) (by omega) (by omega) (by simp), wp_ok]
      refine q _ _ (Old.app _ _) (tup_at ?_) (.inr (Nat.le_refl _))
      rw [new_at]
      have : ∀ k : Nat, (List.replicate k [x]).flatten = List.replicate k x := fun k => by
        induction k with
        | zero => rfl
        | succ k ih => rw [List.replicate_succ, List.flatten_cons, ih]; rfl
      rw [Int.toNat_natCast, this]
theorem cat_spec {p p2 : Nat} {xs ys : List W} (e : tupAt h p = some xs) (e2 : tupAt h p2 = some ys) (hl : xs.length + ys.length ≤ 10000000) (q : ∀ p' h', Old h h' → tupAt h' p' = some (xs ++ ys) → (p' = p ∨ p' = p2 ∨ h.length ≤ p') → Q (.ref p') h') : (gAddX (.ref p) (.ref p2) h).wp Q X := by
  by_cases c1 : xs = []
  · subst c1
    rw [o_catX1 e e2 (by simpa using hl), wp_ok]
    exact q p2 h (Old.refl _) e2 (.inr (.inl rfl))
  · by_cases c2 : ys = []
    · subst c2
      rw [o_catX2 e e2 (by simpa using hl) c1, wp_ok]
      exact q p h (Old.refl _) (by rw [List.append_nil]; exact e) (.inl rfl)
    · rw [o_catX e e2 hl c1 c2, wp_ok]
      exact q _ _ (Old.app _ _) (tup_at (new_at h _)) (.inr (.inr (Nat.le_refl _)))
theorem slice_tup {p : Nat} {xs : List W} {l u : Option Int} (e : tupAt h p = some xs) (hw : ¬ (sIx xs.length 0 l = 0 ∧ sIx xs.length xs.length u = xs.length)) : slice (.ref p) l u h = .ok (.ref h.length) (h ++ [.tup (cut xs l u)]) := by
  unfold tupAt at e
  unfold slice
  simp only []
  cases e1 : h[p]? with
  | none => rw [e1] at e; cases e
  | some c => rw [e1] at e; cases c <;> first | (cases e; simp only []; rw [if_neg hw]) | (cases e; done)
end
end Lb
set_option Elab.async false
set_option autoImplicit false
set_option linter.all false
set_option maxRecDepth 100000
namespace Lb
open Mini
open PySem (Str PyData)
section
variable {h : MH} {p q : Nat} {xs ys : List Nat}
def toI (xs : List Nat) : List Int := xs.map fun (x : Nat) => (x : Int)
theorem row_ints : rowW xs = (toI xs).map .int := by unfold rowW toI; rw [List.map_map]; rfl
theorem toI_inj : toI xs = toI ys ↔ xs = ys := by
  constructor
  · intro e
    have := congrArg (List.map Int.toNat) e
    simpa [toI, List.map_map, Function.comp_def] using this
  · intro e; rw [e]
theorem eq_rows (R1 : RowAt h p xs) (R2 : RowAt h q ys) : gEq (.ref p) (.ref q) h = .ok (.bl (decide (xs = ys))) h := by
  rw [eq_tups (xs := toI xs) (ys := toI ys) (by rw [← row_ints]; exact R1) (by rw [← row_ints]; exact R2)]
  simp only [toI_inj]
theorem ne_rows (R1 : RowAt h p xs) (R2 : RowAt h q ys) : gNe (.ref p) (.ref q) h = .ok (.bl (!decide (xs = ys))) h := by
  rw [ne_tups (xs := toI xs) (ys := toI ys) (by rw [← row_ints]; exact R1) (by rw [← row_ints]; exact R2)]
  simp only [toI_inj]
theorem ne_nils (e1 : lstAt h p = some []) (e2 : lstAt h q = some []) : gNe (.ref p) (.ref q) h = .ok (.bl false) h := by
  have d1 : Den (p + 1) (p + 1) h (.ref p) (.list []) := .lst (by omega) (by omega) e1 .nil
  have d2 : Den (q + 1) (q + 1) h (.ref q) (.list []) := .lst (by omega) (by omega) e2 .nil
  rw [ne_den d1 d2 rfl rfl (by decide) (by decide)]
  rfl
theorem lt_rows (R1 : RowAt h p xs) (R2 : RowAt h q ys) : gLtX (.ref p) (.ref q) h = .ok (.bl (rowLt (toI xs) (toI ys))) h := by
  have im : ∀ ns : List Int, intsOf (ns.map .int) = some ns := ints_map
  have e1 : tupOf h (.ref p) = some ((toI xs).map .int) := by rw [← row_ints]; exact R1
  have e2 : tupOf h (.ref q) = some ((toI ys).map .int) := by rw [← row_ints]; exact R2
  unfold gLtX
  simp only [e1, e2, Option.bind, im]
/-- numbers and rows are ordered alike -/
theorem num_cons {m : Nat} (x : Nat) (xs : List Nat) : numOf m (x :: xs) = x * m ^ xs.length + numOf m xs := by
  have : ∀ (xs : List Nat) (a : Nat), xs.foldl (fun a x => a * m + x) a = a * m ^ xs.length + numOf m xs := by
    intro xs
    induction xs with
    | nil => intro a; simp [numOf]
    | cons y ys ih =>
      intro a
      show ys.foldl (fun a x => a * m + x) (a * m + y) = _
      rw [ih]
      show (a * m + y) * m ^ ys.length + numOf m ys = a * m ^ (ys.length + 1) + (ys.foldl (fun a x => a * m + x) (0 * m + y))
      rw [ih, Nat.pow_succ, Nat.add_mul]
      simp only [Nat.zero_mul, Nat.zero_add]
      rw [Nat.mul_assoc, Nat.mul_comm m (m ^ ys.length)]
      omega
  show xs.foldl (fun a x => a * m + x) (0 * m + x) = _
  rw [this]
  simp
theorem rowLt_num {m : Nat} (hm : 0 < m) : ∀ {xs ys : List Nat}, xs.length = ys.length → (∀ x ∈ xs, x < m) → (∀ y ∈ ys, y < m) → rowLt (toI xs) (toI ys) = decide (numOf m xs < numOf m ys)
  | [], [], _, _, _ => by simp [toI, rowLt]
  | [], _ :: _, h, _, _ => by cases h
  | _ :: _, [], h, _, _ => by cases h
  | x :: xs, y :: ys, h, hx, hy => by
    have hl : xs.length = ys.length := by simpa using h
    have ih := rowLt_num hm hl (fun z hz => hx z (List.mem_cons_of_mem _ hz)) (fun z hz => hy z (List.mem_cons_of_mem _ hz))
    have n1 := num_lt hm xs.length xs rfl (fun z hz => hx z (List.mem_cons_of_mem _ hz))
    have n2 := num_lt hm ys.length ys rfl (fun z hz => hy z (List.mem_cons_of_mem _ hz))
    rw [num_cons, num_cons]
    show (if (x : Int) = y then rowLt (toI xs) (toI ys) else decide ((x : Int) < y)) = _
    rw [← hl] at n2 ⊢
    by_cases c : x = y
    · subst c
      rw [if_pos rfl, ih]
      apply decide_eq_decide.mpr
      omega
    · rw [if_neg (by omega)]
      apply decide_eq_decide.mpr
      constructor
      · intro lt
        have : (x + 1) * m ^ xs.length ≤ y * m ^ xs.length := Nat.mul_le_mul_right _ (by omega)
        rw [Nat.add_mul] at this
        omega
      · intro lt
        have : ¬ y < x := fun z => by
          have : (y + 1) * m ^ xs.length ≤ x * m ^ xs.length := Nat.mul_le_mul_right _ (by omega)
          rw [Nat.add_mul] at this
          omega
        omega
theorem figs_zero {m : Nat} (hm : 0 < m) : ∀ n, figs m n 0 = List.replicate n 0
  | 0 => rfl
  | n + 1 => by show figs m n (0 / m) ++ [0 % m] = _; rw [Nat.zero_div, Nat.zero_mod, figs_zero hm n, List.replicate_succ']
theorem figs_top {m : Nat} (hm : 0 < m) : ∀ n, figs m n (m ^ n - 1) = List.replicate n (m - 1)
  | 0 => rfl
  | n + 1 => by
    have p : 0 < m ^ n := Nat.pow_pos hm
    have e : m ^ (n + 1) - 1 = m * (m ^ n - 1) + (m - 1) := by
      rw [Nat.pow_succ, Nat.mul_comm (m ^ n) m, Nat.mul_sub]
      have : m ≤ m * m ^ n := Nat.le_mul_of_pos_right m p
      omega
    show figs m n ((m ^ (n + 1) - 1) / m) ++ [(m ^ (n + 1) - 1) % m] = _
    have e1 : (m * (m ^ n - 1) + (m - 1)) / m = m ^ n - 1 := by rw [Nat.mul_add_div hm, Nat.div_eq_of_lt (by omega), Nat.add_zero]
    have e2 : (m * (m ^ n - 1) + (m - 1)) % m = m - 1 := by rw [Nat.mul_add_mod, Nat.mod_eq_of_lt (by omega)]
    rw [e, e1, e2, figs_top hm n, List.replicate_succ']
end
end Lb
set_option linter.all false
set_option autoImplicit false
set_option Elab.async false
set_option maxRecDepth 100000
namespace K01
open Mini
def b_is_whole : S :=
    (sRet (eAnd (eUn (gIsi .tInt) (eVar 0)) (eNot (eUn (gIsi .tBool) (eVar 0)))))
def m_is_whole : F := fnOf 1 1 b_is_whole
def b_is_between : S :=
    (sRet (eAnd (Mini.eCall m_is_whole (aCons (eVar 0) aNil)) (eChain gLe gLe (eVar 1) (eVar 0) (eVar 2))))
def m_is_between : F := fnOf 3 3 b_is_between
def b_is_tuple_of : S :=
    (sRet (eAnd (eUn (gIsi .tTuple) (eVar 0)) (eBin gEq (eFn fLen (aCons (eVar 0) aNil)) (eVar 1))))
def m_is_tuple_of : F := fnOf 2 2 b_is_tuple_of
def b_is_contents : S :=
    (sRet (eAnd (Mini.eCall m_is_tuple_of (aCons (eVar 0) (aCons (eVar 1) aNil))) (eFn fAll (aCons (eLc [3] (iSeq (eVar 0)) (gSet 3) Mini.tYes (Mini.eCall m_is_between (aCons (eVar 3) (aCons (eC (.int 0)) (aCons (eBin gSub (eVar 2) (eC (.int 1))) aNil))))) aNil))))
def m_is_contents : F := fnOf 4 3 b_is_contents
def b_Disk___init__ : S :=
    (sSeq (Mini.sIf (Mini.tNot (tTru (Mini.eCall m_is_between (aCons (eVar 1) (aCons (eC (.int 1)) (aCons (eC (.int (24))) aNil))))))
    (sRaise 0 ("given" : PySem.Str) (eVar 1))
    sNx)
    (sSeq (Mini.sIf (Mini.tNot (tTru (Mini.eCall m_is_between (aCons (eVar 2) (aCons (eC (.int 2)) (aCons (eC (.int (64))) aNil))))))
    (sRaise 1 ("given" : PySem.Str) (eVar 2))
    sNx)
    (sSeq (sFldSet (fun c => decide (c = 4)) "blocks" (eVar 0) (eVar 1))
    (sFldSet (fun c => decide (c = 4)) "contents" (eVar 0) (eVar 2)))))
def m_Disk___init__ : F := fnOf 3 3 b_Disk___init__
def b_Disk___eq__ : S :=
    (sRet (eAnd (eUn (gIsiC 4) (eVar 1)) (eAnd (eBin gEq (eFld (fun c => decide (c = 4)) "blocks" (eVar 0)) (eFld (fun c => decide (c = 4)) "blocks" (eVar 1))) (eBin gEq (eFld (fun c => decide (c = 4)) "contents" (eVar 0)) (eFld (fun c => decide (c = 4)) "contents" (eVar 1))))))
def m_Disk___eq__ : F := fnOf 2 2 b_Disk___eq__
def b_power : S :=
    (sSeq (sSet 2 (eC (.int 1)))
    (sSeq (Mini.sFor (Mini.iRng1 (eVar 1)) (gSet 3)
    (sSet 2 (eBin gMulX (eVar 2) (eVar 0))))
    (sRet (eVar 2))))
def m_power : F := fnOf 4 2 b_power
def b_number_from : S :=
    (sSeq (sSet 2 (eC (.int 0)))
    (sSeq (Mini.sFor (iSeq (eVar 0)) (gSet 3)
    (sSet 2 (eBin gAddX (eBin gMulX (eVar 2) (eVar 1)) (eVar 3))))
    (sRet (eVar 2))))
def m_number_from : F := fnOf 4 2 b_number_from
def b_figures : S :=
    (sSeq (sSet 3 (eLst aNil))
    (sSeq (Mini.sFor (Mini.iRng1 (eVar 2)) (gSet 4)
    (sSeq (sExpr (eApp (eVar 3) (eBin gMod (eVar 0) (eVar 1))))
    (sSet 0 (eBin gDiv (eVar 0) (eVar 1)))))
    (sRet (eFn fTuple (aCons (eRev (eVar 3)) aNil)))))
def m_figures : F := fnOf 5 3 b_figures
def b_count : S :=
    (sRet (Mini.eCall m_power (aCons (eFld (fun c => decide (c = 4)) "contents" (eVar 0)) (aCons (eFld (fun c => decide (c = 4)) "blocks" (eVar 0)) aNil))))
def m_count : F := fnOf 1 1 b_count
def b_is_filling : S :=
    (sRet (Mini.eCall m_is_contents (aCons (eVar 1) (aCons (eFld (fun c => decide (c = 4)) "blocks" (eVar 0)) (aCons (eFld (fun c => decide (c = 4)) "contents" (eVar 0)) aNil)))))
def m_is_filling : F := fnOf 2 2 b_is_filling
def b_check_filling : S :=
    (Mini.sIf (Mini.tNot (tTru (Mini.eCall m_is_filling (aCons (eVar 0) (aCons (eVar 1) aNil)))))
    (sRaise 2 ("given" : PySem.Str) (eVar 1))
    sNx)
def m_check_filling : F := fnOf 2 2 b_check_filling
def b_number_of : S :=
    (sSeq (sExpr (Mini.eCall m_check_filling (aCons (eVar 0) (aCons (eVar 1) aNil))))
    (sRet (Mini.eCall m_number_from (aCons (eVar 1) (aCons (eFld (fun c => decide (c = 4)) "contents" (eVar 0)) aNil)))))
def m_number_of : F := fnOf 2 2 b_number_of
def b_filling_at : S :=
    (sSeq (Mini.sIf (Mini.tNot (tTru (Mini.eCall m_is_between (aCons (eVar 1) (aCons (eC (.int 0)) (aCons (eBin gSub (Mini.eCall m_count (aCons (eVar 0) aNil)) (eC (.int 1))) aNil))))))
    (sRaise 3 ("given" : PySem.Str) (eVar 1))
    sNx)
    (sRet (Mini.eCall m_figures (aCons (eVar 1) (aCons (eFld (fun c => decide (c = 4)) "contents" (eVar 0)) (aCons (eFld (fun c => decide (c = 4)) "blocks" (eVar 0)) aNil))))))
def m_filling_at : F := fnOf 2 2 b_filling_at
def b__law_cell : S :=
    (sRet (eIf (tBl (eBin gLtX (eVar 1) (eFn fLen (aCons (eVar 0) aNil)))) (eBin gIx (eVar 0) (eVar 1)) (eBin gAddX (eBin gAddX (eBin gMulX (eC (.int 6007)) (eVar 1)) (eC (.int 1))) (eBin gMod (eFn fInt (aCons (eFn fSum (aCons (eSl (eVar 0) oNo (oSo (eC (.int 1)))) aNil)) aNil)) (eC (.int 1000033))))))
def m__law_cell : F := fnOf 2 2 b__law_cell
def b__law_box : S :=
    (sRet (eLst (aCons (eFn fAbs (aCons (eVar 0) aNil)) (aCons (eBin gGe (eFn fAbs (aCons (eVar 0) aNil)) (eBin gPow (eC (.int 10)) (eC (.int 18)))) (aCons (eBin gMod (eFn fInt (aCons (eFn fAbs (aCons (eVar 0) aNil)) aNil)) (eC (.int 2147483629))) (aCons (eC (.int 0)) aNil))))))
def m__law_box : F := fnOf 1 1 b__law_box
def b__law_take : S :=
    (sSeq (Mini.sIf (Mini.tAnd (tTru (eBin gIx (eVar 0) (eC (.int 1)))) (tBl (eBin gGt (eBin gIx (eVar 0) (eC (.int 0))) (eC (.int 0)))))
    (sSeq (sSet 2 (eBin gMod (eFn fInt (aCons (eBin gIx (eVar 0) (eC (.int 0))) aNil)) (eVar 1)))
    (sSeq (sAsg (eBin gDiv (eBin gIx (eVar 0) (eC (.int 0))) (eVar 1)) (gSubL (eVar 0) (eC (.int 0))))
    (sRet (eVar 2))))
    sNx)
    (sSeq (sAsg (eBin gAddX (eBin gIx (eVar 0) (eC (.int 3))) (eC (.int 1))) (gSubL (eVar 0) (eC (.int 3))))
    (sSeq (sSet 3 (eBin gMod (eFn fInt (aCons (eBin gPow (eBin gAddX (eBin gAddX (eBin gIx (eVar 0) (eC (.int 2))) (eBin gMulX (eC (.int 15485863)) (eBin gIx (eVar 0) (eC (.int 3))))) (eC (.int 179424673))) (eC (.int 5))) aNil)) (eC (.int 2147483647))))
    (sRet (eBin gMod (eFn fInt (aCons (eBin gDiv (eBin gMod (eFn fInt (aCons (eBin gPow (eBin gAddX (eBin gMulX (eVar 3) (eC (.int 48271))) (eBin gMulX (eC (.int 104729)) (eBin gIx (eVar 0) (eC (.int 3))))) (eC (.int 3))) aNil)) (eC (.int 2147483587))) (eC (.int 64))) aNil)) (eVar 1))))))
def m__law_take : F := fnOf 4 2 b__law_take
def b__law_sizes : S :=
    (sSeq (sSet 1 (Mini.eCall m__law_take (aCons (eVar 0) (aCons (eC (.int 5)) aNil))))
    (sSeq (sSet 2 (eIf (tBl (eBin gEq (Mini.eCall m__law_take (aCons (eVar 0) (aCons (eC (.int 2)) aNil))) (eC (.int 0)))) (eBin gAddX (eC (.int 2)) (Mini.eCall m__law_take (aCons (eVar 0) (aCons (eC (.int 63)) aNil)))) (eBin gIx (eLst (aCons (eC (.int 2)) (aCons (eC (.int 3)) (aCons (eC (.int 64)) (aCons (eC (.int 63)) aNil))))) (Mini.eCall m__law_take (aCons (eVar 0) (aCons (eC (.int 4)) aNil))))))
    (sSeq (Mini.sIf (tBl (eBin gLtX (eVar 1) (eC (.int 2))))
    (sRet (eTup (aCons (eBin gIx (eLst (aCons (eC (.int 1)) (aCons (eC (.int 24)) aNil))) (eVar 1)) (aCons (eVar 2) aNil))))
    sNx)
    (sRet (eTup (aCons (eBin gAddX (eC (.int 1)) (Mini.eCall m__law_take (aCons (eVar 0) (aCons (eBin gIx (eLst (aCons (eC (.int 24)) (aCons (eC (.int 6)) (aCons (eC (.int 12)) aNil)))) (eBin gSub (eVar 1) (eC (.int 2)))) aNil)))) (aCons (eVar 2) aNil)))))))
def m__law_sizes : F := fnOf 3 1 b__law_sizes
def b__law_pair : S :=
    (sSeq (sSet 1 (Mini.eCall m__law_take (aCons (eVar 0) (aCons (eC (.int 6)) aNil))))
    (sSeq (Mini.sIf (tBl (eBin gEq (eVar 1) (eC (.int 0))))
    (sRet (eBin gIx (eLst (aCons (eLst (aCons (eTup (aCons (eC (.int 2)) (aCons (eC (.int 4)) aNil))) (aCons (eTup (aCons (eC (.int 4)) (aCons (eC (.int 2)) aNil))) aNil))) (aCons (eLst (aCons (eTup (aCons (eC (.int 1)) (aCons (eC (.int 16)) aNil))) (aCons (eTup (aCons (eC (.int 2)) (aCons (eC (.int 4)) aNil))) aNil))) (aCons (eLst (aCons (eTup (aCons (eC (.int 24)) (aCons (eC (.int 8)) aNil))) (aCons (eTup (aCons (eC (.int 12)) (aCons (eC (.int 64)) aNil))) aNil))) (aCons (eLst (aCons (eTup (aCons (eC (.int 6)) (aCons (eC (.int 2)) aNil))) (aCons (eTup (aCons (eC (.int 1)) (aCons (eC (.int 64)) aNil))) aNil))) (aCons (eLst (aCons (eTup (aCons (eC (.int 4)) (aCons (eC (.int 8)) aNil))) (aCons (eTup (aCons (eC (.int 2)) (aCons (eC (.int 64)) aNil))) aNil))) aNil)))))) (Mini.eCall m__law_take (aCons (eVar 0) (aCons (eC (.int 5)) aNil)))))
    sNx)
    (sSeq (Mini.sIf (tBl (eBin gEq (eVar 1) (eC (.int 1))))
    (sSeq (sPar [2, 3] (aCons (eBin gAddX (eC (.int 2)) (Mini.eCall m__law_take (aCons (eVar 0) (aCons (eC (.int 23)) aNil)))) (aCons (eBin gAddX (eC (.int 2)) (Mini.eCall m__law_take (aCons (eVar 0) (aCons (eC (.int 23)) aNil)))) aNil)))
    (sRet (eLst (aCons (eTup (aCons (eVar 2) (aCons (eVar 3) aNil))) (aCons (eTup (aCons (eVar 3) (aCons (eVar 2) aNil))) aNil)))))
    sNx)
    (sSeq (sSet 2 (Mini.eCall m__law_sizes (aCons (eVar 0) aNil)))
    (sSeq (Mini.sIf (tBl (eBin gEq (eVar 1) (eC (.int 2))))
    (sRet (eLst (aCons (eVar 2) (aCons (eVar 2) aNil))))
    sNx)
    (sSeq (Mini.sIf (tBl (eBin gEq (eVar 1) (eC (.int 3))))
    (sRet (eLst (aCons (eVar 2) (aCons (eTup (aCons (eBin gAddX (eC (.int 1)) (eBin gMod (eFn fInt (aCons (eBin gAddX (eBin gIx (eVar 2) (eC (.int 0))) (Mini.eCall m__law_take (aCons (eVar 0) (aCons (eC (.int 23)) aNil)))) aNil)) (eC (.int 24)))) (aCons (eBin gIx (eVar 2) (eC (.int 1))) aNil))) aNil))))
    sNx)
    (sSeq (Mini.sIf (tBl (eBin gEq (eVar 1) (eC (.int 4))))
    (sRet (eLst (aCons (eVar 2) (aCons (eTup (aCons (eBin gIx (eVar 2) (eC (.int 0))) (aCons (eBin gAddX (eC (.int 2)) (eBin gMod (eFn fInt (aCons (eBin gAddX (eBin gSub (eBin gIx (eVar 2) (eC (.int 1))) (eC (.int 1))) (Mini.eCall m__law_take (aCons (eVar 0) (aCons (eC (.int 62)) aNil)))) aNil)) (eC (.int 63)))) aNil))) aNil))))
    sNx)
    (sRet (eLst (aCons (eVar 2) (aCons (Mini.eCall m__law_sizes (aCons (eVar 0) aNil)) aNil)))))))))))
def m__law_pair : F := fnOf 4 1 b__law_pair
def b__law_filling : S :=
    (sSeq (sSet 3 (Mini.eCall m__law_take (aCons (eVar 0) (aCons (eC (.int 6)) aNil))))
    (sSeq (Mini.sIf (tBl (eBin gLtX (eVar 3) (eC (.int 2))))
    (sRet (eBin gMulX (eTup (aCons (eBin gIx (eLst (aCons (eC (.int 0)) (aCons (eBin gSub (eVar 2) (eC (.int 1))) aNil))) (eVar 3)) aNil)) (eVar 1)))
    sNx)
    (sSeq (Mini.sIf (tBl (eBin gEq (eVar 3) (eC (.int 2))))
    (sSeq (sSet 4 (Mini.eCall m__law_take (aCons (eVar 0) (aCons (eVar 1) aNil))))
    (sRet (eBin gAddX (eBin gAddX (eBin gMulX (eTup (aCons (eC (.int 0)) aNil)) (eVar 4)) (eTup (aCons (eBin gAddX (eC (.int 1)) (Mini.eCall m__law_take (aCons (eVar 0) (aCons (eBin gSub (eVar 2) (eC (.int 1))) aNil)))) aNil))) (eBin gMulX (eTup (aCons (eC (.int 0)) aNil)) (eBin gSub (eBin gSub (eVar 1) (eVar 4)) (eC (.int 1)))))))
    sNx)
    (sRet (eFn fTuple (aCons (eLc [5] (Mini.iRng1 (eVar 1)) (gSet 5) Mini.tYes (Mini.eCall m__law_take (aCons (eVar 0) (aCons (eVar 2) aNil)))) aNil))))))
def m__law_filling : F := fnOf 6 3 b__law_filling
def b__law_number : S :=
    (sSeq (sSet 2 (eC (.int 0)))
    (sSeq (Mini.sFor (iSeq (eVar 0)) (gSet 3)
    (sSet 2 (eBin gAddX (eBin gMulX (eVar 2) (eVar 1)) (eVar 3))))
    (sRet (eVar 2))))
def m__law_number : F := fnOf 4 2 b__law_number
def b__law_whole : S :=
    (sRet (eAnd (eUn (gIsi .tInt) (eVar 0)) (eNot (eUn (gIsi .tBool) (eVar 0)))))
def m__law_whole : F := fnOf 1 1 b__law_whole
def b__law_wrong : S :=
    (sSeq (Mini.sIf (tBl (eBin gLtX (eVar 0) (eC (.int 9))))
    (sSeq (sSet 5 (eBin gIx (eLst (aCons (eVar 3) (aCons (eUn gNeg (eC (.int 1))) (aCons (eBin gAddX (eVar 3) (eVar 4)) (aCons (eBin gSub (eUn gNeg (eC (.int 1))) (eVar 4)) (aCons (eC (.bl true)) (aCons (eC (.bl false)) (aCons (eC .non) (aCons (eC (.str ("0" : PySem.Str))) (aCons (eTup (aCons (eBin gIx (eVar 2) (eVar 1)) aNil)) aNil)))))))))) (eVar 0)))
    (sRet (eBin gAddX (eBin gAddX (eSl (eVar 2) oNo (oSo (eVar 1))) (eTup (aCons (eVar 5) aNil))) (eSl (eVar 2) (oSo (eBin gAddX (eVar 1) (eC (.int 1)))) oNo))))
    sNx)
    (sSeq (sSet 6 (eLst (aCons (eFn fList (aCons (eVar 2) aNil)) (aCons (eBin gAddX (eVar 2) (eTup (aCons (eC (.int 0)) aNil))) (aCons (eSl (eVar 2) oNo (oSo (eUn gNeg (eC (.int 1))))) (aCons (eBin gAddX (eVar 2) (eVar 2)) (aCons (eTup aNil) (aCons (eC .non) (aCons (eLst aNil) (aCons (eC (.str ("01" : PySem.Str))) (aCons (eC (.int 0)) (aCons eDic0 (aCons (eTup (aCons (eVar 2) aNil)) (aCons (eLst (aCons (eVar 2) aNil)) (aCons (eC (.bl true)) aNil)))))))))))))))
    (sRet (eBin gIx (eVar 6) (eBin gSub (eVar 0) (eC (.int 9)))))))
def m__law_wrong : F := fnOf 7 5 b__law_wrong
def b__law_refusal : S :=
    (sSeq (sTry 4 4 (sSeq (Mini.sIf (tBl (eBin gEq (eVar 0) (eC (.int 0))))
    (sExpr (Mini.eCall m_number_of (aCons (eVar 1) (aCons (eVar 2) aNil))))
    sNx)
    (sSeq (Mini.sIf (tBl (eBin gEq (eVar 0) (eC (.int 1))))
    (sExpr (Mini.eCallK m_number_of [1, 0] aNil (aN 2 (aCons (eVar 2) (aCons (eVar 1) aNil)))))
    sNx)
    (sSeq (Mini.sIf (tBl (eBin gEq (eVar 0) (eC (.int 2))))
    (sExpr (Mini.eCall m_filling_at (aCons (eVar 1) (aCons (eVar 2) aNil))))
    sNx)
    (Mini.sIf (tBl (eBin gEq (eVar 0) (eC (.int 3))))
    (sExpr (Mini.eCallK m_filling_at [1, 0] aNil (aN 2 (aCons (eVar 2) (aCons (eVar 1) aNil)))))
    sNx)))) [{ m := fun c => decide (c = 2), i := some 3, s := (sRet (eLst (aCons (eC (.str ("filling" : PySem.Str))) (aCons (eXfl (fun c => decide (c = 0) || decide (c = 1) || decide (c = 2) || decide (c = 3)) "given" (eVar 3)) aNil)))) },
    { m := fun c => decide (c = 3), i := some 3, s := (sRet (eLst (aCons (eC (.str ("number" : PySem.Str))) (aCons (eXfl (fun c => decide (c = 0) || decide (c = 1) || decide (c = 2) || decide (c = 3)) "given" (eVar 3)) aNil)))) }])
    (sRet (eLst (aCons (eC (.str ("let" : PySem.Str))) (aCons (eC .non) aNil)))))
def m__law_refusal : F := fnOf 4 3 b__law_refusal
def b__law_error : S :=
    (sTry 4 3 (sRet (Mini.eCall m_number_of (aCons (eVar 0) (aCons (eVar 1) aNil)))) [{ m := fun c => decide (c = 2), i := some 2, s := (sRet (eVar 2)) }])
def m__law_error : F := fnOf 3 2 b__law_error
def b__law_made : S :=
    (sSeq (sTry 4 5 (sSet 4 (eIf (tBl (eBin gEq (eVar 0) (eC (.int 0)))) (eMakeK 4 m_Disk___init__ [1, 0] (aN 2 (aCons (eVar 2) (aCons (eVar 1) aNil)))) (eMake 4 m_Disk___init__ (aCons (eVar 1) (aCons (eVar 2) aNil))))) [{ m := fun c => decide (c = 0), i := some 3, s := (sRet (eLst (aCons (eC (.str ("blocks" : PySem.Str))) (aCons (eXfl (fun c => decide (c = 0) || decide (c = 1) || decide (c = 2) || decide (c = 3)) "given" (eVar 3)) aNil)))) },
    { m := fun c => decide (c = 1), i := some 3, s := (sRet (eLst (aCons (eC (.str ("contents" : PySem.Str))) (aCons (eXfl (fun c => decide (c = 0) || decide (c = 1) || decide (c = 2) || decide (c = 3)) "given" (eVar 3)) aNil)))) }])
    (sRet (eLst (aCons (eC (.str ("let" : PySem.Str))) (aCons (eLst (aCons (eFld (fun c => decide (c = 4)) "blocks" (eVar 4)) (aCons (eFld (fun c => decide (c = 4)) "contents" (eVar 4)) aNil))) aNil)))))
def m__law_made : F := fnOf 5 3 b__law_made
def b__law_same : S :=
    (sSeq (Mini.sIf (tTru (eUn (gIsi .tList) (eVar 2)))
    (sExpr (eApp (eVar 2) (eC (.str ("more" : PySem.Str)))))
    sNx)
    (sSeq (Mini.sIf (tTru (eUn (gIsi .tDict) (eVar 2)))
    (sDput (eVar 2) (eC (.str ("more" : PySem.Str))) (eC (.int 1)))
    sNx)
    (sRet (eAnd (eBin gEq (eBin gIx (eVar 0) (eC (.int 0))) (eVar 1)) (eBin gEq (eFn fRepr (aCons (eBin gIx (eVar 0) (eC (.int 1))) aNil)) (eFn fRepr (aCons (eVar 2) aNil)))))))
def m__law_same : F := fnOf 3 3 b__law_same
def b__law_odd : S :=
    (sSeq (Mini.sIf (tBl (eBin gEq (eVar 0) (eC (.int 0))))
    (sRet (eBin gIx (eLst (aCons (eC (.int 0)) (aCons (eC (.int 25)) (aCons (eUn gNeg (eC (.int 1))) (aCons (eBin gAddX (eC (.int 26)) (eVar 2)) (aCons (eC .non) (aCons (eC (.bl true)) (aCons (eC (.bl false)) (aCons (eC (.str ("3" : PySem.Str))) (aCons (eTup (aCons (eC (.int 3)) aNil)) (aCons (eLst (aCons (eC (.int 3)) aNil)) (aCons (eBin gPow (eC (.int 10)) (eC (.int 30))) (aCons eDic0 aNil))))))))))))) (eVar 1)))
    sNx)
    (sRet (eBin gIx (eLst (aCons (eC (.int 0)) (aCons (eC (.int 1)) (aCons (eC (.int 65)) (aCons (eBin gAddX (eC (.int 66)) (eVar 2)) (aCons (eUn gNeg (eC (.int 2))) (aCons (eC .non) (aCons (eC (.bl true)) (aCons (eC (.str ("2" : PySem.Str))) (aCons (eTup (aCons (eC (.int 2)) aNil)) (aCons (eLst (aCons (eC (.int 2)) aNil)) (aCons (eBin gPow (eC (.int 10)) (eC (.int 30))) (aCons eDic0 aNil))))))))))))) (eVar 1))))
def m__law_odd : F := fnOf 3 3 b__law_odd
def b__law_makings_right : S :=
    (sSeq (Mini.sFor (Mini.iRng1 (eC (.int 3))) (gSet 2)
    (sSeq (sPar [6, 7] (aCons (Mini.eCall m__law_take (aCons (eVar 0) (aCons (eC (.int 4)) aNil))) (aCons (Mini.eCall m__law_take (aCons (eVar 0) (aCons (eC (.int 2)) aNil))) aNil)))
    (sSeq (sPar [8, 9, 10] (aCons (Mini.eCall m__law_take (aCons (eVar 0) (aCons (eC (.int 12)) aNil))) (aCons (Mini.eCall m__law_take (aCons (eVar 0) (aCons (eC (.int 12)) aNil))) (aCons (Mini.eCall m__law_take (aCons (eVar 0) (aCons (eC (.int 1000)) aNil))) aNil))))
    (sSeq (sSet 3 (eIf (tBl (eBin gEq (eBin gMod (eFn fInt (aCons (eVar 6) aNil)) (eC (.int 2))) (eC (.int 0)))) (eBin gIx (eVar 1) (eC (.int 0))) (Mini.eCall m__law_odd (aCons (eC (.int 0)) (aCons (eVar 8) (aCons (eVar 10) aNil))))))
    (sSeq (sSet 4 (eIf (tBl (eBin gLtX (eVar 6) (eC (.int 2)))) (eBin gIx (eVar 1) (eC (.int 1))) (Mini.eCall m__law_odd (aCons (eC (.int 1)) (aCons (eVar 9) (aCons (eVar 10) aNil))))))
    (sSeq (sSet 5 (Mini.eCall m__law_made (aCons (eVar 7) (aCons (eVar 3) (aCons (eVar 4) aNil)))))
    (Mini.sIf (tBl (eBin gEq (eBin gMod (eFn fInt (aCons (eVar 6) aNil)) (eC (.int 2))) (eC (.int 1))))
    (Mini.sIf (Mini.tNot (tTru (Mini.eCall m__law_same (aCons (eVar 5) (aCons (eC (.str ("blocks" : PySem.Str))) (aCons (eVar 3) aNil))))))
    (sRet (eC (.bl false)))
    sNx)
    (Mini.sIf (tBl (eBin gEq (eVar 6) (eC (.int 2))))
    (Mini.sIf (Mini.tNot (tTru (Mini.eCall m__law_same (aCons (eVar 5) (aCons (eC (.str ("contents" : PySem.Str))) (aCons (eVar 4) aNil))))))
    (sRet (eC (.bl false)))
    sNx)
    (Mini.sIf (Mini.tOr (tBl (eBin gNe (eVar 5) (eLst (aCons (eC (.str ("let" : PySem.Str))) (aCons (eLst (aCons (eBin gIx (eVar 1) (eC (.int 0))) (aCons (eBin gIx (eVar 1) (eC (.int 1))) aNil))) aNil))))) (Mini.tOr (Mini.tNot (tTru (Mini.eCall m__law_whole (aCons (eBin gIx (eBin gIx (eVar 5) (eC (.int 1))) (eC (.int 0))) aNil)))) (Mini.tNot (tTru (Mini.eCall m__law_whole (aCons (eBin gIx (eBin gIx (eVar 5) (eC (.int 1))) (eC (.int 1))) aNil))))))
    (sRet (eC (.bl false)))
    sNx)))))))))
    (sRet (eC (.bl true))))
def m__law_makings_right : F := fnOf 11 2 b__law_makings_right
def b__law_bounds_right : S :=
    (sSeq (Mini.sFor (iSeq (eLst (aCons (eC (.int 0)) (aCons (eC (.int 1)) (aCons (eC (.int 24)) (aCons (eC (.int 25)) aNil)))))) (gSet 0)
    (Mini.sFor (iSeq (eLst (aCons (eC (.int 1)) (aCons (eC (.int 2)) (aCons (eC (.int 64)) (aCons (eC (.int 65)) aNil)))))) (gSet 1)
    (sSeq (sSet 2 (eIf (tBl (eBin gIn (eVar 1) (eLst (aCons (eC (.int 2)) (aCons (eC (.int 64)) aNil))))) (eLst (aCons (eC (.str ("let" : PySem.Str))) (aCons (eLst (aCons (eVar 0) (aCons (eVar 1) aNil))) aNil))) (eLst (aCons (eC (.str ("contents" : PySem.Str))) (aCons (eVar 1) aNil)))))
    (sSeq (Mini.sIf (tBl (eBin gIn (eVar 0) (eLst (aCons (eC (.int 0)) (aCons (eC (.int 25)) aNil)))))
    (sSet 2 (eLst (aCons (eC (.str ("blocks" : PySem.Str))) (aCons (eVar 0) aNil))))
    sNx)
    (Mini.sIf (tBl (eBin gNe (Mini.eCall m__law_made (aCons (eC (.int 1)) (aCons (eVar 0) (aCons (eVar 1) aNil)))) (eVar 2)))
    (sRet (eC (.bl false)))
    sNx)))))
    (sRet (eC (.bl true))))
def m__law_bounds_right : F := fnOf 3 0 b__law_bounds_right
def b__law_numbers_right : S :=
    (sSeq (sAsg (eVar 2) (gSeqT [(gSet 4), (gSet 5)]))
    (sSeq (sSet 6 (Mini.eCall m__law_take (aCons (eVar 0) (aCons (eC (.int 2)) aNil))))
    (sSeq (Mini.sFor (Mini.iRng1 (eC (.int 4))) (gSet 7)
    (sSeq (sSet 8 (eBin gIx (eVar 3) (eBin gMod (eFn fInt (aCons (eVar 7) aNil)) (eC (.int 2)))))
    (sSeq (sSet 9 (Mini.eCall m__law_number (aCons (eVar 8) (aCons (eVar 5) aNil))))
    (sSeq (Mini.sIf (tBl (eBin gEq (eBin gMod (eFn fInt (aCons (eBin gAddX (eVar 7) (eVar 6)) aNil)) (eC (.int 2))) (eC (.int 0))))
    (sSeq (sSet 11 (Mini.eCall m_number_of (aCons (eVar 1) (aCons (eVar 8) aNil))))
    (Mini.sIf (Mini.tOr (Mini.tNot (tTru (Mini.eCall m__law_whole (aCons (eVar 11) aNil)))) (tBl (eBin gNe (eVar 11) (eVar 9))))
    (sRet (eC (.bl false)))
    sNx))
    sNx)
    (sSeq (sSet 10 (eIf (tBl (eBin gLtX (eVar 7) (eC (.int 2)))) (Mini.eCall m_filling_at (aCons (eVar 1) (aCons (eVar 9) aNil))) (Mini.eCallK m_filling_at [1, 0] aNil (aN 2 (aCons (eVar 9) (aCons (eVar 1) aNil))))))
    (sSeq (Mini.sIf (Mini.tOr (Mini.tNot (tTru (eUn (gIsi .tTuple) (eVar 10)))) (Mini.tOr (tBl (eBin gNe (eVar 10) (eVar 8))) (tBl (eBin gNe (eLc [12] (iSeq (eVar 10)) (gSet 12) (Mini.tNot (tTru (Mini.eCall m__law_whole (aCons (eVar 12) aNil)))) (eVar 12)) (eLst aNil)))))
    (sRet (eC (.bl false)))
    sNx)
    (sSeq (Mini.sIf (Mini.tOr (tBl (eBin gIsNot (Mini.eCall m_is_filling (aCons (eVar 1) (aCons (eVar 8) aNil))) (eC (.bl true)))) (tBl (eBin gIsNot (Mini.eCallK m_is_filling [1, 0] aNil (aN 2 (aCons (eVar 10) (aCons (eVar 1) aNil)))) (eC (.bl true)))))
    (sRet (eC (.bl false)))
    sNx)
    (Mini.sIf (tBl (eBin gNe (Mini.eCallK m_number_of [1, 0] aNil (aN 2 (aCons (eVar 8) (aCons (eVar 1) aNil)))) (eVar 9)))
    (sRet (eC (.bl false)))
    sNx))))))))
    (sSeq (sAsg (eVar 3) (gSeqT [(gSet 13), (gSet 14)]))
    (sSeq (Mini.sIf (tBl (eBin gNe (eBin gLtX (eVar 13) (eVar 14)) (eBin gLtX (Mini.eCall m_number_of (aCons (eVar 1) (aCons (eVar 13) aNil))) (Mini.eCall m_number_of (aCons (eVar 1) (aCons (eVar 14) aNil))))))
    (sRet (eC (.bl false)))
    sNx)
    (sSeq (sSet 15 (eC (.int 1)))
    (sSeq (Mini.sFor (Mini.iRng1 (eVar 4)) (gSet 16)
    (sSet 15 (eBin gMulX (eVar 15) (eVar 5))))
    (sSeq (sSet 11 (eIf (tBl (eBin gEq (eVar 6) (eC (.int 0)))) (Mini.eCall m_count (aCons (eVar 1) aNil)) (Mini.eCallK m_count [0] aNil (aN 1 (aCons (eVar 1) aNil)))))
    (sSeq (Mini.sIf (Mini.tOr (Mini.tNot (tTru (Mini.eCall m__law_whole (aCons (eVar 11) aNil)))) (tBl (eBin gNe (eVar 11) (eVar 15))))
    (sRet (eC (.bl false)))
    sNx)
    (sRet (eAnd (eBin gEq (Mini.eCall m_filling_at (aCons (eVar 1) (aCons (eBin gSub (eVar 15) (eC (.int 1))) aNil))) (eBin gMulX (eTup (aCons (eBin gSub (eVar 5) (eC (.int 1))) aNil)) (eVar 4))) (eBin gEq (Mini.eCall m_filling_at (aCons (eVar 1) (aCons (eC (.int 0)) aNil))) (eBin gMulX (eTup (aCons (eC (.int 0)) aNil)) (eVar 4))))))))))))))
def m__law_numbers_right : F := fnOf 17 4 b__law_numbers_right
def b__law_refusals_right : S :=
    (sSeq (sAsg (eVar 2) (gSeqT [(gSet 4), (gSet 5)]))
    (sSeq (sSet 6 (eBin gAddX (Mini.eCall m__law_number (aCons (eBin gMulX (eTup (aCons (eBin gSub (eVar 5) (eC (.int 1))) aNil)) (eVar 4)) (aCons (eVar 5) aNil))) (eC (.int 1))))
    (sSeq (Mini.sFor (Mini.iRng1 (eC (.int 3))) (gSet 7)
    (sSeq (sPar [9, 10, 11] (aCons (Mini.eCall m__law_take (aCons (eVar 0) (aCons (eC (.int 22)) aNil))) (aCons (Mini.eCall m__law_take (aCons (eVar 0) (aCons (eVar 4) aNil))) (aCons (eBin gAddX (eC (.int 1)) (Mini.eCall m__law_take (aCons (eVar 0) (aCons (eC (.int 1000)) aNil)))) aNil))))
    (sSeq (Mini.sIf (tBl (eBin gIsNot (Mini.eCall m_is_filling (aCons (eVar 1) (aCons (Mini.eCall m__law_wrong (aCons (eVar 9) (aCons (eVar 10) (aCons (eVar 3) (aCons (eVar 5) (aCons (eVar 11) aNil)))))) aNil))) (eC (.bl false))))
    (sRet (eC (.bl false)))
    sNx)
    (sSeq (Mini.sFor (Mini.iRng1 (eC (.int 2))) (gSet 8)
    (sSeq (sSet 12 (Mini.eCall m__law_wrong (aCons (eVar 9) (aCons (eVar 10) (aCons (eVar 3) (aCons (eVar 5) (aCons (eVar 11) aNil)))))))
    (Mini.sIf (Mini.tNot (tTru (Mini.eCall m__law_same (aCons (Mini.eCall m__law_refusal (aCons (eVar 8) (aCons (eVar 1) (aCons (eVar 12) aNil)))) (aCons (eC (.str ("filling" : PySem.Str))) (aCons (eVar 12) aNil))))))
    (sRet (eC (.bl false)))
    sNx)))
    (sSeq (sSet 9 (Mini.eCall m__law_take (aCons (eVar 0) (aCons (eC (.int 12)) aNil))))
    (Mini.sFor (Mini.iRng2 (eC (.int 2)) (eC (.int 4))) (gSet 8)
    (sSeq (sSet 12 (eBin gIx (eLst (aCons (eUn gNeg (eC (.int 1))) (aCons (eVar 6) (aCons (eBin gAddX (eVar 6) (eVar 11)) (aCons (eUn gNeg (eVar 11)) (aCons (eUn gNeg (eVar 6)) (aCons (eC .non) (aCons (eC (.bl true)) (aCons (eC (.bl false)) (aCons (eC (.str ("0" : PySem.Str))) (aCons (eTup (aCons (eC (.int 0)) aNil)) (aCons (eLst (aCons (eC (.int 0)) aNil)) (aCons (eVar 3) aNil))))))))))))) (eVar 9)))
    (Mini.sIf (Mini.tNot (tTru (Mini.eCall m__law_same (aCons (Mini.eCall m__law_refusal (aCons (eVar 8) (aCons (eVar 1) (aCons (eVar 12) aNil)))) (aCons (eC (.str ("number" : PySem.Str))) (aCons (eVar 12) aNil))))))
    (sRet (eC (.bl false)))
    sNx))))))))
    (sSeq (sPar [13, 14] (aCons (eBin gAddX (eVar 3) (eTup (aCons (eC (.int 0)) aNil))) (aCons (eBin gAddX (eSl (eVar 3) (oSo (eC (.int 1))) oNo) (eTup (aCons (eVar 5) aNil))) aNil)))
    (sSeq (sPar [15, 16] (aCons (Mini.eCall m__law_error (aCons (eVar 1) (aCons (eVar 13) aNil))) (aCons (Mini.eCall m__law_error (aCons (eVar 1) (aCons (eVar 14) aNil))) aNil)))
    (sSeq (Mini.sIf (Mini.tOr (tTru (eUn (gIsi .tInt) (eVar 15))) (Mini.tOr (tTru (eUn (gIsi .tInt) (eVar 16))) (tBl (eBin gNe (eFn fRepr (aCons (eLst (aCons (eXfl (fun c => decide (c = 0) || decide (c = 1) || decide (c = 2) || decide (c = 3)) "given" (eVar 15)) (aCons (eXfl (fun c => decide (c = 0) || decide (c = 1) || decide (c = 2) || decide (c = 3)) "given" (eVar 16)) aNil))) aNil)) (eFn fRepr (aCons (eLst (aCons (eVar 13) (aCons (eVar 14) aNil))) aNil))))))
    (sRet (eC (.bl false)))
    sNx)
    (sRet (eAnd (eBin gEq (Mini.eCall m__law_refusal (aCons (eC (.int 0)) (aCons (eVar 1) (aCons (eVar 3) aNil)))) (eLst (aCons (eC (.str ("let" : PySem.Str))) (aCons (eC .non) aNil)))) (eBin gEq (Mini.eCall m__law_refusal (aCons (eC (.int 2)) (aCons (eVar 1) (aCons (eBin gSub (eVar 6) (eC (.int 1))) aNil)))) (eLst (aCons (eC (.str ("let" : PySem.Str))) (aCons (eC .non) aNil))))))))))))
def m__law_refusals_right : F := fnOf 17 4 b__law_refusals_right
def eqFs : Nat → Option F := fun c => if c = 4 then some m_Disk___eq__ else none
def b__law_right : S :=
    (sSeq (sSet 1 (Mini.eCall m__law_pair (aCons (eVar 0) aNil)))
    (sSeq (sSet 2 (eLst (aCons (eMake 4 m_Disk___init__ (aCons (eBin gIx (eBin gIx (eVar 1) (eC (.int 0))) (eC (.int 0))) (aCons (eBin gIx (eBin gIx (eVar 1) (eC (.int 0))) (eC (.int 1))) aNil))) (aCons (eMakeK 4 m_Disk___init__ [1, 0] (aN 2 (aCons (eBin gIx (eBin gIx (eVar 1) (eC (.int 1))) (eC (.int 1))) (aCons (eBin gIx (eBin gIx (eVar 1) (eC (.int 1))) (eC (.int 0))) aNil)))) aNil))))
    (sSeq (Mini.sFor (Mini.iRng1 (eC (.int 2))) (gSet 3)
    (Mini.sIf (tBl (eBin (neO eqFs) (eLst (aCons (eFld (fun c => decide (c = 4)) "blocks" (eBin gIx (eVar 2) (eVar 3))) (aCons (eFld (fun c => decide (c = 4)) "contents" (eBin gIx (eVar 2) (eVar 3))) aNil))) (eLst (aCons (eBin gIx (eBin gIx (eVar 1) (eVar 3)) (eC (.int 0))) (aCons (eBin gIx (eBin gIx (eVar 1) (eVar 3)) (eC (.int 1))) aNil)))))
    (sRet (eC (.bl false)))
    sNx))
    (sSeq (Mini.sIf (Mini.tOr (tBl (eBin (neO eqFs) (eBin (eqO eqFs) (eBin gIx (eVar 2) (eC (.int 0))) (eBin gIx (eVar 2) (eC (.int 1)))) (eBin (eqO eqFs) (eBin gIx (eVar 1) (eC (.int 0))) (eBin gIx (eVar 1) (eC (.int 1)))))) (tBl (eBin (neO eqFs) (eBin (neO eqFs) (eBin gIx (eVar 2) (eC (.int 1))) (eBin gIx (eVar 2) (eC (.int 0)))) (eBin (neO eqFs) (eBin gIx (eVar 1) (eC (.int 0))) (eBin gIx (eVar 1) (eC (.int 1)))))))
    (sRet (eC (.bl false)))
    sNx)
    (sSeq (Mini.sIf (Mini.tOr (tBl (eBin (eqO eqFs) (eBin gIx (eVar 2) (eC (.int 0))) (eErr 0 "given" (eBin gIx (eBin gIx (eVar 1) (eC (.int 0))) (eC (.int 0)))))) (Mini.tNot (tBl (eBin (eqO eqFs) (eBin gIx (eVar 2) (eC (.int 1))) (eMake 4 m_Disk___init__ (aCons (eBin gIx (eBin gIx (eVar 1) (eC (.int 1))) (eC (.int 0))) (aCons (eBin gIx (eBin gIx (eVar 1) (eC (.int 1))) (eC (.int 1))) aNil)))))))
    (sRet (eC (.bl false)))
    sNx)
    (sSeq (sSet 4 (Mini.eCall m__law_refusal (aCons (eC (.int 0)) (aCons (eBin gIx (eVar 2) (eC (.int 0))) (aCons (eBin gIx (eVar 2) (eC (.int 1))) aNil)))))
    (sSeq (Mini.sIf (Mini.tOr (tBl (eBin (neO eqFs) (eBin gIx (eVar 4) (eC (.int 0))) (eC (.str ("filling" : PySem.Str))))) (Mini.tOr (Mini.tNot (tBl (eBin (eqO eqFs) (eBin gIx (eVar 4) (eC (.int 1))) (eBin gIx (eVar 2) (eC (.int 1)))))) (tBl (eBin gIsNot (Mini.eCall m_is_filling (aCons (eBin gIx (eVar 2) (eC (.int 1))) (aCons (eBin gIx (eVar 2) (eC (.int 0))) aNil))) (eC (.bl false))))))
    (sRet (eC (.bl false)))
    sNx)
    (sSeq (sSet 5 (eLc [6] (iSeq (eVar 1)) (gSet 6) Mini.tYes (eLc [7] (Mini.iRng1 (eC (.int 2))) (gSet 7) Mini.tYes (Mini.eCall m__law_filling (aCons (eVar 0) (aCons (eBin gIx (eVar 6) (eC (.int 0))) (aCons (eBin gIx (eVar 6) (eC (.int 1))) aNil)))))))
    (sSeq (Mini.sFor (iSeq (eLst (aCons (eC (.int 0)) (aCons (eC (.int 1)) (aCons (eC (.int 0)) aNil))))) (gSet 3)
    (Mini.sIf (Mini.tNot (tTru (Mini.eCall m__law_numbers_right (aCons (eVar 0) (aCons (eBin gIx (eVar 2) (eVar 3)) (aCons (eBin gIx (eVar 1) (eVar 3)) (aCons (eBin gIx (eVar 5) (eVar 3)) aNil)))))))
    (sRet (eC (.bl false)))
    sNx))
    (sSeq (Mini.sFor (Mini.iRng1 (eC (.int 2))) (gSet 3)
    (Mini.sIf (Mini.tOr (Mini.tNot (tTru (Mini.eCall m__law_refusals_right (aCons (eVar 0) (aCons (eBin gIx (eVar 2) (eVar 3)) (aCons (eBin gIx (eVar 1) (eVar 3)) (aCons (eBin gIx (eBin gIx (eVar 5) (eVar 3)) (eC (.int 0))) aNil))))))) (Mini.tNot (tTru (Mini.eCall m__law_makings_right (aCons (eVar 0) (aCons (eBin gIx (eVar 1) (eVar 3)) aNil))))))
    (sRet (eC (.bl false)))
    sNx))
    (sRet (eC (.bl true)))))))))))))
def m__law_right : F := fnOf 8 1 b__law_right
def b_law : S :=
    (sSeq (Mini.sFor (Mini.iRng1 (eFn fMax2 (aCons (eC (.int 1)) (aCons (eFn fMin2 (aCons (eC (.int 4)) (aCons (eFn fLen (aCons (eVar 0) aNil)) aNil))) aNil)))) (gSet 1)
    (Mini.sIf (Mini.tNot (tTru (Mini.eCall m__law_right (aCons (Mini.eCall m__law_box (aCons (Mini.eCall m__law_cell (aCons (eVar 0) (aCons (eVar 1) aNil))) aNil)) aNil))))
    (sRet (eC (.bl false)))
    sNx))
    (sRet (Mini.eCall m__law_bounds_right aNil)))
def m_law : F := fnOf 2 1 b_law
end K01
set_option Elab.async false
set_option autoImplicit false
set_option linter.all false
set_option maxRecDepth 100000
namespace K01
open Mini Lb
open PySem (Str PyData)
section
variable {h : MH} {b : Nat} {c : Int} {Q : W → MH → Prop} {X : XQ}
abbrev okD : Nat → Bool := fun c => decide (c = 4)
theorem tk {many : Int} (B : Box h b c) (hm : 0 < many) (hm2 : many ≤ 100000) (hc : c < 1000000)
    (q : ∀ (d : Nat) h', (d : Int) < many → Box h' b (c + 1) → Ch b h h' → h'.length = h.length → Q (.int d) h') : (m__law_take [.ref b, .int many] h).wp Q X :=
  take_spec (k0 := 15485863) B hm hm2 hc (by decide) (by decide) q
def SizAt (h : MH) (z n m : Nat) : Prop := h[z]? = some (.tup [.int n, .int m])
theorem sizes_spec (B : Box h b c) (hc : c < 200000) (q : ∀ z h' n m, Sizes n m → SizAt h' z n m → h.length ≤ z → Box h' b (c + 10) → Ch b h h' → Q (.ref z) h') : (m__law_sizes [.ref b] h).wp Q X := by
  unfold m__law_sizes
  rw [wp_fn]
  unfold b__law_sizes
  rw [sSeq_assoc]
  refine ws_cut (fun r1 h1 => ∃ (way m : Nat), way < 5 ∧ 2 ≤ m ∧ m ≤ 64 ∧ r1 = [some (.ref b), some (.int way), some (.int m)] ∧ Box h1 b (c + 4) ∧ Ch b h h1) ?_ ?_
  · try simp -implicitDefEqProofs
    refine tk B (by decide) (by decide) (by omega) fun way h1 d1 B1 C1 l1 => ?_
    try simp -implicitDefEqProofs
    refine tk B1 (by decide) (by decide) (by omega) fun x h2 d2 B2 C2 l2 => ?_
    try simp -implicitDefEqProofs
    split
    · refine tk B2 (by decide) (by decide) (by omega) fun y h3 d3 B3 C3 l3 => ?_
      try simp -implicitDefEqProofs
      exact ⟨way, by omega, 2 + y, by omega, by omega, by simp, B3.mono, (C1.trans C2).trans C3⟩
    · refine tk (B2.app _) (by decide) (by decide) (by omega) fun y h3 d3 B3 C3 l3 => ?_
      have e3 : h3[h2.length]? = some (.lst [.int 2, .int 3, .int 64, .int 63]) := C3.at (by simp) (by have := B2.lt; omega)
      rw [o_ix (seq_lst e3)]
      refine item_mem (by omega) (by simp; omega) fun w hw => ?_
      obtain ⟨m, rfl, m0, m1⟩ : ∃ m : Nat, w = .int m ∧ 2 ≤ m ∧ m ≤ 64 := by
        simp at hw
        rcases hw with rfl | rfl | rfl | rfl
        · exact ⟨2, rfl, by decide, by decide⟩
        · exact ⟨3, rfl, by decide, by decide⟩
        · exact ⟨64, rfl, by decide, by decide⟩
        · exact ⟨63, rfl, by decide, by decide⟩
      try simp -implicitDefEqProofs
      exact ⟨way, by omega, m, m0, m1, by simp, B3.mono, (C1.trans C2).trans (((Old.app _ _).ch b).trans C3)⟩
  · rintro r1 h1 ⟨way, m, hw, m0, m1, rfl, B1, C1⟩
    try simp -implicitDefEqProofs
    split
    · rename_i lt
      refine item_mem (by omega) (by simp; omega) fun w hw => ?_
      obtain ⟨n, rfl, n0, n1⟩ : ∃ n : Nat, w = .int n ∧ 1 ≤ n ∧ n ≤ 24 := by
        simp at hw
        rcases hw with rfl | rfl
        · exact ⟨1, rfl, by decide, by decide⟩
        · exact ⟨24, rfl, by decide, by decide⟩
      exact q _ _ n m ⟨n0, n1, m0, m1⟩ (by unfold SizAt; simp) (by have := C1.1; omega) ((B1.app _).mono) (C1.app _)
    · rename_i lt
      refine item_mem (by omega) (by simp; omega) fun w hw => ?_
      obtain ⟨k, rfl, k0, k1⟩ : ∃ n : Nat, w = .int n ∧ 1 ≤ n ∧ n ≤ 24 := by
        simp at hw
        rcases hw with rfl | rfl | rfl
        · exact ⟨24, rfl, by decide, by decide⟩
        · exact ⟨6, rfl, by decide, by decide⟩
        · exact ⟨12, rfl, by decide, by decide⟩
      refine tk (B1.app _) (by omega) (by omega) (by omega) fun y h2 d2 B2 C2 l2 => ?_
      try simp -implicitDefEqProofs
      refine q _ _ (1 + y) m ⟨by omega, by omega, m0, m1⟩ (by unfold SizAt; simp) ?_ ((B2.app _).mono) ((((C1.app _).trans C2)).app _)
      have := C1.1
      have := C2.1
      simp at this
      omega
structure PairAt (h : MH) (lo p : Nat) (n1 m1 n2 m2 : Nat) : Prop where
  s1 : Sizes n1 m1
  s2 : Sizes n2 m2
  ex : ∃ z1 z2, h[p]? = some (.lst [.ref z1, .ref z2]) ∧ SizAt h z1 n1 m1 ∧ SizAt h z2 n2 m2 ∧ lo ≤ p ∧ lo ≤ z1 ∧ lo ≤ z2
theorem SizAt.old {h' : MH} {z n m : Nat} (S : SizAt h z n m) (O : Old h h') : SizAt h' z n m := O.at S
theorem SizAt.ch {h' : MH} {z n m : Nat} (S : SizAt h z n m) (C : Ch b h h') (hz : z ≠ b) : SizAt h' z n m := C.at S hz
theorem SizAt.kp {h' : MH} {z n m k : Nat} (S : SizAt h z n m) (C : Kp k b h h') (h1 : z < k) (hz : z ≠ b) : SizAt h' z n m := (C.eq z h1 hz).trans S
theorem siz_ix0 {z n m : Nat} (S : SizAt h z n m) : (gIx (.ref z) (.int 0) h).wp Q X = Q (.int n) h := by rw [o_ix (seq_tup S), item0]
theorem siz_ix1 {z n m : Nat} (S : SizAt h z n m) : (gIx (.ref z) (.int 1) h).wp Q X = Q (.int m) h := by rw [o_ix (seq_tup S), item1]
theorem new_cells {h1 t h2 : MH} {i : Nat} {cl : Cell} (C : Ch b (h1 ++ t) h2) (hb : b < h1.length) (e : t[i]? = some cl) : h2[h1.length + i]? = some cl :=
  C.at (by rw [List.getElem?_append_right (by omega), Nat.add_sub_cancel_left]; exact e) (by omega)
theorem pair_spec (B : Box h b c) (hc : c < 100000) (q : ∀ p h' n1 m1 n2 m2, PairAt h' h.length p n1 m1 n2 m2 → Box h' b (c + 40) → Ch b h h' → Q (.ref p) h') : (m__law_pair [.ref b] h).wp Q X := by
  unfold m__law_pair
  rw [wp_fn]
  simp -implicitDefEqProofs [b__law_pair]
  refine tk B (by decide) (by decide) (by omega) fun way h1 d1 B1 C1 l1 => ?_
  have lb := B.lt
  try simp -implicitDefEqProofs
  split
  · refine tk (B1.app _) (by decide) (by decide) (by omega) fun y h2 d2 B2 C2 l2 => ?_
    have lb1 : b < h1.length := B1.lt
    have C12 : Ch b h h2 := C1.trans (((Old.app _ _).ch b).trans C2)
    have e := new_cells C2 lb1 (i := 15) rfl
    rw [o_ix (seq_lst e)]
    have fin : ∀ (i j k : Nat) (n1 m1 n2 m2 : Nat), Sizes n1 m1 → Sizes n2 m2 → h2[h1.length + i]? = some (.lst [.ref (h1.length + j), .ref (h1.length + k)]) → SizAt h2 (h1.length + j) n1 m1 → SizAt h2 (h1.length + k) n2 m2 → Q (.ref (h1.length + i)) h2 := fun i j k n1 m1 n2 m2 s1 s2 e1 e2 e3 =>
      q _ _ n1 m1 n2 m2 ⟨s1, s2, _, _, e1, e2, e3, by omega, by omega, by omega⟩ B2.mono C12
    have y5 : y = 0 ∨ y = 1 ∨ y = 2 ∨ y = 3 ∨ y = 4 := by omega
    rcases y5 with rfl | rfl | rfl | rfl | rfl
    · rw [item_nn 0 rfl]
      exact fin 2 0 1 2 4 4 2 (by constructor <;> decide) (by constructor <;> decide) (new_cells C2 lb1 rfl) (new_cells C2 lb1 (i := 0) rfl) (new_cells C2 lb1 rfl)
    · rw [item_nn 1 rfl]
      exact fin 5 3 4 1 16 2 4 (by constructor <;> decide) (by constructor <;> decide) (new_cells C2 lb1 rfl) (new_cells C2 lb1 rfl) (new_cells C2 lb1 rfl)
    · rw [item_nn 2 rfl]
      exact fin 8 6 7 24 8 12 64 (by constructor <;> decide) (by constructor <;> decide) (new_cells C2 lb1 rfl) (new_cells C2 lb1 rfl) (new_cells C2 lb1 rfl)
    · rw [item_nn 3 rfl]
      exact fin 11 9 10 6 2 1 64 (by constructor <;> decide) (by constructor <;> decide) (new_cells C2 lb1 rfl) (new_cells C2 lb1 rfl) (new_cells C2 lb1 rfl)
    · rw [item_nn 4 rfl]
      exact fin 14 12 13 4 8 2 64 (by constructor <;> decide) (by constructor <;> decide) (new_cells C2 lb1 rfl) (new_cells C2 lb1 rfl) (new_cells C2 lb1 rfl)
  · split
    · refine tk B1 (by decide) (by decide) (by omega) fun x h2 d2 B2 C2 l2 => ?_
      try simp -implicitDefEqProofs
      refine tk B2 (by decide) (by decide) (by omega) fun y h3 d3 B3 C3 l3 => ?_
      try simp -implicitDefEqProofs
      have C := (C1.trans C2).trans C3
      exact q _ _ (2 + x) (2 + y) (2 + y) (2 + x) ⟨⟨by omega, by omega, by omega, by omega⟩, ⟨by omega, by omega, by omega, by omega⟩, h3.length, h3.length + 1, at_new (i := 2) rfl, at_new (i := 0) rfl, at_new (i := 1) rfl, by omega, by omega, by omega⟩ ((B3.app _).mono) (C.app _)
    · refine sizes_spec B1 (by omega) fun z h2 n m S Z lz B2 C2 => ?_
      have lb2 := B1.lt
      have C12 := C1.trans C2
      split
      · try simp -implicitDefEqProofs
        exact q _ _ n m n m ⟨S, S, z, z, by simp, Z.old (Old.app _ _), Z.old (Old.app _ _), by have := C12.1; omega, by omega, by omega⟩ ((B2.app _).mono) (C12.app _)
      · split
        · simp -implicitDefEqProofs [siz_ix0 Z]
          refine tk B2 (by decide) (by decide) (by omega) fun x h3 d3 B3 C3 l3 => ?_
          have Z3 := Z.ch C3 (by omega)
          simp -implicitDefEqProofs [siz_ix1 Z3]
          have e : ((1 : Int) + (n + x) % 24) = ((1 + (n + x) % 24 : Nat) : Int) := by simp
          obtain ⟨s1, s2, s3, s4⟩ := S
          exact q _ _ n m (1 + (n + x) % 24) m ⟨⟨s1, s2, s3, s4⟩, ⟨by omega, by omega, s3, s4⟩, z, h3.length, by simp, Z3.old (Old.app _ _), by unfold SizAt; simp, by have := (C12.trans C3).1; omega, by omega, by have := (C12.trans C3).1; omega⟩ ((B3.app _).mono) ((C12.trans C3).app _)
        · split
          · simp -implicitDefEqProofs [siz_ix0 Z, siz_ix1 Z]
            refine tk B2 (by decide) (by decide) (by omega) fun x h3 d3 B3 C3 l3 => ?_
            try simp -implicitDefEqProofs
            have Z3 := Z.ch C3 (by omega)
            obtain ⟨s1, s2, s3, s4⟩ := S
            have e : ((2 : Int) + (m - 1 + x) % 63) = ((2 + (m - 1 + x) % 63 : Nat) : Int) := by omega
            exact q _ _ n m n (2 + (m - 1 + x) % 63) ⟨⟨s1, s2, s3, s4⟩, ⟨s1, s2, by omega, by omega⟩, z, h3.length, by simp, Z3.old (Old.app _ _), by unfold SizAt; simp; omega, by have := (C12.trans C3).1; omega, by omega, by have := (C12.trans C3).1; omega⟩ ((B3.app _).mono) ((C12.trans C3).app _)
          · refine sizes_spec B2 (by omega) fun z2 h3 n2 m2 S2 Z2 lz2 B3 C3 => ?_
            try simp -implicitDefEqProofs
            have Z3 := Z.ch C3 (by omega)
            exact q _ _ n m n2 m2 ⟨S, S2, z, z2, by simp, Z3.old (Old.app _ _), Z2.old (Old.app _ _), by have := (C12.trans C3).1; omega, by omega, by have := C12.1; omega⟩ ((B3.app _).mono) ((C12.trans C3).app _)
theorem repl_row {k v : Nat} : List.replicate k (nW v) = rowW (List.replicate k v) := by simp [rowW]
theorem fil_repl {n m v : Nat} (hv : v < m) : Fil n m (List.replicate n v) := ⟨by simp, fun x hx => by rw [(List.mem_replicate.mp hx).2]; exact hv⟩
theorem filling_spec {n m : Nat} (S : Sizes n m) (B : Box h b c) (hc : c < 200000) (q : ∀ p xs h', Fil n m xs → RowAt h' p xs → h.length ≤ p → Box h' b (c + 40) → Ch b h h' → Q (.ref p) h') : (m__law_filling [.ref b, .int n, .int m] h).wp Q X := by
  obtain ⟨n0, n1, m0, m1⟩ := S
  unfold m__law_filling
  rw [wp_fn]
  simp -implicitDefEqProofs [b__law_filling]
  refine tk B (by decide) (by decide) (by omega) fun way h1 d1 B1 C1 l1 => ?_
  have lb := B.lt
  try simp -implicitDefEqProofs
  split
  · refine item_mem (by omega) (by simp; omega) fun w hw => ?_
    obtain ⟨v, rfl, hv⟩ : ∃ v : Nat, w = .int v ∧ v < m := by
      simp at hw
      rcases hw with rfl | rfl
      · exact ⟨0, rfl, by omega⟩
      · exact ⟨m - 1, by congr 1; omega, by omega⟩
    try simp -implicitDefEqProofs
    refine rep_spec (x := nW v) (k := n) (tup_at (at_new (i := 1) rfl)) (by omega) fun p' h' O e hp => ?_
    have O1 := (Old.app h1 _).trans O
    exact q p' _ h' (fil_repl hv) (by rw [repl_row] at e; exact e) (by simp at hp; omega) ((B1.old O1).mono) (C1.trans (O1.ch b))
  · split
    · refine tk B1 (by omega) (by omega) (by omega) fun at_ h2 d2 B2 C2 l2 => ?_
      try simp -implicitDefEqProofs
      have lb2 := B2.lt
      refine rep_spec (x := nW 0) (k := at_) (tup_at (at_new (i := 0) rfl)) (by omega) fun p3 h3 O3 e3 hp3 => ?_
      have O13 := (Old.app h2 _).trans O3
      refine tk (B2.old O13) (by omega) (by omega) (by omega) fun x h4 d4 B4 C4 l4 => ?_
      have e4 : tupAt h4 p3 = some (List.replicate at_ (nW 0)) := tupAt_kp e3 C4.kp (tupAt_lt e3) (by simp at hp3; omega)
      try simp -implicitDefEqProofs
      refine cat_spec (xs := List.replicate at_ (nW 0)) (ys := [nW (1 + x)]) (tupAt_old e4 (Old.app _ _)) (tup_at (by rw [new_at]; simp [nW])) (by simp; omega) fun p5 h5 O5 e5 hp5 => ?_
      try simp -implicitDefEqProofs
      have hk : ((n : Int) - at_ - 1) = ((n - at_ - 1 : Nat) : Int) := by omega
      rw [hk]
      refine rep_spec (x := nW 0) (k := n - at_ - 1) (tup_at (at_new (i := 0) rfl)) (by omega) fun p6 h6 O6 e6 hp6 => ?_
      refine cat_spec (tupAt_old e5 ((Old.app _ _).trans O6)) e6 (by simp; omega) fun p7 h7 O7 e7 hp7 => ?_
      have O47 : Old h4 h7 := (Old.app _ _).trans (O5.trans ((Old.app _ _).trans (O6.trans O7)))
      have C17 : Ch b h h7 := C1.trans (C2.trans ((O13.ch b).trans (C4.trans (O47.ch b))))
      have lens := C4.1
      have lens2 := O13.1
      have lens3 := O5.1
      have lens4 := O6.1
      refine q p7 (List.replicate at_ 0 ++ [1 + x] ++ List.replicate (n - at_ - 1) 0) h7 ⟨by simp; omega, fun y hy => ?_⟩ ?_ ?_ ((B4.old O47).mono) C17
      · simp only [List.mem_append, List.mem_replicate, List.mem_singleton] at hy
        omega
      · unfold RowAt
        rw [e7]
        simp [rowW]
      · simp at hp3 hp5 hp6 lens3 lens4
        omega
    · try simp -implicitDefEqProofs
      refine wp_lc_n (by omega) (fun i acc h2 => ∃ xs : List Nat, acc = rowW xs ∧ xs.length = i ∧ (∀ x ∈ xs, x < m) ∧ Box h2 b (c + 1 + i) ∧ Ch b h h2 ∧ h1.length < h2.length) ⟨[], rfl, rfl, (by intro x hx; cases hx), (B1.app _).mono (by omega), C1.app _, by rw [List.length_append]; exact Nat.lt_succ_self _⟩ ?_ ?_
      · rintro i acc h2 hi e ⟨xs, rfl, lx, hx, B2, C2, ll⟩
        try simp -implicitDefEqProofs
        refine tk B2 (by omega) (by omega) (by omega) fun x h3 d3 B3 C3 l3 => ?_
        have hb1 : h1.length ≠ b := by omega
        refine ⟨C3.at e hb1, xs ++ [x], by simp [rowW], by simp [lx], fun y hy => ?_, ?_, ?_, by first | omega | (rw [List.length_set]; omega)⟩
        · rcases List.mem_append.mp hy with z | z
          · exact hx y z
          · rw [List.mem_singleton.mp z]; omega
        · refine (B3.set _ hb1).mono ?_
          omega
        · exact ((C2.trans C3).kp.set _ (.inl (by omega))).ch
      · rintro acc h2 e ⟨xs, rfl, lx, hx, B2, C2, ll⟩
        rw [o_tuple (lst_at e)]
        try simp -implicitDefEqProofs
        exact q _ xs _ ⟨lx, hx⟩ (tup_at (new_at _ _)) (by omega) ((B2.app _).mono) (C2.app _)
end
end K01
set_option Elab.async false
set_option autoImplicit false
set_option linter.all false
set_option maxRecDepth 100000
namespace K01
open Mini Lb
open PySem (Str PyData)
section
variable {h : MH} {b : Nat} {c : Int} {Q : W → MH → Prop} {X : XQ}
/-! what is asked of the program, under this law's names -/
theorem num_ {base p : Nat} {xs : List Nat} (hb : base ≤ 1000000000) (R : RowAt h p xs) (q : Q (.int (numOf base xs : Nat)) h) : (m__law_number [.ref p, .int base] h).wp Q X := by
  obtain ⟨cl, e, hs⟩ := seq_cell R.seq
  exact number_spec hb e hs q
theorem whole_int {i : Int} (q : Q (.bl true) h) : (m__law_whole [.int i] h).wp Q X := whole_spec rfl q
section
variable {d n m : Nat} (S : Sizes n m) (D : DiskAt h d 4 n m)
include S D
theorem numberof {p : Nat} {xs : List Nat} (F : Fil n m xs) (R : RowAt h p xs) (q : ∀ h', Old h h' → Q (.int (numOf m xs : Nat)) h') : (m_number_of [.ref d, .ref p] h).wp Q X := number_of_spec (okB := okD) (okC := okD) (eF := 2) D S.n1 S.m1 rfl rfl F R q
theorem fillingat {k : Nat} (hk : k < m ^ n) (q : ∀ p h', h.length ≤ p → Old h h' → RowAt h' p (figs m n k) → Q (.ref p) h') : (m_filling_at [.ref d, .int k] h).wp Q X :=
  filling_at_spec (okB := okD) (okC := okD) (eN := 3) D S.n1 (by have := S.m0; omega) S.m1 rfl rfl hk fun p h' l O e => q p h' l O (tup_at e)
theorem count_ (q : Q (.int ((m ^ n : Nat) : Int)) h) : (m_count [.ref d] h).wp Q X := count_spec (okB := okD) (okC := okD) D S.n1 S.m1 rfl rfl q
theorem isfilling {p : Nat} {xs : List Nat} (F : Fil n m xs) (R : RowAt h p xs) (q : ∀ h', Old h h' → Q (.bl true) h') : (m_is_filling [.ref d, .ref p] h).wp Q X :=
  is_filling_spec (okB := okD) (okC := okD) D rfl rfl (R.items (by have := F.len; have := S.n1; omega)) fun h' O => by rw [F.con R]; exact q h' O
end
theorem known_tup {p : Nat} {ws : List W} (e : tupAt h p = some ws) (t : Ty) : gIsi t (.ref p) h = .ok (.bl (decide (t = .tTuple))) h := by
  rw [isi_ref _ (tup_known e)]
  unfold tupAt at e
  unfold kindOf
  simp only []
  cases e1 : h[p]? with
  | none => rw [e1] at e; cases e
  | some cl => rw [e1] at e; cases cl <;> first | (cases t <;> rfl) | (cases e; done)
/-- the slots of _law_numbers_right -/
def nE (b d z f n m first : Nat) (us : List (Option W)) : Env := some (.ref b) :: some (.ref d) :: some (.ref z) :: some (.ref f) :: some (.int n) :: some (.int m) :: some (.int first) :: us
structure NumI (h0 : MH) (b d z f n m first : Nat) (r : Env) (h : MH) : Prop where
  ex : ∃ (u7 u8 u9 u10 u11 u12 u13 u14 u15 u16 : Option W), r = nE b d z f n m first [u7, u8, u9, u10, u11, u12, u13, u14, u15, u16]
  old : Old h0 h
structure NumJ (h0 : MH) (b d z f n m first i p N : Nat) (r : Env) (h : MH) : Prop where
  ex : ∃ (u10 u11 u12 u13 u14 u15 u16 : Option W), r = nE b d z f n m first [some (.int i), some (.ref p), some (.int N), u10, u11, u12, u13, u14, u15, u16]
  old : Old h0 h
structure NumK (h0 : MH) (b d z f n m first i p N : Nat) (zs : List Nat) (r : Env) (h : MH) : Prop where
  ex : ∃ (p3 : Nat) (u11 u12 u13 u14 u15 u16 : Option W), r = nE b d z f n m first [some (.int i), some (.ref p), some (.int N), some (.ref p3), u11, u12, u13, u14, u15, u16] ∧ RowAt h p3 zs
  old : Old h0 h
theorem fm_none (xs : List W) : xs.filterMap (fun _ => (none : Option W)) = [] := by
  induction xs with
  | nil => rfl
  | cons x xs ih => rw [List.filterMap_cons]; exact ih
theorem is_true {x : Bool} (hx : x = true) : gIsNot (.bl x) (.bl true) h = .ok (.bl false) h := by subst hx; rfl
theorem numbers_spec {d z f p1 p2 n m : Nat} {xs ys : List Nat} (S : Sizes n m) (B : Box h b c) (hc : c < 200000) (D : DiskAt h d 4 n m) (Z : SizAt h z n m) (F : h[f]? = some (.lst [.ref p1, .ref p2])) (R1 : RowAt h p1 xs) (R2 : RowAt h p2 ys) (F1 : Fil n m xs) (F2 : Fil n m ys)
    (hd : d ≠ b) (hz : z ≠ b) (hf : f ≠ b) (h1 : p1 ≠ b) (h2 : p2 ≠ b) (q : ∀ h', Box h' b (c + 5) → Ch b h h' → Q (.bl true) h') : (m__law_numbers_right [.ref b, .ref d, .ref z, .ref f] h).wp Q X := by
  have mp : 0 < m := by have := S.m0; omega
  unfold m__law_numbers_right
  rw [wp_fn]
  unfold b__law_numbers_right
  rw [sSeq_assoc, sSeq_assoc]
  refine ws_cut (fun r k => ∃ (first : Nat) (h1' : MH), Box h1' b (c + 1) ∧ Ch b h h1' ∧ NumI h1' b d z f n m first r k) ?_ ?_
  simp -implicitDefEqProofs [o_unseq (seq_tup Z), ws_seq]
  refine tk B (by decide) (by decide) (by omega) fun first h1' d1 B1 C1 l1 => ?_
  have D1 := D.kp C1.kp (lt_of_at D) hd
  have FF := C1.at F hf
  have R11 := R1.kp C1.kp R1.lt h1
  have R21 := R2.kp C1.kp R2.lt h2
  rw [ws_for, o_rng1]
  simp -implicitDefEqProofs only [eC, wp_ok]
  refine ⟨by decide, ?_⟩
  refine ws_rng (n := 4) (fun i r h => NumI h1' b d z f n m first r h) ⟨⟨_, _, _, _, _, _, _, _, _, _, rfl⟩, Old.refl _⟩ ?_ ?_
  · rintro i r k hi ⟨⟨u7, u8, u9, u10, u11, u12, u13, u14, u15, u16, rfl⟩, O⟩
    have pick : ∃ p zs, itemAt [W.ref p1, .ref p2] ((i : Int) % 2) = (fun P => P (.ref p)) ∧ RowAt h1' p zs ∧ Fil n m zs := by
      have : i % 2 = 0 ∨ i % 2 = 1 := by omega
      rcases this with e | e
      · exact ⟨p1, xs, by funext P; rw [show (i : Int) % 2 = 0 by omega, item0], R11, F1⟩
      · exact ⟨p2, ys, by funext P; rw [show (i : Int) % 2 = 1 by omega, item1], R21, F2⟩
    obtain ⟨p, zs, ei, R, Fz⟩ := pick
    have lt := num_lt mp n zs Fz.len Fz.lt
    simp -implicitDefEqProofs only [gSet, wp_ok, Int.zero_add]
    rw [sSeq_assoc, sSeq_assoc]
    refine ws_cut (NumJ h1' b d z f n m first i p (numOf m zs)) ?_ ?_
    · simp -implicitDefEqProofs [nE, o_ix (seq_lst (O.at FF)), ei]
      refine num_ (by have := S.m1; omega) (R.old O) ?_
      split
      · refine numberof S (D1.old O) Fz (R.old O) fun k2 O2 => ?_
        refine whole_int ?_
        simp -implicitDefEqProofs
        exact ⟨⟨_, _, _, _, _, _, _, rfl⟩, O.trans O2⟩
      · exact ⟨⟨_, _, _, _, _, _, _, rfl⟩, O⟩
    · rintro r1 k1 ⟨⟨v10, v11, v12, v13, v14, v15, v16, rfl⟩, O1⟩
      refine ws_cut (NumK h1' b d z f n m first i p (numOf m zs) zs) ?_ ?_
      · have go : (m_filling_at [.ref d, .int (numOf m zs)] k1).wp (fun w k3 => NumK h1' b d z f n m first i p (numOf m zs) zs (nE b d z f n m first [some (.int i), some (.ref p), some (.int (numOf m zs)), some w, v11, v12, v13, v14, v15, v16]) k3) X := fillingat S (D1.old O1) lt fun p3 k3 _ O3 R3 => ⟨⟨p3, _, _, _, _, _, _, rfl, by rw [figs_num mp n zs Fz.len Fz.lt] at R3; exact R3⟩, O1.trans O3⟩
        simp -implicitDefEqProofs [nE]
        split
        · exact go
        · exact go
      · rintro r2 k2 ⟨⟨p3, w11, w12, w13, w14, w15, w16, rfl, R3⟩, O2⟩
        simp -implicitDefEqProofs [nE, known_tup R3, ne_rows R3 (R.old O2)]
        obtain ⟨cl, ec, hs⟩ := seq_cell R3.seq
        refine wp_lc_fm ec hs (by simp; have := Fz.len; have := S.n1; omega) (fun _ => none) (fun x hx k3 O3 => ?_) fun k3 O3 e3 => ?_
        · obtain ⟨y, _, rfl⟩ := List.mem_map.mp hx
          simp -implicitDefEqProofs
          refine whole_int ?_
          simp -implicitDefEqProofs
          exact Old.refl _
        · rw [fm_none] at e3
          have e4 : (k3 ++ [Cell.lst []])[k2.length]? = some (.lst []) := by
            have := app_at e3 [Cell.lst []]
            simpa using this
          rw [ne_nils (lst_at e4) (lst_at (new_at k3 _))]
          simp -implicitDefEqProofs
          have O4 := O2.trans (O3.trans (Old.app k3 [Cell.lst []]))
          refine isfilling S (D1.old O4) Fz (R.old O4) fun k5 O5 => ?_
          simp -implicitDefEqProofs
          refine isfilling (p := p3) S (D1.old (O4.trans O5)) Fz (R3.old (O3.trans ((Old.app k3 [Cell.lst []]).trans O5))) fun k6 O6 => ?_
          simp -implicitDefEqProofs
          refine numberof (p := p) S (D1.old ((O4.trans O5).trans O6)) Fz (R.old ((O4.trans O5).trans O6)) fun k7 O7 => ?_
          simp -implicitDefEqProofs
          exact ⟨⟨_, _, _, _, _, _, _, _, _, _, rfl⟩, ((O4.trans O5).trans O6).trans O7⟩
  · rintro r k N
    exact ⟨rfl, first, h1', B1, C1, N⟩
  rintro r k ⟨first, h1', B1, C1, ⟨⟨u7, u8, u9, u10, u11, u12, u13, u14, u15, u16, rfl⟩, O⟩⟩
  have D1 := D.kp C1.kp (lt_of_at D) hd
  have FF := C1.at F hf
  have R11 := R1.kp C1.kp R1.lt h1
  have R21 := R2.kp C1.kp R2.lt h2
  have l12 : xs.length = ys.length := F1.len.trans F2.len.symm
  rw [sSeq_assoc, sSeq_assoc, sSeq_assoc]
  refine ws_cut (fun r k => ∃ u16 : Option W, Old h1' k ∧ r = nE b d z f n m first [u7, u8, u9, u10, u11, u12, some (.ref p1), some (.ref p2), some (.int ((m ^ n : Nat) : Int)), u16]) ?_ ?_
  · simp -implicitDefEqProofs [nE, o_unseq (seq_lst (O.at FF)), ws_seq, lt_rows (R11.old O) (R21.old O), rowLt_num mp l12 F1.lt F2.lt]
    refine numberof S (D1.old O) F1 (R11.old O) fun k2 O2 => ?_
    refine numberof (p := p2) S (D1.old (O.trans O2)) F2 (R21.old (O.trans O2)) fun k3 O3 => ?_
    simp -implicitDefEqProofs
    have O03 := (O.trans O2).trans O3
    rw [ws_for, o_rng1]
    simp -implicitDefEqProofs [rOkN (show n ≤ 1000000000000 by have := S.n1; omega)]
    refine ws_rng (fun i r k => ∃ u16 : Option W, k = k3 ∧ r = nE b d z f n m first [u7, u8, u9, u10, u11, u12, some (.ref p1), some (.ref p2), some (.int ((m ^ i : Nat) : Int)), u16]) ⟨u16, rfl, rfl⟩ ?_ ?_
    · rintro i r k hi ⟨u, rfl, rfl⟩
      simp -implicitDefEqProofs [nE]
      exact ⟨mul_ok2 (small64 (by omega) (by have := S.m1; omega)), by simp [Int.pow_succ]⟩
    · rintro r k ⟨u, rfl, rfl⟩
      first | exact ⟨rfl, u, O03, rfl⟩ | exact ⟨rfl, O03, u, rfl⟩
  rintro r k ⟨u, O03, rfl⟩
  have cnt : ∀ {Q' : W → MH → Prop} {X' : XQ}, Q' (.int ((m ^ n : Nat) : Int)) k → (m_count [.ref d] k).wp Q' X' := fun q => count_ S (D1.old O03) q
  have top : m ^ n - 1 < m ^ n := by have : 0 < m ^ n := Nat.pow_pos mp; omega
  refine ws_cut (fun r1 k1 => k1 = k ∧ r1 = nE b d z f n m first [u7, u8, u9, u10, some (.int ((m ^ n : Nat) : Int)), u12, some (.ref p1), some (.ref p2), some (.int ((m ^ n : Nat) : Int)), u]) ?_ ?_
  · simp -implicitDefEqProofs [nE]
    split
    · exact cnt (by simp)
    · exact cnt (by simp)
  rintro r1 k1 ⟨rfl, rfl⟩
  have e1 : ((m : Int) ^ n - 1) = ((m ^ n - 1 : Nat) : Int) := by
    have : ((m ^ n : Nat) : Int) = (m : Int) ^ n := by simp
    have : 0 < m ^ n := Nat.pow_pos mp
    omega
  have e2 : ((m : Int) - 1) = ((m - 1 : Nat) : Int) := by omega
  simp -implicitDefEqProofs [nE, ws_seq, e1, e2]
  refine whole_int ?_
  simp -implicitDefEqProofs
  refine fillingat S (D1.old O03) top fun p4 k4 _ O4 R4 => ?_
  rw [figs_top mp] at R4
  try simp -implicitDefEqProofs
  refine rep_spec (x := nW (m - 1)) (tup_at (new_at k4 _)) (by have := S.n1; omega) fun p5 k5 O5 R5 hp5 => ?_
  rw [eq_rows (R4.old ((Old.app _ _).trans O5)) (by unfold RowAt; rw [R5, repl_row])]
  simp -implicitDefEqProofs
  have O05 := O4.trans ((Old.app k4 [Cell.tup [nW (m - 1)]]).trans O5)
  refine fillingat (k := 0) S (D1.old (O03.trans O05)) (by omega) fun p6 k6 _ O6 R6 => ?_
  rw [figs_zero mp] at R6
  try simp -implicitDefEqProofs
  refine rep_spec (x := nW 0) (tup_at (new_at k6 _)) (by have := S.n1; omega) fun p7 k7 O7 R7 hp7 => ?_
  rw [eq_rows (R6.old ((Old.app _ _).trans O7)) (by unfold RowAt; rw [R7, repl_row])]
  simp -implicitDefEqProofs
  have O07 := O03.trans (O05.trans (O6.trans ((Old.app k6 [Cell.tup [nW 0]]).trans O7)))
  exact q k7 ((B1.old O07).mono) (C1.trans (O07.ch b))
end
end K01
set_option Elab.async false
set_option autoImplicit false
set_option linter.all false
set_option maxRecDepth 100000
namespace K01
open Mini Lb
open PySem (Str PyData)
section
variable {h : MH} {b : Nat} {c : Int} {Q : W → MH → Prop} {X : XQ} {d n m : Nat} {w : W}
/-- what is told of a refusal or of none -/
theorem xf_new {ok : Nat → Bool} {f : Str} {e : Nat} {h1 : MH} (hk : ok e = true) : xfOf ok f (.ref (h1.length + 1)) (h1 ++ [.xd [(f, w)], .exo e (some h1.length)]) = .ok w (h1 ++ [.xd [(f, w)], .exo e (some h1.length)]) :=
  o_xf (d := h1.length) (c := e) (fs := [(f, w)]) (at_new (i := 1) rfl) (at_new (i := 0) rfl) hk (by simp [List.lookup])
section
variable (S : Sizes n m) (D : DiskAt h d 4 n m)
include S D
theorem refusal_fill {kind : Nat} (hk : kind < 2) (I : Items h w) (f : isCon h w n m = false) (q : ∀ t h', h.length ≤ t → Old h h' → h'[t]? = some (.lst [.str "filling", w]) → Q (.ref t) h') : (m__law_refusal [.int kind, .ref d, w] h).wp Q X := by
  have go : ∀ {Q' : W → MH → Prop} {X' : XQ}, (∀ h', Old h h' → X' 2 (some h'.length) (h' ++ [.xd [("given", w)]])) → (m_number_of [.ref d, w] h).wp Q' X' := fun q => number_of_bad (okB := okD) (okC := okD) (eF := 2) D rfl rfl I f q
  unfold m__law_refusal
  rw [wp_fn]
  have k2 : kind = 0 ∨ kind = 1 := by omega
  rcases k2 with rfl | rfl
  · simp -implicitDefEqProofs [b__law_refusal]
    refine go fun h' O => ?_
    simp -implicitDefEqProofs
    rw [xf_new rfl]
    simp -implicitDefEqProofs
    exact q _ _ (by have := O.1; omega) (O.trans (Old.app _ _)) (at_new (i := 2) rfl)
  · simp -implicitDefEqProofs [b__law_refusal]
    refine go fun h' O => ?_
    simp -implicitDefEqProofs
    rw [xf_new rfl]
    simp -implicitDefEqProofs
    exact q _ _ (by have := O.1; omega) (O.trans (Old.app _ _)) (at_new (i := 2) rfl)
theorem refusal_num {kind : Nat} (hk : kind = 2 ∨ kind = 3) (k : known w h = true) (f : btw w 0 ((m ^ n : Nat) - 1 : Int) = false) (q : ∀ t h', h.length ≤ t → Old h h' → h'[t]? = some (.lst [.str "number", w]) → Q (.ref t) h') : (m__law_refusal [.int kind, .ref d, w] h).wp Q X := by
  have go : ∀ {Q' : W → MH → Prop} {X' : XQ}, X' 3 (some h.length) (h ++ [.xd [("given", w)]]) → (m_filling_at [.ref d, w] h).wp Q' X' := fun q => filling_at_bad (okB := okD) (okC := okD) (eN := 3) D S.n1 S.m1 rfl rfl k f q
  unfold m__law_refusal
  rw [wp_fn]
  rcases hk with rfl | rfl
  · simp -implicitDefEqProofs [b__law_refusal]
    refine go ?_
    simp -implicitDefEqProofs
    rw [xf_new rfl]
    simp -implicitDefEqProofs
    exact q _ _ (by omega) (Old.app _ _) (at_new (i := 2) rfl)
  · simp -implicitDefEqProofs [b__law_refusal]
    refine go ?_
    simp -implicitDefEqProofs
    rw [xf_new rfl]
    simp -implicitDefEqProofs
    exact q _ _ (by omega) (Old.app _ _) (at_new (i := 2) rfl)
theorem refusal_let0 {p : Nat} {xs : List Nat} (F : Fil n m xs) (R : RowAt h p xs) (q : ∀ t h', h.length ≤ t → Old h h' → h'[t]? = some (.lst [.str "let", .non]) → Q (.ref t) h') : (m__law_refusal [.int 0, .ref d, .ref p] h).wp Q X := by
  unfold m__law_refusal
  rw [wp_fn]
  simp -implicitDefEqProofs [b__law_refusal]
  refine numberof S D F R fun h' O => ?_
  try simp -implicitDefEqProofs
  exact q _ _ O.1 (O.trans (Old.app _ _)) (new_at _ _)
theorem refusal_let2 {k : Nat} (hk : k < m ^ n) (q : ∀ t h', h.length ≤ t → Old h h' → h'[t]? = some (.lst [.str "let", .non]) → Q (.ref t) h') : (m__law_refusal [.int 2, .ref d, .int k] h).wp Q X := by
  unfold m__law_refusal
  rw [wp_fn]
  simp -implicitDefEqProofs [b__law_refusal]
  refine fillingat S D hk fun p h' _ O _ => ?_
  try simp -implicitDefEqProofs
  exact q _ _ O.1 (O.trans (Old.app _ _)) (new_at _ _)
theorem error_bad (I : Items h w) (f : isCon h w n m = false) (q : ∀ t h', h.length ≤ t → Old h h' → h'[t + 1]? = some (.exo 2 (some t)) → h'[t]? = some (.xd [("given", w)]) → Q (.ref (t + 1)) h') : (m__law_error [.ref d, w] h).wp Q X := by
  have go : ∀ {Q' : W → MH → Prop} {X' : XQ}, (∀ h', Old h h' → X' 2 (some h'.length) (h' ++ [.xd [("given", w)]])) → (m_number_of [.ref d, w] h).wp Q' X' := fun q => number_of_bad (okB := okD) (okC := okD) (eF := 2) D rfl rfl I f q
  unfold m__law_error
  rw [wp_fn]
  simp -implicitDefEqProofs [b__law_error]
  refine go fun h' O => ?_
  simp -implicitDefEqProofs
  exact q _ _ O.1 (O.trans (Old.app _ _)) (at_new (i := 1) rfl) (at_new (i := 0) rfl)
end
/-! ### the passed value told again: the same text -/
/-- a value that may be passed and told again; what is told of it stands below its own cell, which is at lo or behind -/
inductive Odd (lo b : Nat) (h : MH) : W → Prop where
  | dat {w : W} {d : PyData} {k : Nat} (hk : k ≤ h.length) (q : Den k b h w d) (N : Nic 8 1000000 d) (nl : ∀ ds, d ≠ .list ds) : Odd lo b h w
  | lst {p : Nat} {xs : List W} {ds : List PyData} (hp : lo ≤ p) (hb : p ≠ b) (e : h[p]? = some (.lst xs)) (q : DenA p b h xs ds) (N : ∀ d ∈ ds, Nic 7 100000 d) (hl : xs.length ≤ 90) : Odd lo b h (.ref p)
  | dic {p : Nat} (hp : lo ≤ p) (hb : p ≠ b) (e : h[p]? = some (.dic [])) : Odd lo b h (.ref p)
theorem Odd.up {lo : Nat} {h' : MH} (O : Odd lo b h w) (C : Kp h.length b h h') : Odd lo b h' w := by
  cases O with
  | dat hk q N nl => exact .dat (by have := C.le; omega) (q.keep (C.low hk) (Nat.le_refl _)) N nl
  | lst hp hb e q N hl => exact .lst hp hb ((C.eq _ (lt_of_at e) hb).trans e) (q.keep (C.low (by have := lt_of_at e; omega)) (Nat.le_refl _)) N hl
  | dic hp hb e => exact .dic hp hb ((C.eq _ (lt_of_at e) hb).trans e)
theorem den_kind {k : Nat} {d : PyData} (q : Den k b h w d) : known w h = true ∧ (∀ t, gIsi t w h = .ok (.bl (isTy (kindOf w h) t)) h) ∧ ((∃ ds, d = .list ds) ∨ isTy (kindOf w h) .tList = false) ∧ isTy (kindOf w h) .tDict = false := by
  have kn : known w h = true := by
    cases q with
    | @lst p xs ds hp hb e q =>
      unfold lstAt at e
      unfold Mini.known
      simp only []
      cases e1 : h[p]? with
      | none => rw [e1] at e; cases e
      | some c => rw [e1] at e; cases c <;> first | rfl | (cases e; done)
    | tup hp hb e q => exact tup_known e
    | _ => rfl
  refine ⟨kn, fun t => by unfold gIsi; rw [if_pos kn], ?_, ?_⟩
  · cases q with
    | lst hp hb e q => exact .inl ⟨_, rfl⟩
    | @tup p xs ds hp hb e q =>
      refine .inr ?_
      unfold tupAt at e
      unfold kindOf
      simp only []
      cases e1 : h[p]? with
      | none => rw [e1] at e; cases e
      | some c => rw [e1] at e; cases c <;> first | rfl | (cases e; done)
    | _ => exact .inr rfl
  · cases q with
    | @lst p xs ds hp hb e q =>
      unfold lstAt at e
      unfold kindOf
      simp only []
      cases e1 : h[p]? with
      | none => rw [e1] at e; cases e
      | some c => rw [e1] at e; cases c <;> first | rfl | (cases e; done)
    | @tup p xs ds hp hb e q =>
      unfold tupAt at e
      unfold kindOf
      simp only []
      cases e1 : h[p]? with
      | none => rw [e1] at e; cases e
      | some c => rw [e1] at e; cases c <;> first | rfl | (cases e; done)
    | _ => rfl
theorem same_spec {lo t : Nat} {s : Str} (O : Odd lo b h w) (et : h[t]? = some (.lst [.str s, w])) (ht : ∀ p, w = .ref p → p < t) (q : ∀ h', Kp lo b h h' → (∀ c, Box h b c → Box h' b c) → Q (.bl true) h') : (m__law_same [.ref t, .str s, w] h).wp Q X := by
  unfold m__law_same
  rw [wp_fn]
  cases O with
  | @dat w d k hk qd N nl =>
    obtain ⟨k1, k2, k3, k4⟩ := den_kind qd
    have k3' : isTy (kindOf w h) .tList = false := k3.resolve_left fun ⟨ds, e⟩ => nl ds e
    have e := repr_den qd N (by omega) (by omega)
    simp -implicitDefEqProofs [b__law_same, k2, k3', k4, o_ix (seq_lst et), e]
    exact q h (Kp.refl _ _ _) fun _ B => B
  | @lst p xs ds hp hb e qd N hl =>
    have pt := ht p rfl
    have la : isTy (kindOf (.ref p) h) .tList = true ∧ isTy (kindOf (.ref p) h) .tDict = false := by unfold kindOf; simp only [e]; exact ⟨rfl, rfl⟩
    have kn : known (.ref p) h = true := by unfold Mini.known; simp only [e]
    have k2 : gIsi .tList (.ref p) h = .ok (.bl true) h := by unfold gIsi; rw [if_pos kn, la.1]
    have e2 : (h.set p (.lst (xs ++ [.str "more"])))[p]? = some (.lst (xs ++ [.str "more"])) := set_at e
    have k3 : gIsi .tDict (.ref p) (h.set p (.lst (xs ++ [.str "more"]))) = .ok (.bl false) (h.set p (.lst (xs ++ [.str "more"]))) := k_lst _ e2
    have ap : app (.ref p) (.str "more") h = .ok .non (h.set p (.lst (xs ++ [.str "more"]))) := by
      unfold app
      simp only [e]
      rw [if_pos (by omega)]
    have et2 : (h.set p (.lst (xs ++ [.str "more"])))[t]? = some (.lst [.str s, .ref p]) := by rw [List.getElem?_set_ne (by omega)]; exact et
    have C : Kp p b h (h.set p (.lst (xs ++ [.str "more"]))) := (Kp.refl p b h).set _ (.inl (Nat.le_refl _))
    have D2 : Den (p + 1) b (h.set p (.lst (xs ++ [.str "more"]))) (.ref p) (.list (ds ++ [.str "more"])) := by
      refine .lst (by omega) hb (lst_at e2) ?_
      have z := (qd.keep C (Nat.le_refl _)).up (m := p + 1) (by omega)
      exact z.snoc (.str _)
    have dl : ds.length ≤ 90 := by rw [← qd.len]; exact hl
    have N2 : Nic 8 10000000 (.list (ds ++ [.str "more"])) := by
      refine (nic_list (k := 7) (s := 100000) (fun d hd => ?_)).mono (by omega) (by simp; omega)
      rcases List.mem_append.mp hd with z | z
      · exact N d z
      · rw [(List.mem_singleton.mp z)]
        exact ⟨by decide +kernel, by decide, by decide +kernel, by decide +kernel⟩
    have er := repr_den D2 N2 (by omega) (by omega)
    simp -implicitDefEqProofs [b__law_same, k2, eApp, isLst_at e, ap, k3, o_ix (seq_lst et2), er]
    exact q _ (C.low hp) fun c B => B.set _ hb
  | @dic p hp hb e =>
    have pt := ht p rfl
    have kn : known (.ref p) h = true := by unfold Mini.known; simp only [e]
    have k2 : gIsi .tList (.ref p) h = .ok (.bl false) h := k_dic _ e
    have k3 : gIsi .tDict (.ref p) h = .ok (.bl true) h := k_dic _ e
    have dp : dput (.int 1) (.ref p) (.str "more") h = .ok () (h.set p (.dic [(.inr "more", .int 1)])) := by
      unfold dput
      simp only [e]
      rfl
    have et2 : (h.set p (.dic [(.inr "more", .int 1)]))[t]? = some (.lst [.str s, .ref p]) := by rw [List.getElem?_set_ne (by omega)]; exact et
    have er : fRepr [.ref p] (h.set p (.dic [(.inr "more", .int 1)])) = .ok (.str (PyData.dict [(.str "more", .int 1)]).shown) (h.set p (.dic [(.inr "more", .int 1)])) := by
      unfold fRepr
      have : dataR (h.set p (.dic [(.inr "more", .int 1)])) (.ref p) = some (.dict [(.str "more", .int 1)]) := by
        unfold dataR dicAt
        simp only [set_at e]
        rfl
      simp only [this]
      rw [if_pos ⟨by decide +kernel, by decide +kernel, by decide +kernel⟩]
    simp -implicitDefEqProofs [b__law_same, k2, k3, dp, o_ix (seq_lst et2), er]
    exact q _ ((Kp.refl lo b h).set _ (.inl hp)) fun c B => B.set _ hb
end
end K01
set_option Elab.async false
set_option autoImplicit false
set_option linter.all false
set_option maxRecDepth 100000
namespace K01
open Mini Lb
open PySem (Str PyData)
section
variable {h : MH} {b : Nat} {c : Int} {Q : W → MH → Prop} {X : XQ} {d n m : Nat} {w : W}
def rowD (xs : List Nat) : List PyData := xs.map fun (x : Nat) => .int (x : Int)
theorem denA_row {k : Nat} : ∀ {xs : List Nat}, DenA k b h (rowW xs) (rowD xs)
  | [] => .nil
  | x :: xs => .cons (.int _) denA_row
theorem nic_row {m : Nat} (hm : m ≤ 1000) {xs : List Nat} (hx : ∀ x ∈ xs, x < m) : ∀ d ∈ rowD xs, Nic 7 9000 d := fun d hd => by
  obtain ⟨x, hx', rfl⟩ := List.mem_map.mp hd
  have := hx x hx'
  exact (nic_int (by rw [Int.natAbs_natCast]; exact Nat.lt_of_lt_of_le (by omega : x < 2 ^ 10) (Nat.pow_le_pow_right (by decide) (by decide)))).mono (by omega) (by omega)
theorem odd_tup {lo k p : Nat} {ws : List W} {ds : List PyData} (e : tupAt h p = some ws) (hp : p < k) (hk : k ≤ h.length) (hb : p ≠ b) (q : DenA k b h ws ds) (N : ∀ d ∈ ds, Nic 7 9000 d) (hl : ws.length ≤ 60) : Odd lo b h (.ref p) := by
  have := q.len
  exact .dat hk (.tup hp hb e q) ((nic_tuple N).mono (by omega) (by rw [← this]; have : ws.length * 9002 ≤ 60 * 9002 := Nat.mul_le_mul_right _ hl; omega)) fun _ z => nomatch z
theorem items_tup {p : Nat} {ws : List W} (e : tupAt h p = some ws) (hl : ws.length ≤ 60) (hk : ∀ x ∈ ws, known x h = true) : Items h (.ref p) := ⟨tup_known e, fun xs ex => by
  have : xs = ws := Option.some.inj (ex.symm.trans e)
  subst this
  exact ⟨by omega, hk⟩⟩
theorem con_tup {p : Nat} {ws : List W} {n m : Nat} (e : tupAt h p = some ws) (hf : ws.length ≠ n ∨ ∃ x ∈ ws, btw x 0 (m - 1) = false) : isCon h (.ref p) n m = false := by
  unfold isCon tupOf
  simp only [e]
  rcases hf with z | ⟨x, hx, z⟩
  · have : decide ((ws.length : Int) = n) = false := decide_eq_false (by omega)
    rw [this]; rfl
  · have : (ws.all fun x => btw x 0 (m - 1)) = false := List.all_eq_false.mpr ⟨x, hx, by rw [z]; exact Bool.false_ne_true⟩
    rw [this, Bool.and_false]
theorem known_row {xs : List Nat} : ∀ x ∈ rowW xs, known x h = true := fun x hx => by
  obtain ⟨y, _, rfl⟩ := List.mem_map.mp hx
  rfl
theorem nic_small {i : Int} (h0 : -1000000000000 ≤ i) (h1 : i ≤ 1000000000000) : Nic 7 9000 (.int i) :=
  (nic_int (Nat.lt_of_lt_of_le (by omega : i.natAbs < 2 ^ 60) (Nat.pow_le_pow_right (by decide) (by decide)))).mono (by omega) (by omega)
theorem cut_take {xs : List W} {a : Nat} (ha : a < xs.length) : cut xs none (some (a : Int)) = xs.take a := by
  unfold cut sIx
  simp only [Nat.sub_zero, List.drop_zero]
  rw [if_neg (by omega)]
  congr 1
  omega
theorem cut_drop {xs : List W} {a : Nat} (ha : a ≤ xs.length) : cut xs (some (a : Int)) none = xs.drop a := by
  unfold cut sIx
  simp only []
  rw [if_neg (by omega)]
  rw [show min ((a : Int)).toNat xs.length = a by omega]
  rw [List.take_of_length_le (by rw [List.length_drop]; omega)]
theorem row_take {xs : List Nat} {a : Nat} : (rowW xs).take a = rowW (xs.take a) := by unfold rowW; rw [List.map_take]
theorem row_drop {xs : List Nat} {a : Nat} : (rowW xs).drop a = rowW (xs.drop a) := by unfold rowW; rw [List.map_drop]
theorem con_non {n m : Int} (e : tupOf h w = none) : isCon h w n m = false := by unfold isCon; simp only [e]
theorem items_non (k : known w h = true) (e : tupOf h w = none) : Items h w := ⟨k, fun xs ex => by rw [e] at ex; cases ex⟩
theorem lst_known {p : Nat} {ws : List W} (e : h[p]? = some (.lst ws)) : known (.ref p) h = true ∧ tupOf h (.ref p) = none := by
  unfold Mini.known tupOf tupAt
  simp only [e]
  exact ⟨trivial, trivial⟩
theorem dic_known {p : Nat} {kvs : List (Sum Int Str × W)} (e : h[p]? = some (.dic kvs)) : known (.ref p) h = true ∧ tupOf h (.ref p) = none := by
  unfold Mini.known tupOf tupAt
  simp only [e]
  exact ⟨trivial, trivial⟩
/-- a content that is none -/
structure OddC (h : MH) (b m : Nat) (w : W) : Prop where
  kn : known w h = true
  no : btw w 0 (m - 1) = false
  dn : ∃ d k, k ≤ h.length ∧ Den k b h w d ∧ Nic 7 9000 d
theorem OddC.old {h' : MH} (O : OddC h b m w) (k : Old h h') : OddC h' b m w := ⟨known_old k O.kn, O.no, by
  obtain ⟨d, j, hj, q, N⟩ := O.dn
  exact ⟨d, j, Nat.le_trans hj k.1, q.keep ((k.kp b).low hj) (Nat.le_refl _), N⟩⟩
theorem wrong_spec {way at_ p more : Nat} {xs : List Nat} (S : Sizes n m) (hw : way < 22) (ha : at_ < n) (hm : more ≤ 1000) (F : Fil n m xs) (R : RowAt h p xs) (hb : p ≠ b) (lb : b < h.length)
    (q : ∀ w h', Old h h' → Items h' w → isCon h' w n m = false → Odd h.length b h' w → Q w h') : (m__law_wrong [.int way, .int at_, .ref p, .int m, .int more] h).wp Q X := by
  have n1 := S.n1
  have m1 := S.m1
  have m0 := S.m0
  have fl := F.len
  have rl : (rowW xs).length = n := by rw [List.length_map]; exact fl
  have pl := R.lt
  unfold m__law_wrong
  rw [wp_fn]
  unfold b__law_wrong
  by_cases c9 : way < 9
  · rw [ws_seq]
    have c9' : (way : Int) < 9 := by omega
    simp -implicitDefEqProofs [c9', ws_seq]
    rw [o_ix R.seq, item_nn (w := nW xs[at_]) at_ (by simp [rowW, fl, ha])]
    refine item_mem (by omega) (by simp; omega) fun w hw => ?_
    have oc : OddC (h ++ [Cell.tup [nW xs[at_]], Cell.lst [.int m, .int (-1), .int (m + more), .int (-1 - more), .bl true, .bl false, .non, .str "0", .ref h.length]]) b m w := by
      have ft : xs[at_] < m := F.lt _ (List.getElem_mem _)
      simp only [List.mem_cons, List.not_mem_nil, or_false] at hw
      have nb : ∀ i : Int, (i < 0 ∨ (m : Int) - 1 < i) → btw (.int i) 0 (m - 1) = false := fun i hi => by
        simp only [btw, Bool.and_eq_false_iff, decide_eq_false_iff_not]
        omega
      rcases hw with rfl | rfl | rfl | rfl | rfl | rfl | rfl | rfl | rfl
      · exact ⟨rfl, nb _ (by omega), _, 0, Nat.zero_le _, .int _, nic_small (by omega) (by omega)⟩
      · exact ⟨rfl, nb _ (by omega), _, 0, Nat.zero_le _, .int _, nic_small (by omega) (by omega)⟩
      · exact ⟨rfl, nb _ (by omega), _, 0, Nat.zero_le _, .int _, nic_small (by omega) (by omega)⟩
      · exact ⟨rfl, nb _ (by omega), _, 0, Nat.zero_le _, .int _, nic_small (by omega) (by omega)⟩
      · exact ⟨rfl, rfl, _, 0, Nat.zero_le _, .bl _, (nic_bool _).mono (by omega) (by omega)⟩
      · exact ⟨rfl, rfl, _, 0, Nat.zero_le _, .bl _, (nic_bool _).mono (by omega) (by omega)⟩
      · exact ⟨rfl, rfl, _, 0, Nat.zero_le _, .non, nic_non.mono (by omega) (by omega)⟩
      · exact ⟨rfl, rfl, _, 0, Nat.zero_le _, .str _, ⟨by decide +kernel, by decide, by decide +kernel, by decide +kernel⟩⟩
      · have e0 := tup_at (at_new (h := h) (i := 0) (t := [Cell.tup [nW xs[at_]], Cell.lst [.int m, .int (-1), .int (m + more), .int (-1 - more), .bl true, .bl false, .non, .str "0", .ref h.length]]) rfl)
        refine ⟨tup_known e0, rfl, .tuple [.int (xs[at_] : Int)], h.length + 1, by rw [List.length_append]; simp, .tup (by omega) (by omega) e0 (.cons (.int _) .nil), ?_⟩
        exact (nic_tuple (k := 6) (s := 8000) fun d hd => by rw [List.mem_singleton.mp hd]; exact (nic_int (by rw [Int.natAbs_natCast]; exact Nat.lt_of_lt_of_le (by omega : xs[at_] < 2 ^ 10) (Nat.pow_le_pow_right (by decide) (by decide)))).mono (by omega) (by omega)).mono (by omega) (by simp)
    have O1 : Old h (h ++ [Cell.tup [nW xs[at_]], Cell.lst [.int m, .int (-1), .int (m + more), .int (-1 - more), .bl true, .bl false, .non, .str "0", .ref h.length]]) := Old.app _ _
    revert oc O1
    generalize (h ++ [Cell.tup [nW xs[at_]], Cell.lst [.int m, .int (-1), .int (m + more), .int (-1 - more), .bl true, .bl false, .non, .str "0", .ref h.length]]) = h1
    intro oc O1
    have s1 : ∀ H, RowAt H p xs → slice (.ref p) none (some (at_ : Int)) H = .ok (.ref H.length) (H ++ [.tup (rowW (xs.take at_))]) := fun H RH => by
      rw [slice_tup RH (by rw [rl]; unfold sIx; simp only []; rw [if_neg (by omega)]; omega), cut_take (by omega), row_take]
    have s2 : ∀ H, RowAt H p xs → slice (.ref p) (some ((at_ : Int) + 1)) none H = .ok (.ref H.length) (H ++ [.tup (rowW (xs.drop (at_ + 1)))]) := fun H RH => by
      rw [show ((at_ : Int) + 1) = ((at_ + 1 : Nat) : Int) by omega]
      rw [slice_tup RH (by rw [rl]; unfold sIx; simp only []; rw [if_neg (by omega)]; omega), cut_drop (by omega), row_drop]
    simp -implicitDefEqProofs [eSl, s1 h1 (R.old O1)]
    rw [show List.take at_ (List.map nW xs) = rowW (xs.take at_) from row_take]
    refine cat_spec (xs := rowW (xs.take at_)) (ys := [w]) (tup_at (at_new (i := 0) rfl)) (tup_at (at_new (i := 1) rfl)) (by simp; omega) fun p3 h3 O3 e3 hp3 => ?_
    have O13 : Old h1 h3 := (Old.app h1 _).trans O3
    simp -implicitDefEqProofs [s2 h3 (R.old (O1.trans O13))]
    rw [show List.drop (at_ + 1) (List.map nW xs) = rowW (xs.drop (at_ + 1)) from row_drop]
    refine cat_spec (tupAt_old e3 (Old.app _ _)) (tup_at (new_at h3 _)) (by simp; omega) fun p5 h5 O5 e5 hp5 => ?_
    have O15 : Old h1 h5 := O13.trans ((Old.app h3 [.tup (rowW (xs.drop (at_ + 1)))]).trans O5)
    have oc5 := oc.old O15
    have l1 := O1.1
    have l3 := O13.1
    have l35 := O5.1
    simp at hp3 hp5 l35
    have wl : (rowW (xs.take at_) ++ [w] ++ rowW (xs.drop (at_ + 1))).length = n := by simp; omega
    have p5lt := tupAt_lt e5
    refine q _ h5 (O1.trans O15) (items_tup e5 (by omega) fun x hx => ?_) (con_tup e5 (.inr ⟨w, by simp, oc5.no⟩)) ?_
    · rcases (List.mem_append.mp hx : _) with hx | hx
      · rcases (List.mem_append.mp hx : _) with hx | hx
        · exact known_row x hx
        · rw [List.mem_singleton.mp hx]; exact oc5.kn
      · exact known_row x hx
    · obtain ⟨dw, k, hk, qd, N⟩ := oc5.dn
      refine odd_tup (k := h5.length) (ds := rowD (xs.take at_) ++ [dw] ++ rowD (xs.drop (at_ + 1))) e5 p5lt (Nat.le_refl _) (by omega) (((denA_row.append (.cons (qd.up hk) .nil))).append denA_row) (fun d hd => ?_) (by omega)
      rcases List.mem_append.mp hd with hd | hd
      · rcases List.mem_append.mp hd with hd | hd
        · exact nic_row (m := m) (by omega) (fun x hx => F.lt x (List.mem_of_mem_take hx)) d hd
        · rw [List.mem_singleton.mp hd]; exact N
      · exact nic_row (m := m) (by omega) (fun x hx => F.lt x (List.mem_of_mem_drop hx)) d hd
  · rw [ws_seq]
    have c9' : ¬ (way : Int) < 9 := by omega
    simp -implicitDefEqProofs [c9', o_list R.seq]
    have s3 : ∀ H, RowAt H p xs → slice (.ref p) none (some (-1)) H = .ok (.ref H.length) (H ++ [.tup (rowW (xs.take (n - 1)))]) := fun H RH => by
      have e : sIx (rowW xs).length (rowW xs).length (some (-1)) = n - 1 := by
        rw [rl]
        unfold sIx
        simp only []
        rw [if_pos (by omega)]
        omega
      rw [slice_tup RH (by rw [e, rl]; have := S.n0; omega)]
      unfold cut
      rw [e]
      show Mini.R.ok _ (H ++ [Cell.tup (((rowW xs).drop 0).take (n - 1 - 0))]) = _
      rw [List.drop_zero, Nat.sub_zero, row_take]
    have Oa := Old.app h [Cell.lst (rowW xs), .tup [.int 0]]
    refine cat_spec (tupAt_old R Oa) (tup_at (at_new (i := 1) rfl)) (by simp; omega) fun p1 h1 O1 e1 hp1 => ?_
    have O01 := Oa.trans O1
    have lst0 : h1[h.length]? = some (.lst (rowW xs)) := O1.at (at_new (i := 0) rfl)
    simp -implicitDefEqProofs [eSl, s3 h1 (R.old O01)]
    rw [show List.take (n - 1) (List.map nW xs) = rowW (xs.take (n - 1)) from row_take]
    have Ob := Old.app h1 [Cell.tup (rowW (xs.take (n - 1)))]
    have e2 := tup_at (at_new (h := h1) (i := 0) (t := [Cell.tup (rowW (xs.take (n - 1)))]) rfl)
    refine cat_spec (tupAt_old R (O01.trans Ob)) (tupAt_old R (O01.trans Ob)) (by simp; omega) fun p3 h3 O3 e3 hp3 => ?_
    have O13 := Ob.trans O3
    have O03 := O01.trans O13
    have lh : b < h3.length := by have := O03.1; omega
    have l1 := O01.1
    have l13 := O13.1
    have la := O1.1
    have lb3 := O3.1
    simp at hp1 hp3 la lb3
    have nic1 : ∀ d ∈ rowD xs, Nic 7 9000 d := nic_row (m := m) (by omega) F.lt
    generalize hH : (h3 ++ [Cell.tup [], Cell.lst [], Cell.dic [], Cell.tup [W.ref p], Cell.lst [W.ref p],
            Cell.lst [W.ref h.length, W.ref p1, W.ref h1.length, W.ref p3, W.ref h3.length, W.non, W.ref (h3.length + 1), W.str "01", W.int 0, W.ref (h3.length + 1 + 1), W.ref (h3.length + 3), W.ref (h3.length + 3 + 1), W.bl true]]) = H
    have O3H : Old h3 H := by rw [← hH]; exact Old.app _ _
    have OH := O03.trans O3H
    have RH := R.old OH
    have g0 : H[h3.length]? = some (.tup []) := by rw [← hH]; exact at_new (i := 0) rfl
    have g1 : H[h3.length + 1]? = some (.lst []) := by rw [← hH]; exact at_new (i := 1) rfl
    have g2 : H[h3.length + 2]? = some (.dic []) := by rw [← hH]; exact at_new (i := 2) rfl
    have g3 : H[h3.length + 3]? = some (.tup [.ref p]) := by rw [← hH]; exact at_new (i := 3) rfl
    have g4 : H[h3.length + 4]? = some (.lst [.ref p]) := by rw [← hH]; exact at_new (i := 4) rfl
    have g5 : H[h3.length + 3 + 1 + 1]? = some (.lst [W.ref h.length, W.ref p1, W.ref h1.length, W.ref p3, W.ref h3.length, W.non, W.ref (h3.length + 1), W.str "01", W.int 0, W.ref (h3.length + 1 + 1), W.ref (h3.length + 3), W.ref (h3.length + 3 + 1), W.bl true]) := by rw [← hH]; exact at_new (i := 5) rfl
    have gl := lt_of_at g5
    rw [o_ix (seq_lst g5)]
    have dp : Den (p + 1) b H (.ref p) (.tuple (rowD xs)) := .tup (by omega) hb RH denA_row
    have np : Nic 7 90000 (.tuple (rowD xs)) := by
      have rd : (rowD xs).length = n := by unfold rowD; rw [List.length_map]; exact fl
      refine (nic_tuple (k := 6) (s := 3000) fun d hd => ?_).mono (by omega) (by rw [rd]; have : n * 3002 ≤ 24 * 3002 := Nat.mul_le_mul_right _ n1; omega)
      obtain ⟨x, hx, rfl⟩ := List.mem_map.mp hd
      have := F.lt x hx
      exact (nic_int (by rw [Int.natAbs_natCast]; exact Nat.lt_of_lt_of_le (by omega : x < 2 ^ 10) (Nat.pow_le_pow_right (by decide) (by decide)))).mono (by omega) (by omega)
    refine item_mem (by omega) (by simp; omega) fun w hw => ?_
    simp only [List.mem_cons, List.not_mem_nil, or_false] at hw
    rcases hw with rfl | rfl | rfl | rfl | rfl | rfl | rfl | rfl | rfl | rfl | rfl | rfl | rfl
    · have e := (O13.trans O3H).at lst0
      obtain ⟨k1, k2⟩ := lst_known e
      exact q _ H OH (items_non k1 k2) (con_non k2) (.lst (Nat.le_refl _) (by omega) e denA_row (fun d hd => (nic1 d hd).mono (by omega) (by omega)) (by omega))
    · have e := tupAt_old e1 (O13.trans O3H)
      have l : (rowW xs ++ [W.int 0]).length = n + 1 := by rw [List.length_append, rl]; rfl
      refine q _ H OH (items_tup e (by omega) fun x hx => ?_) (con_tup e (.inl (by omega))) (odd_tup (k := H.length) (ds := rowD xs ++ [.int 0]) e (tupAt_lt e) (Nat.le_refl _) (by omega) (denA_row.append (.cons (.int _) .nil)) (fun d hd => ?_) (by omega))
      · rcases (List.mem_append.mp hx : _) with hx | hx
        · exact known_row x hx
        · rw [List.mem_singleton.mp hx]; rfl
      · rcases List.mem_append.mp hd with hd | hd
        · exact nic1 d hd
        · rw [List.mem_singleton.mp hd]; exact nic_small (by decide) (by decide)
    · have e := tupAt_old e2 (O3.trans O3H)
      have l : (rowW (xs.take (n - 1))).length = n - 1 := by rw [List.length_map, List.length_take]; omega
      exact q _ H OH (items_tup e (by omega) known_row) (con_tup e (.inl (by have := S.n0; omega))) (odd_tup (k := H.length) (ds := rowD (xs.take (n - 1))) e (tupAt_lt e) (Nat.le_refl _) (by omega) denA_row (nic_row (m := m) (by omega) fun x hx => F.lt x (List.mem_of_mem_take hx)) (by omega))
    · have e := tupAt_old e3 O3H
      have l : (rowW xs ++ rowW xs).length = n + n := by rw [List.length_append, rl]
      refine q _ H OH (items_tup e (by omega) fun x hx => ?_) (con_tup e (.inl (by have := S.n0; omega))) (odd_tup (k := H.length) (ds := rowD xs ++ rowD xs) e (tupAt_lt e) (Nat.le_refl _) (by omega) (denA_row.append denA_row) (fun d hd => ?_) (by omega))
      · rcases List.mem_append.mp hx with hx | hx <;> exact known_row x hx
      · rcases List.mem_append.mp hd with hd | hd <;> exact nic1 d hd
    · have e := tup_at g0
      exact q _ H OH (items_tup e (by simp) fun x hx => nomatch hx) (con_tup e (.inl (by have := S.n0; simp; omega))) (odd_tup (k := H.length) (ds := []) e (tupAt_lt e) (Nat.le_refl _) (by omega) .nil (fun d hd => nomatch hd) (by simp))
    · exact q _ H OH (items_non rfl rfl) (con_non rfl) (.dat (k := 0) (Nat.zero_le _) .non (nic_non.mono (by omega) (by omega)) fun _ z => nomatch z)
    · obtain ⟨k1, k2⟩ := lst_known g1
      exact q _ H OH (items_non k1 k2) (con_non k2) (.lst (by omega) (by omega) g1 .nil (fun d hd => nomatch hd) (by simp))
    · exact q _ H OH (items_non rfl rfl) (con_non rfl) (.dat (k := 0) (Nat.zero_le _) (.str _) ⟨by decide +kernel, by decide, by decide +kernel, by decide +kernel⟩ fun _ z => nomatch z)
    · exact q _ H OH (items_non rfl rfl) (con_non rfl) (.dat (k := 0) (Nat.zero_le _) (.int _) ((nic_small (by decide) (by decide)).mono (by omega) (by omega)) fun _ z => nomatch z)
    · obtain ⟨k1, k2⟩ := dic_known g2
      exact q _ H OH (items_non k1 k2) (con_non k2) (.dic (by omega) (by omega) g2)
    · have e := tup_at g3
      exact q _ H OH (items_tup e (by simp) fun x hx => by rw [List.mem_singleton.mp hx]; exact RH.known) (con_tup e (.inr ⟨_, List.mem_singleton.mpr rfl, rfl⟩)) (.dat (k := h3.length + 4) (by omega) (.tup (by omega) (by omega) e (.cons (dp.up (by omega)) .nil)) ((nic_tuple (k := 7) (s := 90000) fun d hd => by rw [List.mem_singleton.mp hd]; exact np).mono (by omega) (by simp)) fun _ z => nomatch z)
    · obtain ⟨k1, k2⟩ := lst_known g4
      exact q _ H OH (items_non k1 k2) (con_non k2) (.lst (by omega) (by omega) g4 (.cons (dp.up (by omega)) .nil) (fun d hd => by rw [List.mem_singleton.mp hd]; exact np.mono (by omega) (by omega)) (by simp))
    · exact q _ H OH (items_non rfl rfl) (con_non rfl) (.dat (k := 0) (Nat.zero_le _) (.bl _) ((nic_bool _).mono (by omega) (by omega)) fun _ z => nomatch z)
end
end K01
set_option Elab.async false
set_option autoImplicit false
set_option linter.all false
set_option maxRecDepth 100000
namespace K01
open Mini Lb
open PySem (Str PyData)
section
variable {h : MH} {b : Nat} {c : Int} {Q : W → MH → Prop} {X : XQ} {d n m : Nat} {w : W}
theorem Odd.lt {lo p : Nat} (O : Odd lo b h (.ref p)) : p < h.length := by
  cases O with
  | dat hk q N nl =>
    cases q with
    | lst hp hb e q => omega
    | tup hp hb e q => omega
  | lst hp hb e q N hl => exact lt_of_at e
  | dic hp hb e => exact lt_of_at e
theorem num_top {m : Nat} (hm : 0 < m) (n : Nat) : numOf m (List.replicate n (m - 1)) = m ^ n - 1 := by
  have p : 0 < m ^ n := Nat.pow_pos hm
  rw [← figs_top hm n, num_figs hm n _ (by omega)]
/-- one value passed, refused and told again -/
theorem ask_fill {kind k0 : Nat} {k1 : MH} (S : Sizes n m) (hk : kind < 2) (D : DiskAt k1 d 4 n m) (I : Items k1 w) (f : isCon k1 w n m = false) (O : Odd k0 b k1 w) (h0 : k0 ≤ k1.length) (B : Box k1 b c)
    (q : ∀ h', Kp k0 b k1 h' → Box h' b c → Q (.bl true) h') : (m__law_refusal [.int kind, .ref d, w] k1).wp (fun a h => (m__law_same [a, .str "filling", w] h).wp Q X) X := by
  refine refusal_fill S D hk I f fun t k2 lt O2 e => ?_
  refine same_spec (O.up (O2.kp b)) e (fun p hp => ?_) fun k3 C3 B3 => ?_
  · subst hp
    have := O.lt
    omega
  · exact q k3 (((O2.kp b).low h0).trans C3) (B3 _ (B.old O2))
theorem ask_num {kind k0 : Nat} {k1 : MH} (S : Sizes n m) (hk : kind = 2 ∨ kind = 3) (D : DiskAt k1 d 4 n m) (kn : known w k1 = true) (f : btw w 0 ((m ^ n : Nat) - 1 : Int) = false) (O : Odd k0 b k1 w) (h0 : k0 ≤ k1.length) (B : Box k1 b c)
    (q : ∀ h', Kp k0 b k1 h' → Box h' b c → Q (.bl true) h') : (m__law_refusal [.int kind, .ref d, w] k1).wp (fun a h => (m__law_same [a, .str "number", w] h).wp Q X) X := by
  refine refusal_num S D hk kn f fun t k2 lt O2 e => ?_
  refine same_spec (O.up (O2.kp b)) e (fun p hp => ?_) fun k3 C3 B3 => ?_
  · subst hp
    have := O.lt
    omega
  · exact q k3 (((O2.kp b).low h0).trans C3) (B3 _ (B.old O2))
def rE (b d z p n m N : Nat) (us : List (Option W)) : Env := some (.ref b) :: some (.ref d) :: some (.ref z) :: some (.ref p) :: some (.int n) :: some (.int m) :: some (.int N) :: us
structure RefI (h0 : MH) (b d z p n m N : Nat) (c : Int) (r : Env) (h : MH) : Prop where
  ex : ∃ (u7 u8 u9 u10 u11 u12 u13 u14 u15 u16 : Option W), r = rE b d z p n m N [u7, u8, u9, u10, u11, u12, u13, u14, u15, u16]
  box : Box h b c
  ch : Ch b h0 h
structure RefJ (h0 : MH) (b d z p n m N : Nat) (c : Int) (turn way at_ more : Nat) (r : Env) (h : MH) : Prop where
  ex : ∃ (u8 u12 u13 u14 u15 u16 : Option W), r = rE b d z p n m N [some (.int turn), u8, some (.int way), some (.int at_), some (.int more), u12, u13, u14, u15, u16]
  box : Box h b c
  ch : Ch b h0 h
theorem nic_big {i : Int} (hi : i.natAbs < 2 ^ 1000) : Nic 8 1000000 (.int i) := (nic_int (Nat.lt_of_lt_of_le hi (Nat.pow_le_pow_right (by decide) (by decide)))).mono (by omega) (by omega)
theorem pow_big {n m : Nat} (S : Sizes n m) : m ^ n ≤ 2 ^ 144 := by
  have h1 : m ^ n ≤ 64 ^ n := Nat.pow_le_pow_left S.m1 n
  have h2 : 64 ^ n ≤ 64 ^ 24 := Nat.pow_le_pow_right (by decide) S.n1
  have h3 : (64 : Nat) ^ 24 = 2 ^ 144 := by decide +kernel
  omega
theorem refusals_spec {z p : Nat} {xs : List Nat} (S : Sizes n m) (B : Box h b c) (hc : c < 200000) (D : DiskAt h d 4 n m) (Z : SizAt h z n m) (R : RowAt h p xs) (F : Fil n m xs)
    (hd : d ≠ b) (hz : z ≠ b) (hp : p ≠ b) (q : ∀ h', Box h' b (c + 30) → Ch b h h' → Q (.bl true) h') : (m__law_refusals_right [.ref b, .ref d, .ref z, .ref p] h).wp Q X := by
  have mp : 0 < m := by have := S.m0; omega
  have n0 := S.n0
  have n1 := S.n1
  have m1 := S.m1
  have lb := B.lt
  have np : 0 < m ^ n := Nat.pow_pos mp
  unfold m__law_refusals_right
  rw [wp_fn]
  unfold b__law_refusals_right
  rw [sSeq_assoc, sSeq_assoc]
  refine ws_cut (fun r k => RefI h b d z p n m (m ^ n) (c + 20) r k) ?_ ?_
  · simp -implicitDefEqProofs [o_unseq (seq_tup Z), ws_seq]
    have e2 : ((m : Int) - 1) = ((m - 1 : Nat) : Int) := by omega
    rw [e2]
    refine rep_spec (x := nW (m - 1)) (k := n) (tup_at (new_at h _)) (by omega) fun p5 k5 O5 R5 hp5 => ?_
    have O05 := (Old.app h [Cell.tup [nW (m - 1)]]).trans O5
    refine num_ (xs := List.replicate n (m - 1)) (by omega) (by unfold RowAt; rw [R5, repl_row]) ?_
    rw [num_top mp]
    simp -implicitDefEqProofs
    have e3 : ((m ^ n - 1 : Nat) : Int) + 1 = ((m ^ n : Nat) : Int) := by omega
    rw [e3]
    rw [ws_for, o_rng1]
    simp -implicitDefEqProofs only [eC, wp_ok]
    refine ⟨by decide, ?_⟩
    refine ws_rng (n := 3) (fun i r k => RefI h b d z p n m (m ^ n) (c + 4 * i) r k) ⟨⟨_, _, _, _, _, _, _, _, _, _, rfl⟩, (B.old O05).mono, O05.ch b⟩ ?_ ?_
    · rintro i r k hi ⟨⟨u7, u8, u9, u10, u11, u12, u13, u14, u15, u16, rfl⟩, Bk, Ck⟩
      simp -implicitDefEqProofs only [gSet, wp_ok, Int.zero_add]
      refine ws_cut (fun r k => ∃ way at_ more : Nat, way < 22 ∧ at_ < n ∧ 1 ≤ more ∧ more ≤ 1000 ∧ RefJ h b d z p n m (m ^ n) (c + 4 * i + 3) i way at_ more r k) ?_ ?_
      · simp -implicitDefEqProofs [rE]
        refine tk Bk (by decide) (by decide) (by omega) fun way k1 d1 B1 C1 l1 => ?_
        refine tk B1 (by omega) (by omega) (by omega) fun at_ k2 d2 B2 C2 l2 => ?_
        refine tk B2 (by decide) (by decide) (by omega) fun more k3 d3 B3 C3 l3 => ?_
        simp -implicitDefEqProofs
        exact ⟨way, by omega, at_, by omega, 1 + more, by omega, by omega, ⟨_, _, _, _, _, _, rfl⟩, B3.mono, ((Ck.trans C1).trans C2).trans C3⟩
      rintro r k ⟨way, at_, more, w22, an, more1, more2, J⟩
      refine ws_cut (fun r k => RefJ h b d z p n m (m ^ n) (c + 4 * i + 3) i way at_ more r k) ?_ ?_
      · obtain ⟨⟨v8, v12, v13, v14, v15, v16, rfl⟩, Bk, Ck⟩ := J
        have lk := Ck.1
        simp -implicitDefEqProofs [rE]
        refine wrong_spec S w22 an more2 F (R.kp Ck.kp R.lt hp) hp (by omega) fun w k1 O1 I1 f1 Od => ?_
        refine is_filling_spec (okB := okD) (okC := okD) ((D.kp Ck.kp (lt_of_at D) hd).old O1) rfl rfl I1 fun k2 O2 => ?_
        rw [f1]
        simp -implicitDefEqProofs
        exact ⟨⟨_, _, _, _, _, _, rfl⟩, Bk.old (O1.trans O2), Ck.trans ((O1.trans O2).ch b)⟩
      intro r k J
      refine ws_cut (fun r k => RefJ h b d z p n m (m ^ n) (c + 4 * i + 3) i way at_ more r k) ?_ ?_
      · rw [ws_for, o_rng1]
        simp -implicitDefEqProofs only [eC, wp_ok]
        refine ⟨by decide, ?_⟩
        refine ws_rng (n := 2) (fun j r k => RefJ h b d z p n m (m ^ n) (c + 4 * i + 3) i way at_ more r k) J ?_ ?_
        · rintro j r k hj ⟨⟨v8, v12, v13, v14, v15, v16, rfl⟩, Bk, Ck⟩
          have lk := Ck.1
          simp -implicitDefEqProofs [rE]
          refine wrong_spec S w22 an more2 F (R.kp Ck.kp R.lt hp) hp (by omega) fun w k1 O1 I1 f1 Od => ?_
          refine ask_fill S hj ((D.kp Ck.kp (lt_of_at D) hd).old O1) I1 f1 Od O1.1 (Bk.old O1) fun k2 C2 B2 => ?_
          simp -implicitDefEqProofs
          exact ⟨⟨_, _, _, _, _, _, rfl⟩, B2, Ck.trans (((O1.kp b).trans C2).ch)⟩
        · rintro r k J
          exact ⟨rfl, J⟩
      rintro r k ⟨⟨v8, v12, v13, v14, v15, v16, rfl⟩, Bk, Ck⟩
      refine ws_cut (fun r k => ∃ way : Nat, way < 12 ∧ RefJ h b d z p n m (m ^ n) (c + 4 * i + 4) i way at_ more r k) ?_ ?_
      · simp -implicitDefEqProofs [rE]
        refine tk Bk (by decide) (by decide) (by omega) fun way k1 d1 B1 C1 l1 => ?_
        exact ⟨way, by omega, ⟨_, _, _, _, _, _, rfl⟩, B1.mono, Ck.trans C1⟩
      rintro r k ⟨way, w12, J⟩
      rw [ws_for, o_rng2]
      simp -implicitDefEqProofs only [eC, wp_ok]
      refine ⟨by decide, ?_⟩
      refine ws_rng (n := 2) (fun j r k => RefJ h b d z p n m (m ^ n) (c + 4 * i + 4) i way at_ more r k) J ?_ ?_
      · rintro j r k hj ⟨⟨v8, v12, v13, v14, v15, v16, rfl⟩, Bk, Ck⟩
        have lk := Ck.1
        simp -implicitDefEqProofs [rE]
        have eM : ((m : Int) ^ n) = ((m ^ n : Nat) : Int) := by simp
        rw [show (2 + (j : Int)) = ((2 + j : Nat) : Int) by omega, eM]
        have big := pow_big S
        have big2 : (2 : Nat) ^ 144 + 1000 < 2 ^ 1000 := by decide +kernel
        generalize hM : m ^ n = M at *
        generalize hH : (k ++ [Cell.tup [W.int 0], Cell.lst [W.int 0], Cell.lst [W.int (-1), W.int (M : Int), W.int ((M : Int) + more), W.int (-more), W.int (-(M : Int)), W.non, W.bl true, W.bl false, W.str "0", W.ref k.length, W.ref (k.length + 1), W.ref p]]) = H
        have OH : Old k H := by rw [← hH]; exact Old.app _ _
        have g0 : H[k.length]? = some (.tup [.int 0]) := by rw [← hH]; exact at_new (i := 0) rfl
        have g1 : H[k.length + 1]? = some (.lst [.int 0]) := by rw [← hH]; exact at_new (i := 1) rfl
        have RH := (R.kp Ck.kp R.lt hp).old OH
        have DH := (D.kp Ck.kp (lt_of_at D) hd).old OH
        have hl := OH.1
        have go : ∀ w, known w H = true → btw w 0 ((M : Int) - 1) = false → Odd k.length b H w → (m__law_refusal [W.int ((2 + j : Nat) : Int), W.ref d, w] H).wp (fun a h_1 => (m__law_same [a, W.str "number", w] h_1).wp (fun a h_2 => (match tru a h_2 with | some b => Mini.R.ok b h_2 | none => Mini.R.bad).wp (fun a h_3 => a = true ∧ RefJ h b d z p n m M (c + 4 * i + 4) i way at_ more
                    [some (W.ref b), some (W.ref d), some (W.ref z), some (W.ref p), some (W.int ↑n), some (W.int ↑m), some (W.int (M : Int)), some (W.int ↑i), some (W.int ((2 + j : Nat) : Int)), some (W.int ↑way), some (W.int ↑at_), some (W.int ↑more), some w, v13, v14, v15, v16] h_3) fun c d h1 => X c d h1) fun c d h1 => X c d h1) fun c d h1 => X c d h1 := fun w kn f O => by
          refine ask_num S (by omega) DH kn (by rw [hM]; exact f) O hl (Bk.old OH) fun k2 C2 B2 => ?_
          simp -implicitDefEqProofs
          exact ⟨⟨_, _, _, _, _, _, rfl⟩, B2, Ck.trans (((OH.kp b).trans C2).ch)⟩
        have go2 : ∀ v : Int, (v < 0 ∨ (M : Int) - 1 < v) → v.natAbs < 2 ^ 1000 → _ := fun v hv hb => go (.int v) rfl (by simp only [btw, Bool.and_eq_false_iff, decide_eq_false_iff_not]; omega) (.dat (k := 0) (Nat.zero_le _) (.int _) (nic_big hb) fun _ z => nomatch z)
        refine item_mem (by omega) (by simp; omega) fun w hw => ?_
        simp only [List.mem_cons, List.not_mem_nil, or_false] at hw
        rcases hw with rfl | rfl | rfl | rfl | rfl | rfl | rfl | rfl | rfl | rfl | rfl | rfl
        · exact go2 _ (by omega) (by decide +kernel)
        · exact go2 _ (by omega) (by omega)
        · exact go2 _ (by omega) (by omega)
        · exact go2 _ (by omega) (by omega)
        · exact go2 _ (by omega) (by omega)
        · exact go _ rfl rfl (.dat (k := 0) (Nat.zero_le _) .non (nic_non.mono (by omega) (by omega)) fun _ z => nomatch z)
        · exact go _ rfl rfl (.dat (k := 0) (Nat.zero_le _) (.bl _) ((nic_bool _).mono (by omega) (by omega)) fun _ z => nomatch z)
        · exact go _ rfl rfl (.dat (k := 0) (Nat.zero_le _) (.bl _) ((nic_bool _).mono (by omega) (by omega)) fun _ z => nomatch z)
        · exact go _ rfl rfl (.dat (k := 0) (Nat.zero_le _) (.str _) ⟨by decide +kernel, by decide, by decide +kernel, by decide +kernel⟩ fun _ z => nomatch z)
        · have e := tup_at g0
          exact go _ (tup_known e) rfl (odd_tup (k := H.length) (ds := [.int 0]) e (tupAt_lt e) (Nat.le_refl _) (by omega) (.cons (.int _) .nil) (fun d hd => by rw [List.mem_singleton.mp hd]; exact nic_small (by decide) (by decide)) (by simp))
        · obtain ⟨k1, k2⟩ := lst_known g1
          exact go _ k1 rfl (.lst (by omega) (by omega) g1 (.cons (.int _) .nil) (fun d hd => by rw [List.mem_singleton.mp hd]; exact (nic_small (by decide) (by decide)).mono (by omega) (by omega)) (by simp))
        · exact go _ RH.known rfl (odd_tup (k := H.length) (ds := rowD xs) RH RH.lt (Nat.le_refl _) hp denA_row (nic_row (m := m) (by omega) F.lt) (by rw [List.length_map, F.len]; omega))
      · rintro r k J
        obtain ⟨⟨v8, v12, v13, v14, v15, v16, rfl⟩, Bk, Ck⟩ := J
        simp -implicitDefEqProofs
        exact ⟨⟨_, _, _, _, _, _, _, _, _, _, rfl⟩, Bk.mono, Ck⟩
    · rintro r k N
      exact ⟨rfl, ⟨N.ex, N.box.mono, N.ch⟩⟩
  rintro r k ⟨⟨u7, u8, u9, u10, u11, u12, u13, u14, u15, u16, rfl⟩, Bk, Ck⟩
  have lk := Ck.1
  have Rk := R.kp Ck.kp R.lt hp
  have Dk := D.kp Ck.kp (lt_of_at D) hd
  have rl : (rowW xs).length = n := by rw [List.length_map]; exact F.len
  have pl := R.lt
  simp -implicitDefEqProofs [rE, ws_seq]
  refine cat_spec (tupAt_old Rk (Old.app k [Cell.tup [.int 0]])) (tup_at (at_new (i := 0) rfl)) (by rw [rl]; simp; omega) fun p1 k1 O1 e1 hp1 => ?_
  have O01 := (Old.app k [Cell.tup [.int 0]]).trans O1
  have s2 : slice (.ref p) (some 1) none k1 = .ok (.ref k1.length) (k1 ++ [.tup (rowW (xs.drop 1))]) := by
    rw [show (1 : Int) = ((1 : Nat) : Int) by rfl]
    rw [slice_tup (tupAt_old Rk O01) (by rw [rl]; unfold sIx; simp only []; rw [if_neg (by omega)]; omega), cut_drop (by omega), row_drop]
  simp -implicitDefEqProofs [eSl, s2]
  rw [show (List.map nW xs).tail = rowW (xs.drop 1) by simp [rowW]]
  refine cat_spec (tup_at (at_new (i := 0) rfl)) (tup_at (at_new (i := 1) rfl)) (by have := F.len; simp; omega) fun p2 k2 O2 e2 hp2 => ?_
  try simp -implicitDefEqProofs
  have O12 := (Old.app k1 [Cell.tup (rowW (xs.drop 1)), .tup [.int m]]).trans O2
  have O02 := O01.trans O12
  have e12 := tupAt_old e1 O12
  have l1 := O1.1
  have l01 := O01.1
  have l2 := O2.1
  simp at l1 l2 hp1 hp2
  have w1 : (rowW xs ++ [W.int 0]).length = n + 1 := by rw [List.length_append, rl]; rfl
  have w2 : (rowW (xs.drop 1) ++ [W.int (m : Int)]).length ≤ n + 1 := by simp; have := F.len; omega
  have k1s : ∀ {H : MH}, ∀ x ∈ rowW xs ++ [W.int 0], known x H = true := fun {H} x hx => by
    rcases (List.mem_append.mp hx : _) with hx | hx
    · exact known_row x hx
    · rw [List.mem_singleton.mp hx]; rfl
  have k2s : ∀ {H : MH}, ∀ x ∈ rowW (xs.drop 1) ++ [W.int (m : Int)], known x H = true := fun {H} x hx => by
    rcases (List.mem_append.mp hx : _) with hx | hx
    · exact known_row x hx
    · rw [List.mem_singleton.mp hx]; rfl
  refine error_bad S (Dk.old O02) (items_tup e12 (by omega) k1s) (con_tup e12 (.inl (by omega))) fun t1 k3 lt1 O3 x1 y1 => ?_
  have O03 := O02.trans O3
  refine error_bad S (Dk.old O03) (items_tup (tupAt_old e2 O3) (by omega) k2s) (con_tup (tupAt_old e2 O3) (.inr ⟨.int m, by simp, by simp only [btw, Bool.and_eq_false_iff, decide_eq_false_iff_not]; omega⟩)) fun t2 k4 lt2 O4 x2 y2 => ?_
  have O04 := O03.trans O4
  have k4e : ∀ {t : Nat} {w : W} {H : MH}, H[t + 1]? = some (.exo 2 (some t)) → H[t]? = some (.xd [("given", w)]) → gIsi .tInt (.ref (t + 1)) H = .ok (.bl false) H ∧ xfOf (fun c => decide (c = 0) || decide (c = 1) || decide (c = 2) || decide (c = 3)) "given" (.ref (t + 1)) H = .ok w H := fun {t w H} e1 e2 => by
    refine ⟨?_, o_xf e1 e2 rfl (by simp [List.lookup])⟩
    have kn : known (.ref (t + 1)) H = true := by unfold Mini.known xdAt; simp only [e1, e2]
    exact isi_refI kn
  have a1 := k4e (O4.at x1) (O4.at y1)
  have a2 := k4e x2 y2
  simp -implicitDefEqProofs [a1.1, a2.1, a1.2, a2.2]
  generalize hH : k4 ++ [Cell.lst [.ref p1, .ref p2]] = H
  have OH : Old k4 H := by rw [← hH]; exact Old.app _ _
  have gH : H[k4.length]? = some (.lst [.ref p1, .ref p2]) := by rw [← hH]; exact new_at _ _
  have f1 := tupAt_old e12 ((O3.trans O4).trans OH)
  have f2 := tupAt_old e2 ((O3.trans O4).trans OH)
  have pb1 : p1 ≠ b := by omega
  have pb2 : p2 ≠ b := by omega
  have data : ∀ {H' : MH} {g : Nat}, Old H H' → H'[g]? = some (.lst [.ref p1, .ref p2]) → g ≠ b → fRepr [.ref g] H' = .ok (.str (PyData.list [.tuple (rowD xs ++ [.int 0]), .tuple (rowD (xs.drop 1) ++ [.int m])]).shown) H' := fun {H' g} O e gb => by
    have D1 : Den H'.length b H' (.ref p1) (.tuple (rowD xs ++ [.int 0])) := .tup (tupAt_lt (tupAt_old f1 O)) pb1 (tupAt_old f1 O) (denA_row.append (.cons (.int _) .nil))
    have D2 : Den H'.length b H' (.ref p2) (.tuple (rowD (xs.drop 1) ++ [.int m])) := .tup (tupAt_lt (tupAt_old f2 O)) pb2 (tupAt_old f2 O) (denA_row.append (.cons (.int _) .nil))
    have D3 : Den H'.length b H' (.ref g) (.list [.tuple (rowD xs ++ [.int 0]), .tuple (rowD (xs.drop 1) ++ [.int m])]) := .lst (lt_of_at e) gb (lst_at e) (.cons D1 (.cons D2 .nil))
    have rd : ∀ ys : List Nat, (rowD ys).length = ys.length := fun ys => by unfold rowD; rw [List.length_map]
    have N1 : Nic 8 300000 (.tuple (rowD xs ++ [.int 0])) := (nic_tuple (k := 7) (s := 9000) fun d hd => by
      rcases List.mem_append.mp hd with hd | hd
      · exact nic_row (m := m) (by omega) F.lt d hd
      · rw [List.mem_singleton.mp hd]; exact nic_small (by decide) (by decide)).mono (by omega) (by rw [List.length_append, rd, F.len]; simp; omega)
    have N2 : Nic 8 300000 (.tuple (rowD (xs.drop 1) ++ [.int m])) := (nic_tuple (k := 7) (s := 9000) fun d hd => by
      rcases List.mem_append.mp hd with hd | hd
      · exact nic_row (m := m) (by omega) (fun x hx => F.lt x (List.mem_of_mem_drop hx)) d hd
      · rw [List.mem_singleton.mp hd]; exact nic_small (by omega) (by omega)).mono (by omega) (by rw [List.length_append, rd, List.length_drop, F.len]; simp; omega)
    exact repr_den D3 (nic_list (k := 8) (s := 300000) fun d hd => by
      simp only [List.mem_cons, List.not_mem_nil, or_false] at hd
      rcases hd with rfl | rfl
      · exact N1
      · exact N2) (by omega) (by simp)
  have l4 := O04.1
  rw [data (Old.refl _) gH (by omega)]
  simp -implicitDefEqProofs
  have OH2 := Old.app H [Cell.lst [.ref p1, .ref p2]]
  rw [data OH2 (new_at _ _) (by have := OH.1; omega)]
  simp -implicitDefEqProofs
  have O05 := O04.trans (OH.trans OH2)
  have eqv : ∀ {H' : MH} {g g' : Nat}, H'[g]? = some (.lst [.str "let", .non]) → H'[g']? = some (.lst [.str "let", .non]) → gEq (.ref g) (.ref g') H' = .ok (.bl true) H' := fun {H' g g'} e e' => by
    have D1 : Den (g + 1) (g + 1) H' (.ref g) (.list [.str "let", .none]) := .lst (by omega) (by omega) (lst_at e) (.cons (.str _) (.cons .non .nil))
    have D2 : Den (g' + 1) (g' + 1) H' (.ref g') (.list [.str "let", .none]) := .lst (by omega) (by omega) (lst_at e') (.cons (.str _) (.cons .non .nil))
    rw [eq_den D1 D2 (by decide +kernel) (by decide +kernel) (by decide +kernel) (by decide +kernel)]
    rfl
  refine refusal_let0 S (Dk.old O05) F (Rk.old O05) fun t5 k5 lt5 O5 e5 => ?_
  try simp -implicitDefEqProofs
  rw [eqv (app_at e5 _) (new_at _ _)]
  simp -implicitDefEqProofs
  have O06 := O05.trans (O5.trans (Old.app k5 [Cell.lst [.str "let", .non]]))
  have e4 : ((m : Int) ^ n - 1) = ((m ^ n - 1 : Nat) : Int) := by
    have : ((m ^ n : Nat) : Int) = (m : Int) ^ n := by simp
    omega
  rw [e4]
  refine refusal_let2 (k := m ^ n - 1) S (Dk.old O06) (by omega) fun t6 k6 lt6 O6 e6 => ?_
  try simp -implicitDefEqProofs
  rw [eqv (app_at e6 _) (new_at _ _)]
  simp -implicitDefEqProofs
  have O07 := O06.trans (O6.trans (Old.app k6 [Cell.lst [.str "let", .non]]))
  exact q _ ((Bk.old O07).mono) (Ck.trans (O07.ch b))
end
end K01
set_option Elab.async false
set_option autoImplicit false
set_option linter.all false
set_option maxRecDepth 100000
namespace K01
open Mini Lb
open PySem (Str PyData)
section
variable {h : MH} {b : Nat} {c : Int} {Q : W → MH → Prop} {X : XQ} {d n m : Nat} {w : W}
/-! ### making disks -/
theorem made_ok {way n m : Nat} (S : Sizes n m) (hw : way < 2) (q : ∀ t u h', h.length ≤ t → h.length ≤ u → Old h h' → h'[t]? = some (.lst [.str "let", .ref u]) → h'[u]? = some (.lst [.int n, .int m]) → Q (.ref t) h') : (m__law_made [.int way, .int n, .int m] h).wp Q X := by
  have go : ∀ {Q' : W → MH → Prop} {X' : XQ}, Q' (.ref h.length) (h ++ [.ins 4 [("blocks", .int n), ("contents", .int m)]]) → (newIns 4 m_Disk___init__ [.int n, .int m] h).wp Q' X' := fun q => disk_ok (okB := okD) (okC := okD) (xB := 0) (xC := 1) S rfl rfl q
  unfold m__law_made
  rw [wp_fn]
  have D := fun (t : MH) => app_at (t := t) (show (h ++ [Cell.ins 4 [("blocks", .int n), ("contents", .int m)]])[h.length]? = some (.ins 4 [("blocks", .int n), ("contents", .int m)]) from new_at _ _)
  have DB : ∀ t, fldOf okD "blocks" (.ref h.length) (h ++ [Cell.ins 4 [("blocks", .int n), ("contents", .int m)]] ++ t) = .ok (.int n) _ := fun t => DiskAt.blocks (D t) rfl
  have DC : ∀ t, fldOf okD "contents" (.ref h.length) (h ++ [Cell.ins 4 [("blocks", .int n), ("contents", .int m)]] ++ t) = .ok (.int m) _ := fun t => DiskAt.contents (D t) rfl
  have e1 := DB []
  have e2 := DC []
  rw [List.append_nil] at e1 e2
  have fin := q (h.length + 2) (h.length + 1) (h ++ [.ins 4 [("blocks", .int n), ("contents", .int m)], .lst [.int n, .int m], .lst [.str "let", .ref (h.length + 1)]]) (by omega) (by omega) (Old.app _ _) (at_new (i := 2) rfl) (at_new (i := 1) rfl)
  have k2 : way = 0 ∨ way = 1 := by omega
  rcases k2 with rfl | rfl
  · simp -implicitDefEqProofs [b__law_made, ws_seq]
    refine go ?_
    simp -implicitDefEqProofs [e1, e2]
    exact fin
  · simp -implicitDefEqProofs [b__law_made, ws_seq]
    refine go ?_
    simp -implicitDefEqProofs [e1, e2]
    exact fin
theorem made_blocks {way : Nat} {v w : W} (hw : way < 2) (k : known v h = true) (f : btw v 1 24 = false) (q : ∀ t h', h.length ≤ t → Old h h' → h'[t]? = some (.lst [.str "blocks", v]) → Q (.ref t) h') : (m__law_made [.int way, v, w] h).wp Q X := by
  have go : ∀ {Q' : W → MH → Prop} {X' : XQ}, X' 0 (some (h.length + 1)) (h ++ [.ins 4 [], .xd [("given", v)]]) → (newIns 4 m_Disk___init__ [v, w] h).wp Q' X' := fun q => disk_badB (okB := okD) (okC := okD) (xB := 0) (xC := 1) k f fun _ _ => q
  have xf := xf_new (w := v) (ok := fun c => decide (c = 0) || decide (c = 1) || decide (c = 2) || decide (c = 3)) (f := "given") (e := 0) (h1 := h ++ [.ins 4 []]) rfl
  simp at xf
  unfold m__law_made
  rw [wp_fn]
  have fin := q (h.length + 3) (h ++ [.ins 4 [], .xd [("given", v)], .exo 0 (some (h.length + 1)), .lst [.str "blocks", v]]) (by omega) (Old.app _ _) (at_new (i := 3) rfl)
  have k2 : way = 0 ∨ way = 1 := by omega
  rcases k2 with rfl | rfl
  · simp -implicitDefEqProofs [b__law_made, ws_seq]
    refine go ?_
    simp -implicitDefEqProofs [xf]
    exact fin
  · simp -implicitDefEqProofs [b__law_made, ws_seq]
    refine go ?_
    simp -implicitDefEqProofs [xf]
    exact fin
theorem made_contents {way : Nat} {v w : W} (hw : way < 2) (k : known v h = true) (k2 : known w h = true) (f : btw v 1 24 = true) (g : btw w 2 64 = false) (q : ∀ t h', h.length ≤ t → Old h h' → h'[t]? = some (.lst [.str "contents", w]) → Q (.ref t) h') : (m__law_made [.int way, v, w] h).wp Q X := by
  have go : ∀ {Q' : W → MH → Prop} {X' : XQ}, X' 1 (some (h.length + 1)) (h ++ [.ins 4 [], .xd [("given", w)]]) → (newIns 4 m_Disk___init__ [v, w] h).wp Q' X' := fun q => disk_badC (okB := okD) (okC := okD) (xB := 0) (xC := 1) k k2 f g q
  have xf := xf_new (w := w) (ok := fun c => decide (c = 0) || decide (c = 1) || decide (c = 2) || decide (c = 3)) (f := "given") (e := 1) (h1 := h ++ [.ins 4 []]) rfl
  simp at xf
  unfold m__law_made
  rw [wp_fn]
  have fin := q (h.length + 3) (h ++ [.ins 4 [], .xd [("given", w)], .exo 1 (some (h.length + 1)), .lst [.str "contents", w]]) (by omega) (Old.app _ _) (at_new (i := 3) rfl)
  have k2 : way = 0 ∨ way = 1 := by omega
  rcases k2 with rfl | rfl
  · simp -implicitDefEqProofs [b__law_made, ws_seq]
    refine go ?_
    simp -implicitDefEqProofs [xf]
    exact fin
  · simp -implicitDefEqProofs [b__law_made, ws_seq]
    refine go ?_
    simp -implicitDefEqProofs [xf]
    exact fin
/-- odd sizes -/
structure OddS (h0 : Nat) (b : Nat) (h : MH) (w : W) : Prop where
  kn : known w h = true
  od : Odd h0 b h w
theorem OddS.int {i : Int} (h0 : -(10 ^ 30) ≤ i) (h1 : i ≤ 10 ^ 30) {k : Nat} : OddS k b h (.int i) := ⟨rfl, .dat (k := 0) (Nat.zero_le _) (.int _) (nic_big (Nat.lt_of_le_of_lt (by omega : i.natAbs ≤ 10 ^ 30) (by decide +kernel))) fun _ z => nomatch z⟩
theorem odds {H : MH} {v : Int} (hv : -1000 ≤ v) (hv2 : v ≤ 1000) (lb : b < h.length) (OH : Old h H) (g0 : H[h.length]? = some (.tup [.int v])) (g1 : H[h.length + 1]? = some (.lst [.int v])) (g2 : H[h.length + 2]? = some (.dic [])) :
    OddS h.length b H (.ref h.length) ∧ OddS h.length b H (.ref (h.length + 1)) ∧ OddS h.length b H (.ref (h.length + 2)) := by
  have hl := OH.1
  refine ⟨?_, ?_, ?_⟩
  · have e := tup_at g0
    exact ⟨tup_known e, odd_tup (k := H.length) (ds := [.int v]) e (tupAt_lt e) (Nat.le_refl _) (by omega) (.cons (.int _) .nil) (fun d hd => by rw [List.mem_singleton.mp hd]; exact nic_small (by omega) (by omega)) (by simp)⟩
  · obtain ⟨k1, k2⟩ := lst_known g1
    exact ⟨k1, .lst (by omega) (by omega) g1 (.cons (.int _) .nil) (fun d hd => by rw [List.mem_singleton.mp hd]; exact (nic_small (by omega) (by omega)).mono (by omega) (by omega)) (by simp)⟩
  · obtain ⟨k1, k2⟩ := dic_known g2
    exact ⟨k1, .dic (by omega) (by omega) g2⟩
theorem odd_non {k : Nat} : OddS k b h .non := ⟨rfl, .dat (k := 0) (Nat.zero_le _) .non (nic_non.mono (by omega) (by omega)) fun _ z => nomatch z⟩
theorem odd_bl {k : Nat} (x : Bool) : OddS k b h (.bl x) := ⟨rfl, .dat (k := 0) (Nat.zero_le _) (.bl _) ((nic_bool _).mono (by omega) (by omega)) fun _ z => nomatch z⟩
theorem odd_str {k : Nat} {s : Str} (N : Nic 8 1000000 (.str s)) : OddS k b h (.str s) := ⟨rfl, .dat (k := 0) (Nat.zero_le _) (.str _) N fun _ z => nomatch z⟩
theorem odd_val {which pick more : Nat} (hp : pick < 12) (hm : more < 1000) (lb : b < h.length) (hw : which < 2) (q : ∀ w h', Old h h' → OddS h.length b h' w → (which = 0 → btw w 1 24 = false) → (which = 1 → btw w 2 64 = false) → Q w h') : (m__law_odd [.int which, .int pick, .int more] h).wp Q X := by
  unfold m__law_odd
  rw [wp_fn]
  have nb : ∀ lo hi i : Int, (i < lo ∨ hi < i) → btw (.int i) lo hi = false := fun lo hi i hi' => by
    simp only [btw, Bool.and_eq_false_iff, decide_eq_false_iff_not]
    omega
  have k2 : which = 0 ∨ which = 1 := by omega
  rcases k2 with rfl | rfl
  · simp -implicitDefEqProofs [b__law_odd]
    refine ⟨pow_ok (by decide) (by decide) (by decide), ?_⟩
    refine item_mem (by omega) (by simp; omega) fun w hw => ?_
    have OH := Old.app h [Cell.tup [W.int 3], .lst [.int 3], .dic [], .lst [W.int 0, W.int 25, W.int (-1), W.int (26 + ↑more), W.non, W.bl true, W.bl false, W.str "3", W.ref h.length, W.ref (h.length + 1), W.int 1000000000000000000000000000000, W.ref (h.length + 1 + 1)]]
    obtain ⟨o1, o2, o3⟩ := odds (v := 3) (by omega) (by omega) lb OH (at_new (i := 0) rfl) (at_new (i := 1) rfl) (at_new (i := 2) rfl)
    have fin : ∀ w, OddS h.length b _ w → btw w 1 24 = false → Q w _ := fun w O f => q w _ OH O (fun _ => f) (fun z => nomatch z)
    simp only [List.mem_cons, List.not_mem_nil, or_false] at hw
    rcases hw with rfl | rfl | rfl | rfl | rfl | rfl | rfl | rfl | rfl | rfl | rfl | rfl
    · refine fin _ ?_ ?_
      · exact OddS.int (by first | omega | decide +kernel) (by first | omega | decide +kernel)
      · simp only [btw, Bool.and_eq_false_iff, decide_eq_false_iff_not]; omega
    · refine fin _ ?_ ?_
      · exact OddS.int (by first | omega | decide +kernel) (by first | omega | decide +kernel)
      · simp only [btw, Bool.and_eq_false_iff, decide_eq_false_iff_not]; omega
    · refine fin _ ?_ ?_
      · exact OddS.int (by first | omega | decide +kernel) (by first | omega | decide +kernel)
      · simp only [btw, Bool.and_eq_false_iff, decide_eq_false_iff_not]; omega
    · refine fin _ ?_ ?_
      · exact OddS.int (by first | omega | decide +kernel) (by first | omega | decide +kernel)
      · simp only [btw, Bool.and_eq_false_iff, decide_eq_false_iff_not]; omega
    · exact fin _ odd_non rfl
    · exact fin _ (odd_bl _) rfl
    · exact fin _ (odd_bl _) rfl
    · exact fin _ (odd_str ⟨by decide +kernel, by decide, by decide +kernel, by decide +kernel⟩) rfl
    · exact fin _ o1 rfl
    · exact fin _ o2 rfl
    · refine fin _ ?_ ?_
      · exact OddS.int (by first | omega | decide +kernel) (by first | omega | decide +kernel)
      · simp only [btw, Bool.and_eq_false_iff, decide_eq_false_iff_not]; omega
    · exact fin _ o3 rfl
  · simp -implicitDefEqProofs [b__law_odd]
    refine ⟨pow_ok (by decide) (by decide) (by decide), ?_⟩
    rw [o_ix (seq_lst (at_new (i := 3) rfl))]
    refine item_mem (by omega) (by simp; omega) fun w hw => ?_
    have OH := Old.app h [Cell.tup [W.int 2], .lst [.int 2], .dic [], .lst [W.int 0, W.int 1, W.int 65, W.int (66 + ↑more), W.int (-2), W.non, W.bl true, W.str "2", W.ref h.length, W.ref (h.length + 1), W.int 1000000000000000000000000000000, W.ref (h.length + 1 + 1)]]
    obtain ⟨o1, o2, o3⟩ := odds (v := 2) (by omega) (by omega) lb OH (at_new (i := 0) rfl) (at_new (i := 1) rfl) (at_new (i := 2) rfl)
    have fin : ∀ w, OddS h.length b _ w → btw w 2 64 = false → Q w _ := fun w O f => q w _ OH O (fun z => nomatch z) (fun _ => f)
    simp only [List.mem_cons, List.not_mem_nil, or_false] at hw
    rcases hw with rfl | rfl | rfl | rfl | rfl | rfl | rfl | rfl | rfl | rfl | rfl | rfl
    · refine fin _ ?_ ?_
      · exact OddS.int (by first | omega | decide +kernel) (by first | omega | decide +kernel)
      · simp only [btw, Bool.and_eq_false_iff, decide_eq_false_iff_not]; omega
    · refine fin _ ?_ ?_
      · exact OddS.int (by first | omega | decide +kernel) (by first | omega | decide +kernel)
      · simp only [btw, Bool.and_eq_false_iff, decide_eq_false_iff_not]; omega
    · refine fin _ ?_ ?_
      · exact OddS.int (by first | omega | decide +kernel) (by first | omega | decide +kernel)
      · simp only [btw, Bool.and_eq_false_iff, decide_eq_false_iff_not]; omega
    · refine fin _ ?_ ?_
      · exact OddS.int (by first | omega | decide +kernel) (by first | omega | decide +kernel)
      · simp only [btw, Bool.and_eq_false_iff, decide_eq_false_iff_not]; omega
    · refine fin _ ?_ ?_
      · exact OddS.int (by first | omega | decide +kernel) (by first | omega | decide +kernel)
      · simp only [btw, Bool.and_eq_false_iff, decide_eq_false_iff_not]; omega
    · exact fin _ odd_non rfl
    · exact fin _ (odd_bl _) rfl
    · exact fin _ (odd_str ⟨by decide +kernel, by decide, by decide +kernel, by decide +kernel⟩) rfl
    · exact fin _ o1 rfl
    · exact fin _ o2 rfl
    · refine fin _ ?_ ?_
      · exact OddS.int (by first | omega | decide +kernel) (by first | omega | decide +kernel)
      · simp only [btw, Bool.and_eq_false_iff, decide_eq_false_iff_not]; omega
    · exact fin _ o3 rfl
theorem odd_val0 {pick more : Nat} (hp : pick < 12) (hm : more < 1000) (lb : b < h.length) (q : ∀ w h', Old h h' → OddS h.length b h' w → btw w 1 24 = false → Q w h') : (m__law_odd [.int 0, .int pick, .int more] h).wp Q X :=
  odd_val (which := 0) hp hm lb (by decide) fun w h' O od f _ => q w h' O od (f rfl)
theorem odd_val1 {pick more : Nat} (hp : pick < 12) (hm : more < 1000) (lb : b < h.length) (q : ∀ w h', Old h h' → OddS h.length b h' w → btw w 2 64 = false → Q w h') : (m__law_odd [.int 1, .int pick, .int more] h).wp Q X :=
  odd_val (which := 1) hp hm lb (by decide) fun w h' O od _ f => q w h' O od (f rfl)
/-- two tellings, alike -/
theorem ne_let {p q u v : Nat} {i j : Int} (e1 : h[p]? = some (.lst [.str "let", .ref u])) (e2 : h[u]? = some (.lst [.int i, .int j])) (f1 : h[q]? = some (.lst [.str "let", .ref v])) (f2 : h[v]? = some (.lst [.int i, .int j])) : gNe (.ref p) (.ref q) h = .ok (.bl false) h := by
  have D : ∀ {p u : Nat}, h[p]? = some (.lst [.str "let", .ref u]) → h[u]? = some (.lst [.int i, .int j]) → Den h.length h.length h (.ref p) (.list [.str "let", .list [.int i, .int j]]) := fun e1 e2 =>
    .lst (lt_of_at e1) (Nat.ne_of_lt (lt_of_at e1)) (lst_at e1) (.cons (.str _) (.cons (.lst (lt_of_at e2) (Nat.ne_of_lt (lt_of_at e2)) (lst_at e2) (.cons (.int _) (.cons (.int _) .nil))) .nil))
  have cl : PyData.canLay0 (.list [.str "let", .list [.int i, .int j]]) = true := by
    simp only [PyData.canLay0, PyData.canLayAll0]
    decide +kernel
  rw [ne_den (D e1 e2) (D f1 f2) cl cl (by simp [PyData.depth, PyData.depthAll]) (by simp [PyData.depth, PyData.depthAll])]
  simp [PyData.eqv, PyData.eqvAll]
theorem ne_one {p q : Nat} {s : Str} {i : Int} (hs : PyData.canLay0 (.str s) = true) (e1 : h[p]? = some (.lst [.str s, .int i])) (f1 : h[q]? = some (.lst [.str s, .int i])) : gNe (.ref p) (.ref q) h = .ok (.bl false) h := by
  have D : ∀ {p : Nat}, h[p]? = some (.lst [.str s, .int i]) → Den h.length h.length h (.ref p) (.list [.str s, .int i]) := fun e1 =>
    .lst (lt_of_at e1) (Nat.ne_of_lt (lt_of_at e1)) (lst_at e1) (.cons (.str _) (.cons (.int _) .nil))
  have cl : PyData.canLay0 (.list [.str s, .int i]) = true := by
    simp only [PyData.canLay0, PyData.canLayAll0] at hs ⊢
    rw [hs]; rfl
  rw [ne_den (D e1) (D f1) cl cl (by simp [PyData.depth, PyData.depthAll]) (by simp [PyData.depth, PyData.depthAll])]
  simp [PyData.eqv, PyData.eqvAll]
theorem whole_ {i : Int} (q : Q (.bl true) h) : (m__law_whole [.int i] h).wp Q X := whole_spec rfl q
def kE (b z : Nat) (us : List (Option W)) : Env := some (.ref b) :: some (.ref z) :: us
structure MakI (h0 : MH) (b z : Nat) (c : Int) (r : Env) (h : MH) : Prop where
  ex : ∃ (u2 u3 u4 u5 u6 u7 u8 u9 u10 : Option W), r = kE b z [u2, u3, u4, u5, u6, u7, u8, u9, u10]
  box : Box h b c
  ch : Ch b h0 h
structure MakA (h0 : MH) (b z : Nat) (c : Int) (r : Env) (k : MH) : Prop where
  ex : ∃ spoilt name first second more : Nat, spoilt < 4 ∧ name < 2 ∧ first < 12 ∧ second < 12 ∧ more < 1000 ∧ (∃ u2 u3 u4 u5, r = kE b z [u2, u3, u4, u5, some (.int spoilt), some (.int name), some (.int first), some (.int second), some (.int more)]) ∧ Box k b c ∧ Ch b h0 k
structure MakB (k : MH) (b z n spoilt name first second more : Nat) (r : Env) (k1 : MH) : Prop where
  ex : ∃ w : W, (∃ v2 v4 v5, r = kE b z [v2, some w, v4, v5, some (.int spoilt), some (.int name), some (.int first), some (.int second), some (.int more)]) ∧ Old k k1 ∧ ((spoilt % 2 = 0 ∧ w = .int n) ∨ (spoilt % 2 = 1 ∧ btw w 1 24 = false ∧ OddS k.length b k1 w))
structure MakC (k1 : MH) (b z m spoilt name first second more : Nat) (w1 : W) (r : Env) (k2 : MH) : Prop where
  ex : ∃ w : W, (∃ v2 v5, r = kE b z [v2, some w1, some w, v5, some (.int spoilt), some (.int name), some (.int first), some (.int second), some (.int more)]) ∧ Old k1 k2 ∧ ((spoilt < 2 ∧ w = .int m) ∨ (2 ≤ spoilt ∧ btw w 2 64 = false ∧ OddS k1.length b k2 w))
theorem makings_spec {z : Nat} (S : Sizes n m) (B : Box h b c) (hc : c < 200000) (Z : SizAt h z n m) (hz : z ≠ b) (q : ∀ h', Box h' b (c + 30) → Ch b h h' → Q (.bl true) h') : (m__law_makings_right [.ref b, .ref z] h).wp Q X := by
  have lb := B.lt
  have zl := lt_of_at Z
  unfold m__law_makings_right
  rw [wp_fn]
  unfold b__law_makings_right
  rw [ws_seq, ws_for, o_rng1]
  simp -implicitDefEqProofs only [eC, wp_ok]
  refine ⟨by decide, ?_⟩
  refine ws_rng (n := 3) (fun i r k => MakI h b z (c + 5 * i) r k) ⟨⟨_, _, _, _, _, _, _, _, _, rfl⟩, B.mono, Ch.refl _ _⟩ ?_ ?_
  · rintro i r k hi ⟨⟨u2, u3, u4, u5, u6, u7, u8, u9, u10, rfl⟩, Bk, Ck⟩
    have lk := Ck.1
    simp -implicitDefEqProofs only [gSet, wp_ok, Int.zero_add]
    rw [sSeq_assoc]
    refine ws_cut (MakA h b z (c + 5 * i + 5)) ?_ ?_
    · simp -implicitDefEqProofs [kE, ws_seq]
      refine tk Bk (by decide) (by decide) (by omega) fun spoilt k1 d1 B1 C1 l1 => ?_
      refine tk B1 (by omega) (by omega) (by omega) fun name k2 d2 B2 C2 l2 => ?_
      try simp -implicitDefEqProofs
      refine tk B2 (by decide) (by decide) (by omega) fun first k3 d3 B3 C3 l3 => ?_
      refine tk B3 (by decide) (by decide) (by omega) fun second k4 d4 B4 C4 l4 => ?_
      refine tk B4 (by decide) (by decide) (by omega) fun more k5 d5 B5 C5 l5 => ?_
      try simp -implicitDefEqProofs
      exact ⟨spoilt, name, first, second, more, by omega, by omega, by omega, by omega, by omega, ⟨_, _, _, _, rfl⟩, B5.mono, ((((Ck.trans C1).trans C2).trans C3).trans C4).trans C5⟩
    rintro r k ⟨⟨spoilt, name, first, second, more, h1, h2, h3, h4, h5, ⟨v2, v3, v4, v5, rfl⟩, Bk, Ck⟩⟩
    have lk := Ck.1
    have Zk := Z.kp Ck.kp zl hz
    -- the sizes that are passed
    refine ws_cut (MakB k b z n spoilt name first second more) ?_ ?_
    · simp -implicitDefEqProofs [kE, ws_seq]
      split
      · rename_i e
        rw [siz_ix0 Zk]
        exact ⟨⟨_, ⟨_, _, _, rfl⟩, Old.refl _, .inl ⟨by omega, rfl⟩⟩⟩
      · refine odd_val0 (b := b) h3 h5 (by omega) fun w k1 O1 od f => ?_
        exact ⟨⟨_, ⟨_, _, _, rfl⟩, O1, .inr ⟨by omega, f, od⟩⟩⟩
    rintro r k1 ⟨⟨w1, ⟨v2, v4, v5, rfl⟩, O1, c1⟩⟩
    refine ws_cut (MakC k1 b z m spoilt name first second more w1) ?_ ?_
    · simp -implicitDefEqProofs [kE, ws_seq]
      split
      · rename_i e
        rw [siz_ix1 (Zk.old O1)]
        exact ⟨⟨_, ⟨_, _, rfl⟩, Old.refl _, .inl ⟨by omega, rfl⟩⟩⟩
      · refine odd_val1 (b := b) h4 h5 (by have := O1.1; omega) fun w k2 O2 od f => ?_
        exact ⟨⟨_, ⟨_, _, rfl⟩, O2, .inr ⟨by omega, f, od⟩⟩⟩
    rintro r k2 ⟨⟨w2, ⟨v2, v5, rfl⟩, O2, c2⟩⟩
    have l1 := O1.1
    have l2 := O2.1
    have B2 := Bk.old (O1.trans O2)
    have done : ∀ k4, Kp k.length b k2 k4 → Box k4 b (c + 5 * i + 5) → Ch b h k4 := fun k4 C4 _ => Ck.trans ((((O1.trans O2).kp b).trans C4).ch)
    have Zk2 := Zk.old (O1.trans O2)
    have nf : (m : Int) = m := rfl
    by_cases s1 : spoilt % 2 = 1
    · -- the blocks are refused
      obtain ⟨_, f1, od⟩ := c1.resolve_left fun z => by omega
      have od2 := od.od.up (O2.kp b)
      have kn2 := known_old O2 od.kn
      have e1 : ((spoilt : Int) % 2 = 0) = False := by simp; omega
      have e3 : ((spoilt : Int) % 2 = 1) = True := by simp; omega
      simp -implicitDefEqProofs [kE, ws_seq, e3]
      refine made_blocks h2 kn2 f1 fun t k3 lt O3 e => ?_
      try simp -implicitDefEqProofs [e3]
      refine same_spec (lo := k.length) (od2.up (O3.kp b)) e (fun p hp => by subst hp; have := od2.lt; omega) fun k4 C4 B4 => ?_
      try simp -implicitDefEqProofs
      have B4' := B4 _ (B2.old O3)
      exact ⟨⟨_, _, _, _, _, _, _, _, _, rfl⟩, B4'.mono, done k4 (((O3.kp b).low (by omega)).trans C4) B4'⟩
    · obtain ⟨_, rfl⟩ := c1.resolve_right fun z => by omega
      have e3 : ((spoilt : Int) % 2 = 1) = False := by simp; omega
      by_cases s2 : spoilt = 2
      · obtain ⟨_, f2, od⟩ := c2.resolve_left fun z => by omega
        have od2 := od.od
        have e4 : ((spoilt : Int) = 2) = True := by simp; omega
        simp -implicitDefEqProofs [kE, ws_seq, e3, e4]
        refine made_contents h2 rfl od.kn (btw_nat S.n0 S.n1) f2 fun t k3 lt O3 e => ?_
        simp -implicitDefEqProofs [e3, e4, s2]
        refine same_spec (lo := k1.length) (od2.up (O3.kp b)) e (fun p hp => by subst hp; have := od2.lt; omega) fun k4 C4 B4 => ?_
        try simp -implicitDefEqProofs
        have B4' := B4 _ (B2.old O3)
        exact ⟨⟨_, _, _, _, _, _, _, _, _, rfl⟩, B4'.mono, done k4 (((O3.kp b).low (by omega)).trans (C4.low (by omega))) B4'⟩
      · obtain ⟨_, rfl⟩ := c2.resolve_right fun z => by omega
        have e4 : ((spoilt : Int) = 2) = False := by simp; omega
        simp -implicitDefEqProofs [kE, ws_seq, e3, e4]
        refine made_ok S h2 fun t u k3 lt lu O3 e eu => ?_
        simp -implicitDefEqProofs [e3, e4, s2, siz_ix0 (Zk2.old O3), siz_ix1 (Zk2.old O3)]
        have e' := app_at e [Cell.lst [W.int ↑n, W.int ↑m], Cell.lst [W.str "let", W.ref k3.length]]
        have eu' := app_at eu [Cell.lst [W.int ↑n, W.int ↑m], Cell.lst [W.str "let", W.ref k3.length]]
        rw [ne_let e' eu' (at_new (i := 1) rfl) (at_new (i := 0) rfl)]
        simp -implicitDefEqProofs [o_ix (seq_lst e'), o_ix (seq_lst eu')]
        refine whole_ ?_
        simp -implicitDefEqProofs [o_ix (seq_lst e'), o_ix (seq_lst eu')]
        refine whole_ ?_
        simp -implicitDefEqProofs
        have O4 := O3.trans (Old.app k3 [Cell.lst [W.int ↑n, W.int ↑m], Cell.lst [W.str "let", W.ref k3.length]])
        exact ⟨⟨_, _, _, _, _, _, _, _, _, rfl⟩, (B2.old O4).mono, done _ ((O4.kp b).low (by omega)) (B2.old O4)⟩
  · rintro r k ⟨⟨u2, u3, u4, u5, u6, u7, u8, u9, u10, rfl⟩, Bk, Ck⟩
    simp -implicitDefEqProofs
    exact q k Bk.mono Ck
theorem in_two {p : Nat} {i a c : Int} (e : h[p]? = some (.lst [.int a, .int c])) : gIn (.int i) (.ref p) h = .ok (.bl (decide (a = i) || decide (c = i))) h := by
  have D : Den h.length h.length h (.ref p) (.list [.int a, .int c]) := .lst (lt_of_at e) (Nat.ne_of_lt (lt_of_at e)) (lst_at e) (.cons (.int _) (.cons (.int _) .nil))
  unfold gIn
  simp only [D.data dep (by unfold dep; simp [PyData.depth, PyData.depthAll]), (Den.int i : Den h.length h.length h _ _).data dep (by unfold dep; simp [PyData.depth])]
  rw [if_pos ⟨by rfl, by rfl⟩]
  simp [PyData.eqv, Bool.beq_eq_decide_eq]
structure BndI (h0 : MH) (r : Env) (k : MH) : Prop where
  old : Old h0 k
  ex : ∃ u0 u1 u2, r = [u0, u1, u2]
structure BndJ (h0 : MH) (x : Int) (r : Env) (k : MH) : Prop where
  old : Old h0 k
  ex : ∃ u1 u2, r = [some (.int x), u1, u2]
structure BndK (h0 : MH) (x y : Int) (r : Env) (k : MH) : Prop where
  old : Old h0 k
  ex : ∃ u, r = [some (.int x), some (.int y), some (.ref u)] ∧ ((x = 0 ∨ x = 25) ∧ k[u]? = some (.lst [.str "blocks", .int x]) ∨ (x = 1 ∨ x = 24) ∧ ((y = 2 ∨ y = 64) ∧ (∃ v, k[u]? = some (.lst [.str "let", .ref v]) ∧ k[v]? = some (.lst [.int x, .int y])) ∨ (y = 1 ∨ y = 65) ∧ k[u]? = some (.lst [.str "contents", .int y])))
theorem bounds_spec (q : ∀ h', Old h h' → Q (.bl true) h') : (m__law_bounds_right [] h).wp Q X := by
  unfold m__law_bounds_right
  rw [wp_fn]
  unfold b__law_bounds_right
  rw [ws_seq, ws_forL]
  simp -implicitDefEqProofs only [o_lst, aCons, aNil, eC, wp_bind, wp_ok]
  refine ⟨by decide, ?_⟩
  generalize hH : h ++ [Cell.lst [W.int 0, W.int 1, W.int 24, W.int 25]] = H
  have e0 : H[h.length]? = some (.lst [.int 0, .int 1, .int 24, .int 25]) := by rw [← hH]; exact new_at _ _
  have O0 : Old h H := by rw [← hH]; exact Old.app _ _
  refine ws_sq e0 rfl (fun i r k => BndI H r k) ⟨Old.refl _, _, _, _, rfl⟩ (fun i r k w => w.old.at e0) ?_ ?_
  · rintro i x r k hx0 ⟨O, u0, u1, u2, rfl⟩
    obtain ⟨x, rfl, hx⟩ : ∃ v : Int, x = .int v ∧ (v = 0 ∨ v = 1 ∨ v = 24 ∨ v = 25) := by
      have := List.mem_of_getElem? hx0
      simp at this
      rcases this with rfl | rfl | rfl | rfl <;> exact ⟨_, rfl, by decide⟩
    rw [gSet, wp_ok, ws_forL]
    simp -implicitDefEqProofs only [o_lst, aCons, aNil, eC, wp_bind, wp_ok]
    refine ⟨by decide, ?_⟩
    generalize hK : k ++ [Cell.lst [W.int 1, W.int 2, W.int 64, W.int 65]] = K
    have e1 : K[k.length]? = some (.lst [.int 1, .int 2, .int 64, .int 65]) := by rw [← hK]; exact new_at _ _
    have O1 : Old H K := by rw [← hK]; exact O.trans (Old.app _ _)
    refine ws_sq e1 rfl (fun j r k => BndJ K x r k) ⟨Old.refl _, _, _, rfl⟩ (fun i r k w => w.old.at e1) ?_ ?_
    · clear hx0
      rintro j y r k' hy0 ⟨O2, u1, u2, rfl⟩
      obtain ⟨y, rfl, hy⟩ : ∃ v : Int, y = .int v ∧ (v = 1 ∨ v = 2 ∨ v = 64 ∨ v = 65) := by
        have := List.mem_of_getElem? hy0
        simp at this
        rcases this with rfl | rfl | rfl | rfl <;> exact ⟨_, rfl, by decide⟩
      clear hy0
      rw [gSet, wp_ok, sSeq_assoc]
      refine ws_cut (BndK K x y) ?_ ?_
      · rw [ws_seq, ws_set]
        simp -implicitDefEqProofs only [eIf, tBl, eBin, wp_bind, eVar, List.set_cons_zero, List.set_cons_succ, List.getElem?_cons_zero, List.getElem?_cons_succ, wp_ok, o_lst, aCons, aNil, eC]
        refine ⟨by decide, ?_⟩
        rw [in_two (new_at _ _), wp_ok]
        simp -implicitDefEqProofs
        split
        · rw [in_two (at_new (i := 3) rfl), wp_ok]
          simp -implicitDefEqProofs
          split
          · exact ⟨O2.trans (Old.app k' _), _, rfl, .inl ⟨by omega, by simp⟩⟩
          · exact ⟨O2.trans (Old.app k' _), _, rfl, .inr ⟨by omega, .inl ⟨by omega, _, at_new (i := 2) rfl, at_new (i := 1) rfl⟩⟩⟩
        · rw [in_two (at_new (i := 2) rfl), wp_ok]
          simp -implicitDefEqProofs
          split
          · exact ⟨O2.trans (Old.app k' _), _, rfl, .inl ⟨by omega, by simp⟩⟩
          · exact ⟨O2.trans (Old.app k' _), _, rfl, .inr ⟨by omega, .inr ⟨by omega, at_new (i := 1) rfl⟩⟩⟩
      · rintro r k2 ⟨O3, u, rfl, e⟩
        simp -implicitDefEqProofs
        have nb : ∀ lo hi i : Int, (i < lo ∨ hi < i) → btw (.int i) lo hi = false := fun lo hi i hi' => by
          simp only [btw, Bool.and_eq_false_iff, decide_eq_false_iff_not]
          omega
        rcases e with ⟨ex, e⟩ | ⟨ex, ⟨ey, v, e, ev⟩ | ⟨ey, e⟩⟩
        · refine made_blocks (way := 1) (by decide) rfl (nb _ _ _ (by omega)) fun t k3 lt O4 e2 => ?_
          rw [ne_one (by decide +kernel) e2 (O4.at e)]
          simp -implicitDefEqProofs
          exact ⟨O3.trans O4, _, _, rfl⟩
        · obtain ⟨n, m, rfl, rfl, S⟩ : ∃ n m : Nat, x = n ∧ y = m ∧ Sizes n m := ⟨x.toNat, y.toNat, by omega, by omega, by omega, by omega, by omega, by omega⟩
          refine made_ok (way := 1) S (by decide) fun t u' k3 lt lu O4 e2 eu => ?_
          rw [ne_let e2 eu (O4.at e) (O4.at ev)]
          simp -implicitDefEqProofs
          exact ⟨O3.trans O4, _, _, rfl⟩
        · have fx : btw (.int x) 1 24 = true := by simp only [btw, Bool.and_eq_true, decide_eq_true_eq]; omega
          refine made_contents (way := 1) (by decide) rfl rfl fx (nb _ _ _ (by omega)) fun t k3 lt O4 e2 => ?_
          rw [ne_one (by decide +kernel) e2 (O4.at e)]
          simp -implicitDefEqProofs
          exact ⟨O3.trans O4, _, _, rfl⟩
    · rintro r k2 ⟨O3, u1, u2, rfl⟩
      exact ⟨O1.trans O3, _, _, _, rfl⟩
  · rintro r k ⟨O, u0, u1, u2, rfl⟩
    simp -implicitDefEqProofs
    exact q k (O0.trans O)
end
end K01
set_option Elab.async false
set_option autoImplicit false
set_option linter.all false
set_option maxRecDepth 100000
namespace K01
open Mini Lb
open PySem (Str PyData)
section
variable {h : MH} {b : Nat} {c : Int} {Q : W → MH → Prop} {X : XQ} {d n m : Nat} {w : W}
theorem make_ {n m : Nat} (S : Sizes n m) (q : Q (.ref h.length) (h ++ [.ins 4 [("blocks", .int n), ("contents", .int m)]])) : (newIns 4 m_Disk___init__ [.int n, .int m] h).wp Q X := disk_ok (okB := okD) (okC := okD) (xB := 0) (xC := 1) S rfl rfl q
theorem pick10 {x y : W} : pick [1, 0] [x, y] = [y, x] := rfl
theorem ins_lst {p : Nat} {xs : List W} (e : h[p]? = some (.lst xs)) : insOf (.ref p) h = none := by unfold insOf; simp only [e]
theorem ins_tup {p : Nat} {xs : List W} (e : h[p]? = some (.tup xs)) : insOf (.ref p) h = none := by unfold insOf; simp only [e]
theorem neO_ {x y : W} (e : insOf x h = none) : neO eqFs x y h = gNe x y h := by unfold neO; rw [e]
theorem eqO_ {x y : W} (e : insOf x h = none) : eqO eqFs x y h = gEq x y h := by unfold eqO; rw [e]
theorem ins_disk {z n m : Nat} (D : DiskAt h z 4 n m) : insOf (.ref z) h = some 4 ∧ known (.ref z) h = true ∧ tupOf h (.ref z) = none := by
  have D' : h[z]? = some (.ins 4 [("blocks", .int n), ("contents", .int m)]) := D
  unfold insOf Mini.known tupOf tupAt
  simp only [D']
  exact ⟨trivial, trivial, trivial⟩
theorem eqO_disk {z1 z2 n1 m1 n2 m2 : Nat} (D1 : DiskAt h z1 4 n1 m1) (D2 : DiskAt h z2 4 n2 m2) : eqO eqFs (.ref z1) (.ref z2) h = .ok (.bl (decide (n1 = n2) && decide (m1 = m2))) h := by
  have z := disk_eq (okB := okD) (okC := okD) (Q := fun w h' => w = .bl (decide (n1 = n2) && decide (m1 = m2)) ∧ h' = h) (X := fun _ _ _ => False) D1 D2 rfl rfl ⟨rfl, rfl⟩
  obtain ⟨a, h', e, rfl, rfl⟩ := z.toOk
  have e' : m_Disk___eq__ [.ref z1, .ref z2] h' = .ok (.bl (decide (n1 = n2) && decide (m1 = m2))) h' := e
  unfold eqO
  rw [(ins_disk D1).1]
  have ef : eqFs 4 = some m_Disk___eq__ := rfl
  simp only [ef, (ins_disk D2).2.1, if_true, e', R.quiet, R.bind]
theorem neO_disk {z1 z2 n1 m1 n2 m2 : Nat} (D1 : DiskAt h z1 4 n1 m1) (D2 : DiskAt h z2 4 n2 m2) : neO eqFs (.ref z1) (.ref z2) h = .ok (.bl (!(decide (n1 = n2) && decide (m1 = m2)))) h := by
  have z := disk_eq (okB := okD) (okC := okD) (Q := fun w h' => w = .bl (decide (n1 = n2) && decide (m1 = m2)) ∧ h' = h) (X := fun _ _ _ => False) D1 D2 rfl rfl ⟨rfl, rfl⟩
  obtain ⟨a, h', e, rfl, rfl⟩ := z.toOk
  have e' : m_Disk___eq__ [.ref z1, .ref z2] h' = .ok (.bl (decide (n1 = n2) && decide (m1 = m2))) h' := e
  unfold neO
  rw [(ins_disk D1).1]
  have ef : eqFs 4 = some m_Disk___eq__ := rfl
  simp only [ef, (ins_disk D2).1, if_true, e', R.quiet, R.bind]
theorem eqO_exc {z n m t : Nat} {fs : List (Str × W)} (D : DiskAt h z 4 n m) (e1 : h[t + 1]? = some (.exo 0 (some t))) (e2 : h[t]? = some (.xd fs)) : eqO eqFs (.ref z) (.ref (t + 1)) h = .ok (.bl false) h := by
  have kn : known (.ref (t + 1)) h = true := by unfold Mini.known xdAt; simp only [e1, e2]
  have cl : clsOf (.ref (t + 1)) h ≠ some 4 := by unfold clsOf; simp only [e1]; decide
  have y := disk_eq_other (okB := okD) (okC := okD) (z1 := z) (Q := fun w h' => w = .bl false ∧ h' = h) (X := fun _ _ _ => False) kn cl ⟨rfl, rfl⟩
  obtain ⟨a, h', e, rfl, rfl⟩ := y.toOk
  have e' : m_Disk___eq__ [.ref z, .ref (t + 1)] h' = .ok (.bl false) h' := e
  unfold eqO
  rw [(ins_disk D).1]
  have ef : eqFs 4 = some m_Disk___eq__ := rfl
  simp only [ef, kn, if_true, e', R.quiet, R.bind]
theorem ne_pair {p q : Nat} {i j : Int} (e1 : h[p]? = some (.lst [.int i, .int j])) (f1 : h[q]? = some (.lst [.int i, .int j])) : gNe (.ref p) (.ref q) h = .ok (.bl false) h := by
  have D : ∀ {p : Nat}, h[p]? = some (.lst [.int i, .int j]) → Den h.length h.length h (.ref p) (.list [.int i, .int j]) := fun e1 =>
    .lst (lt_of_at e1) (Nat.ne_of_lt (lt_of_at e1)) (lst_at e1) (.cons (.int _) (.cons (.int _) .nil))
  rw [ne_den (D e1) (D f1) rfl rfl (by simp [PyData.depth, PyData.depthAll]) (by simp [PyData.depth, PyData.depthAll])]
  simp [PyData.eqv, PyData.eqvAll]
theorem neO_pair {i j : Int} : neO eqFs (.ref h.length) (.ref (h.length + 1)) (h ++ [.lst [.int i, .int j], .lst [.int i, .int j]]) = .ok (.bl false) (h ++ [.lst [.int i, .int j], .lst [.int i, .int j]]) := by
  have e0 : (h ++ [Cell.lst [.int i, .int j], .lst [.int i, .int j]])[h.length]? = some (.lst [.int i, .int j]) := at_new (i := 0) rfl
  rw [neO_ (ins_lst e0), ne_pair e0 (at_new (i := 1) rfl)]
/-- the two disks and their sizes -/
structure Two (h : MH) (b p g : Nat) (n1 m1 n2 m2 : Nat) : Prop where
  s1 : Sizes n1 m1
  s2 : Sizes n2 m2
  ex : ∃ z1 z2 d1 d2, h[p]? = some (.lst [.ref z1, .ref z2]) ∧ SizAt h z1 n1 m1 ∧ SizAt h z2 n2 m2 ∧ h[g]? = some (.lst [.ref d1, .ref d2]) ∧ DiskAt h d1 4 n1 m1 ∧ DiskAt h d2 4 n2 m2 ∧ p ≠ b ∧ g ≠ b ∧ z1 ≠ b ∧ z2 ≠ b ∧ d1 ≠ b ∧ d2 ≠ b
theorem Two.ch {h' : MH} {p g n1 m1 n2 m2 : Nat} (T : Two h b p g n1 m1 n2 m2) (C : Ch b h h') : Two h' b p g n1 m1 n2 m2 := by
  obtain ⟨s1, s2, z1, z2, d1, d2, e1, e2, e3, e4, e5, e6, a1, a2, a3, a4, a5, a6⟩ := T
  exact ⟨s1, s2, z1, z2, d1, d2, C.at e1 a1, e2.ch C a3, e3.ch C a4, C.at e4 a2, C.at e5 a5, C.at e6 a6, a1, a2, a3, a4, a5, a6⟩
def gE (b p g : Nat) (us : List (Option W)) : Env := some (.ref b) :: some (.ref p) :: some (.ref g) :: us
structure RgI (h0 : MH) (b : Nat) (c : Int) (r : Env) (k : MH) : Prop where
  ex : ∃ (p g n1 m1 n2 m2 : Nat) (u3 u4 u5 u6 u7 : Option W), r = gE b p g [u3, u4, u5, u6, u7] ∧ Two k b p g n1 m1 n2 m2
  box : Box k b c
  ch : Ch b h0 k
/-- a list of two fillings -/
structure FL (lo : Nat) (b n m f : Nat) (h : MH) : Prop where
  ex : ∃ p1 p2 xs1 xs2, h[f]? = some (.lst [.ref p1, .ref p2]) ∧ RowAt h p1 xs1 ∧ RowAt h p2 xs2 ∧ Fil n m xs1 ∧ Fil n m xs2 ∧ f ≠ b ∧ p1 ≠ b ∧ p2 ≠ b ∧ lo < f ∧ lo < p1 ∧ lo < p2
theorem FL.ch {h' : MH} {lo f : Nat} (L : FL lo b n m f h) (C : Ch b h h') : FL lo b n m f h' := by
  obtain ⟨p1, p2, xs1, xs2, e, R1, R2, F1, F2, a1, a2, a3, l1, l2, l3⟩ := L
  exact ⟨p1, p2, xs1, xs2, C.at e a1, R1.kp C.kp R1.lt a2, R2.kp C.kp R2.lt a3, F1, F2, a1, a2, a3, l1, l2, l3⟩
theorem FL.set {lo f : Nat} (L : FL lo b n m f h) (x : Cell) : FL lo b n m f (h.set lo x) := by
  obtain ⟨p1, p2, xs1, xs2, e, R1, R2, F1, F2, a1, a2, a3, l1, l2, l3⟩ := L
  refine ⟨p1, p2, xs1, xs2, ?_, ?_, ?_, F1, F2, a1, a2, a3, l1, l2, l3⟩
  · rw [List.getElem?_set_ne (by omega)]; exact e
  · exact (tupAt_eq (List.getElem?_set_ne (by omega))).trans R1
  · exact (tupAt_eq (List.getElem?_set_ne (by omega))).trans R2
structure InI (h1 : MH) (b n m : Nat) (c : Int) (j : Nat) (acc : List W) (h : MH) : Prop where
  ch : Ch b h1 h
  box : Box h b (c + 40 * j)
  lt : h1.length < h.length
  ex : ∃ ps : List Nat, acc = ps.map .ref ∧ ps.length = j ∧ ∀ p ∈ ps, (∃ xs, RowAt h p xs ∧ Fil n m xs) ∧ h1.length < p
theorem fills_spec {z : Nat} {r : Env} (S : Sizes n m) (B : Box h b c) (hc : c < 100000) (Z : SizAt h z n m) (hz : z ≠ b) (r0 : r[0]? = some (some (.ref b))) (r6 : r[6]? = some (some (.ref z))) (q : ∀ f h', FL (h.length - 1) b n m f h' → Box h' b (c + 80) → Ch b h h' → Q (.ref f) h') :
    (lcR_ 2 [7] (gSet 7) tYes (Mini.eCall m__law_filling (aCons (eVar 0) (aCons (eBin gIx (eVar 6) (eC (.int 0))) (aCons (eBin gIx (eVar 6) (eC (.int 1))) aNil)))) r h).wp Q X := by
  have lb := B.lt
  refine wp_lc_n (n := 2) (by decide) (InI h b n m c) ⟨(Old.app _ _).ch b, (B.app _).mono, by rw [List.length_append]; exact Nat.lt_succ_self _, [], rfl, rfl, fun p hp => nomatch hp⟩ ?_ ?_
  · rintro i acc h1 hi e ⟨C, Bx, lt, ps, rfl, lp, hp⟩
    have s0 : ((wipe r [7]).set 7 (some (.int i)))[0]? = some (some (.ref b)) := by simp [r0]
    have s6 : ((wipe r [7]).set 7 (some (.int i)))[6]? = some (some (.ref z)) := by simp [r6]
    have Z1 := Z.ch C hz
    simp -implicitDefEqProofs only [gSet, wp_ok, tYes, if_true, eCall, wp_bind, aCons, aNil, eVar, s0, s6, eBin, eC, siz_ix0 Z1, siz_ix1 Z1]
    refine filling_spec S Bx (by omega) fun p xs h2 F R lp2 B2 C2 => ?_
    have hb : h.length ≠ b := by omega
    refine ⟨C2.at e hb, ⟨?_, (B2.set _ hb).mono, by rw [List.length_set]; have := C2.1; omega, ps ++ [p], by simp, by simp [lp], fun p' hp' => ?_⟩⟩
    · exact ((C.trans C2).kp.set _ (.inl (Nat.le_refl _))).ch
    · rcases (List.mem_append.mp hp' : _) with hp' | hp'
      · obtain ⟨⟨ys, Ry, Fy⟩, l⟩ := hp p' hp'
        have Ry2 := Ry.kp C2.kp Ry.lt (by omega)
        exact ⟨⟨ys, (tupAt_eq (List.getElem?_set_ne (by omega))).trans Ry2, Fy⟩, l⟩
      · rw [List.mem_singleton.mp hp']
        exact ⟨⟨xs, (tupAt_eq (List.getElem?_set_ne (by omega))).trans R, F⟩, by omega⟩
  · rintro acc h1 e ⟨C, Bx, lt, ps, rfl, lp, hp⟩
    match ps, lp with
    | [p1, p2], _ =>
      obtain ⟨⟨xs1, R1, F1⟩, l1⟩ := hp p1 (by simp)
      obtain ⟨⟨xs2, R2, F2⟩, l2⟩ := hp p2 (by simp)
      exact q _ h1 ⟨p1, p2, xs1, xs2, e, R1, R2, F1, F2, by omega, by omega, by omega, by omega, by omega, by omega⟩ (Bx.mono (by omega)) C
structure OuI (k : MH) (b n1 m1 n2 m2 : Nat) (c : Int) (i : Nat) (acc : List W) (h : MH) : Prop where
  ch : Ch b k h
  box : Box h b (c + 80 * i)
  lt : k.length < h.length
  ex : (i = 0 ∧ acc = []) ∨ (i = 1 ∧ ∃ f, acc = [.ref f] ∧ FL k.length b n1 m1 f h) ∨ (i = 2 ∧ ∃ f f', acc = [.ref f, .ref f'] ∧ FL k.length b n1 m1 f h ∧ FL k.length b n2 m2 f' h)
structure RgF (h0 : MH) (b : Nat) (c : Int) (r : Env) (k : MH) : Prop where
  ex : ∃ (p g f n1 m1 n2 m2 : Nat) (u3 u4 u6 u7 : Option W), r = gE b p g [u3, u4, some (.ref f), u6, u7] ∧ Two k b p g n1 m1 n2 m2 ∧
    ∃ f1 f2, k[f]? = some (.lst [.ref f1, .ref f2]) ∧ FL 0 b n1 m1 f1 k ∧ FL 0 b n2 m2 f2 k ∧ f ≠ b
  box : Box k b c
  ch : Ch b h0 k
theorem FL.low {lo f : Nat} (L : FL lo b n m f h) : FL 0 b n m f h := by
  obtain ⟨p1, p2, xs1, xs2, e, R1, R2, F1, F2, a1, a2, a3, l1, l2, l3⟩ := L
  exact ⟨p1, p2, xs1, xs2, e, R1, R2, F1, F2, a1, a2, a3, by omega, by omega, by omega⟩
theorem right_spec (B : Box h b c) (hc : c < 1000) (q : ∀ h', Box h' b (c + 1000) → Ch b h h' → Q (.bl true) h') : (m__law_right [.ref b] h).wp Q X := by
  have lb := B.lt
  unfold m__law_right
  rw [wp_fn]
  unfold b__law_right
  rw [sSeq_assoc]
  refine ws_cut (RgI h b (c + 40)) ?_ ?_
  · simp -implicitDefEqProofs [ws_seq]
    refine pair_spec B (by omega) fun p k n1 m1 n2 m2 P B1 C1 => ?_
    obtain ⟨S1, S2, z1, z2, e, Z1, Z2, l1, l2, l3⟩ := P
    simp -implicitDefEqProofs [o_ix (seq_lst e)]
    rw [siz_ix0 Z1]
    simp -implicitDefEqProofs [o_ix (seq_lst e)]
    rw [siz_ix1 Z1]
    refine make_ S1 ?_
    simp -implicitDefEqProofs [o_ix (seq_lst (app_at e _))]
    have OA := Old.app k [Cell.ins 4 [("blocks", .int n1), ("contents", .int m1)]]
    rw [siz_ix1 (Z2.old OA)]
    simp -implicitDefEqProofs [o_ix (seq_lst (app_at e _))]
    rw [siz_ix0 (Z2.old OA), pick10]
    refine make_ S2 ?_
    simp -implicitDefEqProofs
    have OB := Old.app k [Cell.ins 4 [("blocks", .int n1), ("contents", .int m1)], .ins 4 [("blocks", .int n2), ("contents", .int m2)], .lst [.ref k.length, .ref (k.length + 1)]]
    have lk := C1.1
    refine ⟨⟨p, k.length + 2, n1, m1, n2, m2, _, _, _, _, _, rfl, S1, S2, z1, z2, k.length, k.length + 1, OB.at e, Z1.old OB, Z2.old OB, at_new (i := 2) rfl, at_new (i := 0) rfl, at_new (i := 1) rfl, by omega, by omega, by omega, by omega, by omega, by omega⟩, B1.old OB, C1.trans (OB.ch b)⟩
  rintro r k ⟨⟨p, g, n1, m1, n2, m2, u3, u4, u5, u6, u7, rfl, T⟩, Bk, Ck⟩
  rw [sSeq_assoc, sSeq_assoc, sSeq_assoc, sSeq_assoc]
  refine ws_cut (RgI h b (c + 40)) ?_ ?_
  · obtain ⟨S1, S2, z1, z2, d1, d2, e, Z1, Z2, eg, D1, D2, a1, a2, a3, a4, a5, a6⟩ := id T
    rw [ws_seq, ws_seq, ws_seq, ws_seq, ws_for, o_rng1]
    simp -implicitDefEqProofs only [eC, wp_ok]
    refine ⟨by decide, ?_⟩
    refine ws_rng (n := 2) (fun i r k1 => Old k k1 ∧ ∃ u3, r = gE b p g [u3, u4, u5, u6, u7]) ⟨Old.refl _, _, rfl⟩ ?_ ?_
    · rintro i r k1 hi ⟨O, u, rfl⟩
      have i2 : i = 0 ∨ i = 1 := by omega
      have el := seq_lst (O.at e)
      have gl := seq_lst (O.at eg)
      rcases i2 with rfl | rfl
      · simp -implicitDefEqProofs [gE, o_ix el, o_ix gl, DiskAt.blocks (okB := okD) (D1.old O) rfl, DiskAt.contents (okC := okD) (D1.old O) rfl]
        simp -implicitDefEqProofs [o_ix (seq_lst (app_at (O.at e) _)), siz_ix0 ((Z1.old O).old (Old.app k1 _)), siz_ix1 ((Z1.old O).old (Old.app k1 _))]
        rw [neO_pair]
        simp -implicitDefEqProofs
        exact O.trans (Old.app k1 _)
      · simp -implicitDefEqProofs [gE, o_ix el, o_ix gl, DiskAt.blocks (okB := okD) (D2.old O) rfl, DiskAt.contents (okC := okD) (D2.old O) rfl]
        simp -implicitDefEqProofs [o_ix (seq_lst (app_at (O.at e) _)), siz_ix0 ((Z2.old O).old (Old.app k1 _)), siz_ix1 ((Z2.old O).old (Old.app k1 _))]
        rw [neO_pair]
        simp -implicitDefEqProofs
        exact O.trans (Old.app k1 _)
    · rintro r k1 ⟨O, u, rfl⟩
      have e1 := O.at e
      have eg1 := O.at eg
      have p01 : decide ([(n1 : Int), (m1 : Int)] = [(n2 : Int), (m2 : Int)]) = (decide (n1 = n2) && decide (m1 = m2)) := by
        rw [← Bool.decide_and]
        apply decide_eq_decide.mpr
        simp
        omega
      have q1 : gEq (.ref z1) (.ref z2) k1 = .ok (.bl (decide (n1 = n2) && decide (m1 = m2))) k1 := by rw [← p01]; exact eq_tups (tup_at (Z1.old O)) (tup_at (Z2.old O))
      have q2 : gNe (.ref z1) (.ref z2) k1 = .ok (.bl (!(decide (n1 = n2) && decide (m1 = m2)))) k1 := by rw [← p01]; exact ne_tups (tup_at (Z1.old O)) (tup_at (Z2.old O))
      have i1 : insOf (.ref z1) k1 = none := ins_tup (Z1.old O)
      have nb : ∀ x y : Bool, neO eqFs (.bl x) (.bl y) k1 = .ok (.bl (!decide (x = y))) k1 := fun x y => by rw [neO_ rfl]; exact o_neB
      have sy : (decide (n2 = n1) && decide (m2 = m1)) = (decide (n1 = n2) && decide (m1 = m2)) := by
        rw [show decide (n2 = n1) = decide (n1 = n2) by apply decide_eq_decide.mpr; omega, show decide (m2 = m1) = decide (m1 = m2) by apply decide_eq_decide.mpr; omega]
      simp -implicitDefEqProofs [gE, o_ix (seq_lst e1), o_ix (seq_lst eg1), eqO_disk (D1.old O) (D2.old O), neO_disk (D2.old O) (D1.old O), eqO_ i1, neO_ i1, q1, q2, nb, sy]
      rw [siz_ix0 (Z1.old O)]
      have OX := Old.app k1 [Cell.xd [("given", .int n1)], .exo 0 (some k1.length)]
      rw [eqO_exc ((D1.old O).old OX) (at_new (i := 1) rfl) (at_new (i := 0) rfl)]
      revert OX
      generalize k1 ++ [Cell.xd [("given", .int n1)], .exo 0 (some k1.length)] = k2
      intro OX
      have O2 := O.trans OX
      simp -implicitDefEqProofs [o_ix (seq_lst (O2.at eg)), o_ix (seq_lst (O2.at e)), siz_ix0 (Z2.old O2), siz_ix1 (Z2.old O2)]
      refine make_ S2 ?_
      have OY := Old.app k2 [Cell.ins 4 [("blocks", .int n2), ("contents", .int m2)]]
      rw [eqO_disk (D2.old (O2.trans OY)) (show DiskAt _ k2.length 4 n2 m2 from new_at _ _)]
      revert OY
      generalize k2 ++ [Cell.ins 4 [("blocks", .int n2), ("contents", .int m2)]] = k3
      intro OY
      have O3 := O2.trans OY
      simp -implicitDefEqProofs [o_ix (seq_lst (O3.at eg))]
      have J2 := ins_disk (D2.old O3)
      refine refusal_fill (kind := 0) S1 (D1.old O3) (by decide) (items_non J2.2.1 J2.2.2) (con_non J2.2.2) fun t k4 lt O4 e4 => ?_
      have O04 := O3.trans O4
      have ns : neO eqFs (.str "filling") (.str "filling") k4 = .ok (.bl false) k4 := by rw [neO_ rfl, o_neS]; simp
      simp -implicitDefEqProofs [o_ix (seq_lst e4), ns, o_ix (seq_lst (O04.at eg)), eqO_disk (D2.old O04) (D2.old O04)]
      have J1 := ins_disk (D1.old O04)
      refine is_filling_spec (okB := okD) (okC := okD) (D2.old O04) rfl rfl (items_non J1.2.1 J1.2.2) fun k5 O5 => ?_
      rw [con_non J1.2.2]
      simp -implicitDefEqProofs
      have O05 := O04.trans O5
      exact ⟨⟨p, g, n1, m1, n2, m2, _, _, _, _, _, rfl, T.ch (O05.ch b)⟩, Bk.old O05, Ck.trans (O05.ch b)⟩
  rintro r k ⟨⟨p, g, n1, m1, n2, m2, u3, u4, u5, u6, u7, rfl, T⟩, Bk, Ck⟩
  refine ws_cut (RgF h b (c + 220)) ?_ ?_
  · obtain ⟨S1, S2, z1, z2, d1, d2, e, Z1, Z2, eg, D1, D2, a1, a2, a3, a4, a5, a6⟩ := id T
    simp -implicitDefEqProofs [gE]
    have lk := Bk.lt
    refine wp_lc_sq e rfl (by simp) (OuI k b n1 m1 n2 m2 (c + 40)) (fun i acc h1 w => w.ch.at e a1) ⟨(Old.app _ _).ch b, (Bk.app _).mono, by rw [List.length_append]; exact Nat.lt_succ_self _, .inl ⟨rfl, rfl⟩⟩ ?_ ?_
    · rintro i x acc h1 hx eD ⟨C, Bx, lt, cs⟩
      have i2 : i = 0 ∨ i = 1 := by have := (List.getElem?_eq_some_iff.mp hx).1; simp at this; omega
      have hb : k.length ≠ b := by omega
      rcases i2 with rfl | rfl
      · cases hx
        obtain ⟨_, rfl⟩ : _ ∧ acc = [] := cs.resolve_right fun z => by rcases z with ⟨z, _⟩ | ⟨z, _⟩ <;> cases z
        simp -implicitDefEqProofs
        refine fills_spec S1 Bx (by omega) (Z1.ch C a3) a3 rfl rfl fun f h2 L B2 C2 => ?_
        obtain ⟨p1, p2, xs1, xs2, ef, R1, R2, F1, F2, x1, x2, x3, l1, l2, l3⟩ := L
        have L' : FL k.length b n1 m1 f h2 := ⟨p1, p2, xs1, xs2, ef, R1, R2, F1, F2, x1, x2, x3, by omega, by omega, by omega⟩
        refine ⟨C2.at eD hb, ⟨((C.trans C2).kp.set _ (.inl (Nat.le_refl _))).ch, (B2.set _ hb).mono (by omega), by rw [List.length_set]; have := C2.1; omega, .inr (.inl ⟨rfl, f, rfl, L'.set _⟩)⟩⟩
      · cases hx
        obtain ⟨_, f, rfl, L0⟩ : _ ∧ ∃ f, acc = [.ref f] ∧ FL k.length b n1 m1 f h1 := by
          rcases cs with ⟨z, _⟩ | z | ⟨z, _⟩
          · cases z
          · exact z
          · cases z
        simp -implicitDefEqProofs
        refine fills_spec S2 Bx (by omega) (Z2.ch C a4) a4 rfl rfl fun f' h2 L B2 C2 => ?_
        obtain ⟨p1, p2, xs1, xs2, ef, R1, R2, F1, F2, x1, x2, x3, l1, l2, l3⟩ := L
        have L' : FL k.length b n2 m2 f' h2 := ⟨p1, p2, xs1, xs2, ef, R1, R2, F1, F2, x1, x2, x3, by omega, by omega, by omega⟩
        refine ⟨C2.at eD hb, ⟨((C.trans C2).kp.set _ (.inl (Nat.le_refl _))).ch, (B2.set _ hb).mono (by omega), by rw [List.length_set]; have := C2.1; omega, .inr (.inr ⟨rfl, f, f', rfl, (L0.ch C2).set _, L'.set _⟩)⟩⟩
    · rintro acc h1 eD ⟨C, Bx, lt, cs⟩
      obtain ⟨_, f, f', rfl, L1, L2⟩ : _ ∧ ∃ f f', acc = [.ref f, .ref f'] ∧ FL k.length b n1 m1 f h1 ∧ FL k.length b n2 m2 f' h1 := by
        rcases cs with ⟨z, _⟩ | ⟨z, _⟩ | z
        · cases z
        · cases z
        · exact z
      exact ⟨⟨p, g, k.length, n1, m1, n2, m2, _, _, _, _, rfl, T.ch C, f, f', eD, L1.low, L2.low, by omega⟩, Bx.mono (by simp; omega), Ck.trans C⟩
  rintro r k ⟨⟨p, g, f, n1, m1, n2, m2, u3, u4, u6, u7, rfl, T, f1, f2, ef, L1, L2, af⟩, Bk, Ck⟩
  -- numbers, three times
  refine ws_cut (RgF h b (c + 300)) ?_ ?_
  · rw [ws_forL]
    simp -implicitDefEqProofs only [o_lst, aCons, aNil, eC, wp_bind, wp_ok]
    refine ⟨by decide, ?_⟩
    generalize hH : k ++ [Cell.lst [W.int 0, W.int 1, W.int 0]] = H
    have e0 : H[k.length]? = some (.lst [.int 0, .int 1, .int 0]) := by rw [← hH]; exact new_at _ _
    have O0 : Old k H := by rw [← hH]; exact Old.app _ _
    have lk := Bk.lt
    have hb : k.length ≠ b := by omega
    refine ws_sq e0 rfl (fun i r k1 => Ch b k k1 ∧ k1[k.length]? = some (.lst [.int 0, .int 1, .int 0]) ∧ Box k1 b (c + 220 + 5 * i) ∧ ∃ u3, r = gE b p g [u3, u4, some (.ref f), u6, u7]) ⟨O0.ch b, e0, (Bk.old O0).mono, _, rfl⟩ (fun i r k w => w.2.1) ?_ ?_
    · rintro i x r k1 hx ⟨C1, e1, B1, v3, rfl⟩
      have i3 : i < 3 := by have := (List.getElem?_eq_some_iff.mp hx).1; simpa using this
      obtain ⟨S1, S2, z1, z2, d1, d2, e, Z1, Z2, eg, D1, D2, a1, a2, a3, a4, a5, a6⟩ := T.ch C1
      obtain ⟨p1, p2, xs1, xs2, g1, R1, R2, F1, F2, x1, x2, x3, _, _, _⟩ := L1.ch C1
      obtain ⟨p3, p4, xs3, xs4, g2, R3, R4, F3, F4, y1, y2, y3, _, _, _⟩ := L2.ch C1
      have ef1 := C1.at ef af
      have xs : x = .int 0 ∨ x = .int 1 := by
        have := List.mem_of_getElem? hx
        simp at this
        rcases this with rfl | rfl | rfl
        · exact .inl rfl
        · exact .inr rfl
        · exact .inl rfl
      rcases xs with rfl | rfl
      · simp -implicitDefEqProofs [gE, o_ix (seq_lst e), o_ix (seq_lst eg), o_ix (seq_lst ef1)]
        refine numbers_spec S1 B1 (by omega) D1 Z1 g1 R1 R2 F1 F2 a5 a3 x1 x2 x3 fun k2 B2 C2 => ?_
        simp -implicitDefEqProofs
        exact ⟨C1.trans C2, C2.at e1 hb, B2.mono⟩
      · simp -implicitDefEqProofs [gE, o_ix (seq_lst e), o_ix (seq_lst eg), o_ix (seq_lst ef1)]
        refine numbers_spec S2 B1 (by omega) D2 Z2 g2 R3 R4 F3 F4 a6 a4 y1 y2 y3 fun k2 B2 C2 => ?_
        simp -implicitDefEqProofs
        exact ⟨C1.trans C2, C2.at e1 hb, B2.mono⟩
    · rintro r k1 ⟨C1, e1, B1, v3, rfl⟩
      exact ⟨rfl, ⟨p, g, f, n1, m1, n2, m2, _, _, _, _, rfl, T.ch C1, f1, f2, C1.at ef af, L1.ch C1, L2.ch C1, af⟩, B1.mono (by simp; omega), Ck.trans C1⟩
  rintro r k ⟨⟨p, g, f, n1, m1, n2, m2, u3, u4, u6, u7, rfl, T, f1, f2, ef, L1, L2, af⟩, Bk, Ck⟩
  rw [ws_seq, ws_for, o_rng1]
  simp -implicitDefEqProofs only [eC, wp_ok]
  refine ⟨by decide, ?_⟩
  refine ws_rng (n := 2) (fun i r k1 => Ch b k k1 ∧ Box k1 b (c + 300 + 60 * i) ∧ ∃ u3, r = gE b p g [u3, u4, some (.ref f), u6, u7]) ⟨Ch.refl _ _, Bk.mono, _, rfl⟩ ?_ ?_
  · rintro i r k1 hi ⟨C1, B1, v3, rfl⟩
    obtain ⟨S1, S2, z1, z2, d1, d2, e, Z1, Z2, eg, D1, D2, a1, a2, a3, a4, a5, a6⟩ := T.ch C1
    obtain ⟨p1, p2, xs1, xs2, g1, R1, R2, F1, F2, x1, x2, x3, _, _, _⟩ := L1.ch C1
    obtain ⟨p3, p4, xs3, xs4, g2, R3, R4, F3, F4, y1, y2, y3, _, _, _⟩ := L2.ch C1
    have ef1 := C1.at ef af
    have i2 : i = 0 ∨ i = 1 := by omega
    rcases i2 with rfl | rfl
    · simp -implicitDefEqProofs [gE, o_ix (seq_lst e), o_ix (seq_lst eg), o_ix (seq_lst ef1), o_ix (seq_lst g1)]
      refine refusals_spec S1 B1 (by omega) D1 Z1 R1 F1 a5 a3 x2 fun k2 B2 C2 => ?_
      simp -implicitDefEqProofs [o_ix (seq_lst (C2.at e a1))]
      refine makings_spec S1 B2 (by omega) (Z1.ch C2 a3) a3 fun k3 B3 C3 => ?_
      simp -implicitDefEqProofs
      exact ⟨(C1.trans C2).trans C3, B3.mono⟩
    · simp -implicitDefEqProofs [gE, o_ix (seq_lst e), o_ix (seq_lst eg), o_ix (seq_lst ef1), o_ix (seq_lst g2)]
      refine refusals_spec S2 B1 (by omega) D2 Z2 R3 F3 a6 a4 y2 fun k2 B2 C2 => ?_
      simp -implicitDefEqProofs [o_ix (seq_lst (C2.at e a1))]
      refine makings_spec S2 B2 (by omega) (Z2.ch C2 a4) a4 fun k3 B3 C3 => ?_
      simp -implicitDefEqProofs
      exact ⟨(C1.trans C2).trans C3, B3.mono⟩
  · rintro r k1 ⟨C1, B1, v3, rfl⟩
    simp -implicitDefEqProofs
    exact q k1 (B1.mono (by simp; omega)) (Ck.trans C1)
structure LawI (ns : List Int) (r : Env) (h : MH) : Prop where
  ex : ∃ u : Option W, r = [some (.ref 0), u] ∧ Scr h 0 ns
theorem law_right (ns : List Int) (c : Cell) (hl : ns.length ≤ 63) (hc : Br.Script ns c) : ∃ h, m_law [.ref 0] [c] = .ok (.bl true) h := by
  have main : (m_law [.ref 0] [c]).wp (fun w _ => w = .bl true) (fun _ _ _ => False) := by
    have S0 : Scr [c] 0 ns := by
      rcases hc with rfl | rfl
      · exact .inl rfl
      · exact .inr rfl
    unfold m_law
    rw [wp_fn]
    unfold b_law
    rw [ws_seq, ws_for]
    simp -implicitDefEqProofs [o_rng1, o_len S0.seq]
    have ln : ∃ n : Nat, (if (1 : Int) < (if (ns.length : Int) < 4 then (ns.length : Int) else 4) then (if (ns.length : Int) < 4 then (ns.length : Int) else 4) else 1) = (n : Int) ∧ n ≤ 4 := by
      refine ⟨if 1 < (if ns.length < 4 then ns.length else 4) then (if ns.length < 4 then ns.length else 4) else 1, ?_, ?_⟩
      · split <;> split <;> (try split) <;> (try split) <;> omega
      · split <;> (try split) <;> omega
    obtain ⟨n, en, n6⟩ := ln
    rw [en]
    refine ⟨by simp [rOk]; omega, ?_⟩
    refine ws_rng (fun _ r h => LawI ns r h) ⟨_, rfl, S0⟩ ?_ ?_
    · rintro i r h hi ⟨u, rfl, S⟩
      have s0 := S.lt
      simp -implicitDefEqProofs
      refine cell_spec (k0 := 1) S (by simp at hi; omega) fun v h1 O1 => ?_
      refine box_spec fun h2 B2 O2 l2 => ?_
      have l1 := O1.1
      have S2 : Scr h2 0 ns := S.kp ((O1.trans O2).kp h1.length) s0 (by omega)
      refine right_spec B2 (by decide) fun h3 B3 C3 => ?_
      simp -implicitDefEqProofs
      exact ⟨_, rfl, S2.kp C3.kp (by have := B2.lt; omega) (by omega)⟩
    · rintro r h ⟨u, rfl, S⟩
      simp -implicitDefEqProofs
      exact bounds_spec fun h' _ => by simp
  obtain ⟨a, h, e, rfl⟩ := main.toOk
  exact ⟨h, e⟩
end
end K01
set_option Elab.async false
set_option linter.all false
set_option autoImplicit false
set_option maxRecDepth 100000
set_option maxHeartbeats 2100000
namespace K01
open PySem PySem.Spec PyProof.Rows L2 Mini Br
def top (i : Nat) : Stmt := PySem.Challenge.pw_leastspare_k01_disks_fillings_numbers.main.body.getD i (.Pass ⟨0, 0, 0, 0⟩)
abbrev s_is_whole : Stmt := top 8
theorem sc_is_whole : FnScope ["value"] ["value"] (defScope s_is_whole) := ⟨rfl, rfl, rfl, by decide +kernel, rfl, by decide +kernel, by decide +kernel⟩
abbrev s_is_between : Stmt := top 9
theorem sc_is_between : FnScope ["value", "least", "most"] ["value", "least", "most"] (defScope s_is_between) := ⟨rfl, rfl, rfl, by decide +kernel, rfl, by decide +kernel, by decide +kernel⟩
abbrev s_is_tuple_of : Stmt := top 10
theorem sc_is_tuple_of : FnScope ["value", "many"] ["value", "many"] (defScope s_is_tuple_of) := ⟨rfl, rfl, rfl, by decide +kernel, rfl, by decide +kernel, by decide +kernel⟩
abbrev s_is_contents : Stmt := top 11
theorem sc_is_contents : FnScope ["value", "many", "contents", "one"] ["value", "many", "contents"] (defScope s_is_contents) := ⟨rfl, rfl, rfl, by decide +kernel, rfl, by decide +kernel, by decide +kernel⟩
abbrev s_Disk___init__ : Stmt := inClass (top 14) 0
theorem sc_Disk___init__ : FnScope ["self", "blocks", "contents"] ["self", "blocks", "contents"] (defScope s_Disk___init__) := ⟨rfl, rfl, rfl, by decide +kernel, rfl, by decide +kernel, by decide +kernel⟩
abbrev s_Disk___eq__ : Stmt := inClass (top 14) 1
theorem sc_Disk___eq__ : FnScope ["self", "other"] ["self", "other"] (defScope s_Disk___eq__) := ⟨rfl, rfl, rfl, by decide +kernel, rfl, by decide +kernel, by decide +kernel⟩
abbrev s_power : Stmt := top 15
theorem sc_power : FnScope ["base", "many", "found", "_"] ["base", "many"] (defScope s_power) := ⟨rfl, rfl, rfl, by decide +kernel, rfl, by decide +kernel, by decide +kernel⟩
abbrev s_number_from : Stmt := top 16
theorem sc_number_from : FnScope ["row", "base", "found", "figure"] ["row", "base"] (defScope s_number_from) := ⟨rfl, rfl, rfl, by decide +kernel, rfl, by decide +kernel, by decide +kernel⟩
abbrev s_figures : Stmt := top 17
theorem sc_figures : FnScope ["number", "base", "many", "found", "_"] ["number", "base", "many"] (defScope s_figures) := ⟨rfl, rfl, rfl, by decide +kernel, rfl, by decide +kernel, by decide +kernel⟩
abbrev s_count : Stmt := top 18
theorem sc_count : FnScope ["disk"] ["disk"] (defScope s_count) := ⟨rfl, rfl, rfl, by decide +kernel, rfl, by decide +kernel, by decide +kernel⟩
abbrev s_is_filling : Stmt := top 19
theorem sc_is_filling : FnScope ["disk", "value"] ["disk", "value"] (defScope s_is_filling) := ⟨rfl, rfl, rfl, by decide +kernel, rfl, by decide +kernel, by decide +kernel⟩
abbrev s_check_filling : Stmt := top 20
theorem sc_check_filling : FnScope ["disk", "filling"] ["disk", "filling"] (defScope s_check_filling) := ⟨rfl, rfl, rfl, by decide +kernel, rfl, by decide +kernel, by decide +kernel⟩
abbrev s_number_of : Stmt := top 21
theorem sc_number_of : FnScope ["disk", "filling"] ["disk", "filling"] (defScope s_number_of) := ⟨rfl, rfl, rfl, by decide +kernel, rfl, by decide +kernel, by decide +kernel⟩
abbrev s_filling_at : Stmt := top 22
theorem sc_filling_at : FnScope ["disk", "number"] ["disk", "number"] (defScope s_filling_at) := ⟨rfl, rfl, rfl, by decide +kernel, rfl, by decide +kernel, by decide +kernel⟩
abbrev s__law_cell : Stmt := top 24
theorem sc__law_cell : FnScope ["script", "k"] ["script", "k"] (defScope s__law_cell) := ⟨rfl, rfl, rfl, by decide +kernel, rfl, by decide +kernel, by decide +kernel⟩
abbrev s__law_box : Stmt := top 25
theorem sc__law_box : FnScope ["great"] ["great"] (defScope s__law_box) := ⟨rfl, rfl, rfl, by decide +kernel, rfl, by decide +kernel, by decide +kernel⟩
abbrev s__law_take : Stmt := top 26
theorem sc__law_take : FnScope ["box", "many", "digit", "mixed"] ["box", "many"] (defScope s__law_take) := ⟨rfl, rfl, rfl, by decide +kernel, rfl, by decide +kernel, by decide +kernel⟩
abbrev s__law_sizes : Stmt := top 27
theorem sc__law_sizes : FnScope ["box", "way", "contents"] ["box"] (defScope s__law_sizes) := ⟨rfl, rfl, rfl, by decide +kernel, rfl, by decide +kernel, by decide +kernel⟩
abbrev s__law_pair : Stmt := top 28
theorem sc__law_pair : FnScope ["box", "way", "one", "two"] ["box"] (defScope s__law_pair) := ⟨rfl, rfl, rfl, by decide +kernel, rfl, by decide +kernel, by decide +kernel⟩
abbrev s__law_filling : Stmt := top 29
theorem sc__law_filling : FnScope ["box", "blocks", "contents", "way", "at", "k"] ["box", "blocks", "contents"] (defScope s__law_filling) := ⟨rfl, rfl, rfl, by decide +kernel, rfl, by decide +kernel, by decide +kernel⟩
abbrev s__law_number : Stmt := top 30
theorem sc__law_number : FnScope ["filling", "contents", "found", "content"] ["filling", "contents"] (defScope s__law_number) := ⟨rfl, rfl, rfl, by decide +kernel, rfl, by decide +kernel, by decide +kernel⟩
abbrev s__law_whole : Stmt := top 31
theorem sc__law_whole : FnScope ["told"] ["told"] (defScope s__law_whole) := ⟨rfl, rfl, rfl, by decide +kernel, rfl, by decide +kernel, by decide +kernel⟩
abbrev s__law_wrong : Stmt := top 32
theorem sc__law_wrong : FnScope ["way", "at", "filling", "contents", "more", "odd", "menu"] ["way", "at", "filling", "contents", "more"] (defScope s__law_wrong) := ⟨rfl, rfl, rfl, by decide +kernel, rfl, by decide +kernel, by decide +kernel⟩
abbrev s__law_refusal : Stmt := top 33
theorem sc__law_refusal : FnScope ["kind", "disk", "value", "e"] ["kind", "disk", "value"] (defScope s__law_refusal) := ⟨rfl, rfl, rfl, by decide +kernel, rfl, by decide +kernel, by decide +kernel⟩
abbrev s__law_error : Stmt := top 34
theorem sc__law_error : FnScope ["disk", "value", "e"] ["disk", "value"] (defScope s__law_error) := ⟨rfl, rfl, rfl, by decide +kernel, rfl, by decide +kernel, by decide +kernel⟩
abbrev s__law_made : Stmt := top 35
theorem sc__law_made : FnScope ["way", "blocks", "contents", "e", "disk"] ["way", "blocks", "contents"] (defScope s__law_made) := ⟨rfl, rfl, rfl, by decide +kernel, rfl, by decide +kernel, by decide +kernel⟩
abbrev s__law_same : Stmt := top 36
theorem sc__law_same : FnScope ["told", "word", "passed"] ["told", "word", "passed"] (defScope s__law_same) := ⟨rfl, rfl, rfl, by decide +kernel, rfl, by decide +kernel, by decide +kernel⟩
abbrev s__law_odd : Stmt := top 37
theorem sc__law_odd : FnScope ["which", "way", "more"] ["which", "way", "more"] (defScope s__law_odd) := ⟨rfl, rfl, rfl, by decide +kernel, rfl, by decide +kernel, by decide +kernel⟩
abbrev s__law_makings_right : Stmt := top 38
theorem sc__law_makings_right : FnScope ["box", "sizes", "turn", "blocks", "contents", "told", "spoilt", "name", "first", "second", "more"] ["box", "sizes"] (defScope s__law_makings_right) := ⟨rfl, rfl, rfl, by decide +kernel, rfl, by decide +kernel, by decide +kernel⟩
abbrev s__law_bounds_right : Stmt := top 39
theorem sc__law_bounds_right : FnScope ["blocks", "contents", "due"] [] (defScope s__law_bounds_right) := ⟨rfl, rfl, rfl, by decide +kernel, rfl, by decide +kernel, by decide +kernel⟩
abbrev s__law_numbers_right : Stmt := top 40
theorem sc__law_numbers_right : FnScope ["box", "disk", "sizes", "fillings", "blocks", "contents", "first", "turn", "filling", "number", "back", "told", "content", "one", "other", "many", "k"] ["box", "disk", "sizes", "fillings"] (defScope s__law_numbers_right) := ⟨rfl, rfl, rfl, by decide +kernel, rfl, by decide +kernel, by decide +kernel⟩
abbrev s__law_refusals_right : Stmt := top 41
theorem sc__law_refusals_right : FnScope ["box", "disk", "sizes", "filling", "blocks", "contents", "many", "turn", "kind", "way", "at", "more", "passed", "first", "second", "one", "other"] ["box", "disk", "sizes", "filling"] (defScope s__law_refusals_right) := ⟨rfl, rfl, rfl, by decide +kernel, rfl, by decide +kernel, by decide +kernel⟩
abbrev s__law_right : Stmt := top 42
theorem sc__law_right : FnScope ["box", "pair", "disks", "k", "told", "fillings", "size", "turn"] ["box"] (defScope s__law_right) := ⟨rfl, rfl, rfl, by decide +kernel, rfl, by decide +kernel, by decide +kernel⟩
abbrev s_law : Stmt := top 43
theorem sc_law : FnScope ["script", "k"] ["script"] (defScope s_law) := ⟨rfl, rfl, rfl, by decide +kernel, rfl, by decide +kernel, by decide +kernel⟩
abbrev s_InvalidBlocks : Stmt := inClass (top 2) 0
theorem sc_InvalidBlocks : FnScope ["self", "given"] ["self", "given"] (defScope s_InvalidBlocks) := ⟨rfl, rfl, rfl, by decide +kernel, rfl, by decide +kernel, by decide +kernel⟩
abbrev s_InvalidContents : Stmt := inClass (top 3) 0
theorem sc_InvalidContents : FnScope ["self", "given"] ["self", "given"] (defScope s_InvalidContents) := ⟨rfl, rfl, rfl, by decide +kernel, rfl, by decide +kernel, by decide +kernel⟩
abbrev s_InvalidFilling : Stmt := inClass (top 4) 0
theorem sc_InvalidFilling : FnScope ["self", "given"] ["self", "given"] (defScope s_InvalidFilling) := ⟨rfl, rfl, rfl, by decide +kernel, rfl, by decide +kernel, by decide +kernel⟩
abbrev s_InvalidNumber : Stmt := inClass (top 5) 0
theorem sc_InvalidNumber : FnScope ["self", "given"] ["self", "given"] (defScope s_InvalidNumber) := ⟨rfl, rfl, rfl, by decide +kernel, rfl, by decide +kernel, by decide +kernel⟩
structure Txt (P : Program) (w : World) (K : PySem.W.Frag) (mg : Str → Option Value) (base : Heap) (Ga : Nat → Addr) : Prop where
  b_abs : mg "abs" = none
  b_all : mg "all" = none
  b_bool : mg "bool" = none
  b_dict : mg "dict" = none
  b_int : mg "int" = none
  b_isinstance : mg "isinstance" = none
  b_len : mg "len" = none
  b_list : mg "list" = none
  b_max : mg "max" = none
  b_min : mg "min" = none
  b_range : mg "range" = none
  b_repr : mg "repr" = none
  b_sum : mg "sum" = none
  b_tuple : mg "tuple" = none
  k_MOST_BLOCKS : ∃ t, mg "MOST_BLOCKS" = some (.int 24 t)
  k_MOST_CONTENTS : ∃ t, mg "MOST_CONTENTS" = some (.int 64 t)
  f_is_whole : Src_ K mg "is_whole" s_is_whole ["value"]
  f_is_between : Src_ K mg "is_between" s_is_between ["value", "least", "most"]
  f_is_tuple_of : Src_ K mg "is_tuple_of" s_is_tuple_of ["value", "many"]
  f_is_contents : Src_ K mg "is_contents" s_is_contents ["value", "many", "contents"]
  f_Disk___init__ : Meth_ K (Ga 4) "__init__" "Disk.__init__" s_Disk___init__ ["self", "blocks", "contents"]
  f_Disk___eq__ : Meth_ K (Ga 4) "__eq__" "Disk.__eq__" s_Disk___eq__ ["self", "other"]
  f_power : Src_ K mg "power" s_power ["base", "many"]
  f_number_from : Src_ K mg "number_from" s_number_from ["row", "base"]
  f_figures : Src_ K mg "figures" s_figures ["number", "base", "many"]
  f_count : Src_ K mg "count" s_count ["disk"]
  f_is_filling : Src_ K mg "is_filling" s_is_filling ["disk", "value"]
  f_check_filling : Src_ K mg "check_filling" s_check_filling ["disk", "filling"]
  f_number_of : Src_ K mg "number_of" s_number_of ["disk", "filling"]
  f_filling_at : Src_ K mg "filling_at" s_filling_at ["disk", "number"]
  f__law_cell : Src_ K mg "_law_cell" s__law_cell ["script", "k"]
  f__law_box : Src_ K mg "_law_box" s__law_box ["great"]
  f__law_take : Src_ K mg "_law_take" s__law_take ["box", "many"]
  f__law_sizes : Src_ K mg "_law_sizes" s__law_sizes ["box"]
  f__law_pair : Src_ K mg "_law_pair" s__law_pair ["box"]
  f__law_filling : Src_ K mg "_law_filling" s__law_filling ["box", "blocks", "contents"]
  f__law_number : Src_ K mg "_law_number" s__law_number ["filling", "contents"]
  f__law_whole : Src_ K mg "_law_whole" s__law_whole ["told"]
  f__law_wrong : Src_ K mg "_law_wrong" s__law_wrong ["way", "at", "filling", "contents", "more"]
  f__law_refusal : Src_ K mg "_law_refusal" s__law_refusal ["kind", "disk", "value"]
  f__law_error : Src_ K mg "_law_error" s__law_error ["disk", "value"]
  f__law_made : Src_ K mg "_law_made" s__law_made ["way", "blocks", "contents"]
  f__law_same : Src_ K mg "_law_same" s__law_same ["told", "word", "passed"]
  f__law_odd : Src_ K mg "_law_odd" s__law_odd ["which", "way", "more"]
  f__law_makings_right : Src_ K mg "_law_makings_right" s__law_makings_right ["box", "sizes"]
  f__law_bounds_right : Src_ K mg "_law_bounds_right" s__law_bounds_right []
  f__law_numbers_right : Src_ K mg "_law_numbers_right" s__law_numbers_right ["box", "disk", "sizes", "fillings"]
  f__law_refusals_right : Src_ K mg "_law_refusals_right" s__law_refusals_right ["box", "disk", "sizes", "filling"]
  f__law_right : Src_ K mg "_law_right" s__law_right ["box"]
  f_law : Src_ K mg "law" s_law ["script"]
  c_Disk : OwnC K mg Ga 4 "Disk"
  fd_blocks : ∀ c, (fun c => decide (c = 4)) c = true → NoAttr K (Ga c) "blocks"
  fd_contents : ∀ c, (fun c => decide (c = 4)) c = true → NoAttr K (Ga c) "contents"
  nf : ∀ ci, ci ∈ [4] → (∀ k : Option Mini.Ty, PySem.W.notFirst K (Ga ci) (.type (kindName k)) = true) ∧ ∀ c, PySem.W.hasDictIn K (Ga c) = true → PySem.W.notFirst K (Ga ci) (.ref (Ga c)) = true
  e_InvalidBlocks : ErrC K mg P w base "InvalidBlocks" "given" (Ga 0)
  e_InvalidContents : ErrC K mg P w base "InvalidContents" "given" (Ga 1)
  e_InvalidFilling : ErrC K mg P w base "InvalidFilling" "given" (Ga 2)
  e_InvalidNumber : ErrC K mg P w base "InvalidNumber" "given" (Ga 3)
  xa_given : ∀ c, (fun c => decide (c = 0) || decide (c = 1) || decide (c = 2) || decide (c = 3)) c = true → PySem.W.findIn K (.ref (Ga c)) "given" = some none
  x_x : ∀ k, k < 4 → ExcX K (Ga k)
  ne : ∀ ci, ci ∈ [4] → NeC K Ga ci
  x_m : ∀ k, k < 4 → ∀ q, q < 4 → PySem.W.exmOne K (.ref (Ga q)) (.ref (Ga k)) = some (decide (q = k))
section
variable {P : Program} {w : World} {K : PySem.W.Frag} {mg : Str → Option Value} {base : Heap} {Ga : Nat → Addr}
theorem d_is_whole (T : Txt P w K mg base Ga) : Def P w K mg base Ga 1 "is_whole" s_is_whole ["value"] m_is_whole := by
  refine def_of (k := 0) T.f_is_whole sc_is_whole fun f cdv A outer s H E hr => ?_
  have tk : Takes (cxOf (L2.CX P w) P w K mg base ["value"] "is_whole" (defScope s_is_whole) f cdv A outer s H E) (fun c d _ H => E c d H) := takes_of rfl rfl rfl rfl
  have po : PassesOwn (model P w) (cxOf (L2.CX P w) P w K mg base ["value"] "is_whole" (defScope s_is_whole) f cdv A outer s H E).A (cxOf (L2.CX P w) P w K mg base ["value"] "is_whole" (defScope s_is_whole) f cdv A outer s H E).env (cxOf (L2.CX P w) P w K mg base ["value"] "is_whole" (defScope s_is_whole) f cdv A outer s H E).xe := passes_of rfl
  unfold b_is_whole
  exact (ss_one (s_ret (e_and (e_isi (ty := .tInt) rfl rfl T.b_isinstance rfl T.b_int (by decide +kernel) (ha := (v_ 0))) (e_one (e_not (e_isi (ty := .tBool) rfl rfl T.b_isinstance rfl T.b_bool (by decide +kernel) (ha := (v_ 0))))))))
theorem d_is_between (T : Txt P w K mg base Ga) : Def P w K mg base Ga 2 "is_between" s_is_between ["value", "least", "most"] m_is_between := by
  refine def_of (k := 1) T.f_is_between sc_is_between fun f cdv A outer s H E hr => ?_
  have tk : Takes (cxOf (L2.CX P w) P w K mg base ["value", "least", "most"] "is_between" (defScope s_is_between) f cdv A outer s H E) (fun c d _ H => E c d H) := takes_of rfl rfl rfl rfl
  have po : PassesOwn (model P w) (cxOf (L2.CX P w) P w K mg base ["value", "least", "most"] "is_between" (defScope s_is_between) f cdv A outer s H E).A (cxOf (L2.CX P w) P w K mg base ["value", "least", "most"] "is_between" (defScope s_is_between) f cdv A outer s H E).env (cxOf (L2.CX P w) P w K mg base ["value", "least", "most"] "is_between" (defScope s_is_between) f cdv A outer s H E).xe := passes_of rfl
  unfold b_is_between
  exact (ss_one (s_ret (e_and (c_ (d_is_whole T) hr tk (a_cons (v_ 0) a_nil)) (e_one (e_chain op_le s_intCmp op_le s_intCmp (v_ 1) (v_ 0) (v_ 2))))))
theorem d_is_tuple_of (T : Txt P w K mg base Ga) : Def P w K mg base Ga 1 "is_tuple_of" s_is_tuple_of ["value", "many"] m_is_tuple_of := by
  refine def_of (k := 0) T.f_is_tuple_of sc_is_tuple_of fun f cdv A outer s H E hr => ?_
  have tk : Takes (cxOf (L2.CX P w) P w K mg base ["value", "many"] "is_tuple_of" (defScope s_is_tuple_of) f cdv A outer s H E) (fun c d _ H => E c d H) := takes_of rfl rfl rfl rfl
  have po : PassesOwn (model P w) (cxOf (L2.CX P w) P w K mg base ["value", "many"] "is_tuple_of" (defScope s_is_tuple_of) f cdv A outer s H E).A (cxOf (L2.CX P w) P w K mg base ["value", "many"] "is_tuple_of" (defScope s_is_tuple_of) f cdv A outer s H E).env (cxOf (L2.CX P w) P w K mg base ["value", "many"] "is_tuple_of" (defScope s_is_tuple_of) f cdv A outer s H E).xe := passes_of rfl
  unfold b_is_tuple_of
  exact (ss_one (s_ret (e_and (e_isi (ty := .tTuple) rfl rfl T.b_isinstance rfl T.b_tuple (by decide +kernel) (ha := (v_ 0))) (e_one (e_cmp (OpR.or op_eq (op_eqD (hu64 hr))) s_eq (e_fnB call_len f_len rfl T.b_len (by decide +kernel) (a_cons (v_ 0) a_nil)) (v_ 1) (nomark _))))))
theorem d_is_contents (T : Txt P w K mg base Ga) : Def P w K mg base Ga 3 "is_contents" s_is_contents ["value", "many", "contents"] m_is_contents := by
  refine def_of (k := 2) T.f_is_contents sc_is_contents fun f cdv A outer s H E hr => ?_
  have tk : Takes (cxOf (L2.CX P w) P w K mg base ["value", "many", "contents", "one"] "is_contents" (defScope s_is_contents) f cdv A outer s H E) (fun c d _ H => E c d H) := takes_of rfl rfl rfl rfl
  have po : PassesOwn (model P w) (cxOf (L2.CX P w) P w K mg base ["value", "many", "contents", "one"] "is_contents" (defScope s_is_contents) f cdv A outer s H E).A (cxOf (L2.CX P w) P w K mg base ["value", "many", "contents", "one"] "is_contents" (defScope s_is_contents) f cdv A outer s H E).env (cxOf (L2.CX P w) P w K mg base ["value", "many", "contents", "one"] "is_contents" (defScope s_is_contents) f cdv A outer s H E).xe := passes_of rfl
  unfold b_is_contents
  exact (ss_one (s_ret (e_and (c_ (d_is_tuple_of T) hr tk (a_cons (v_ 0) (a_cons (v_ 1) a_nil))) (e_one (e_fnB (cr_all rfl) f_all rfl T.b_all (by decide +kernel) (a_cons (e_lc (own := [("one", 3)]) rfl sc_is_contents.nd (i_seq (v_ 0)) (blkOk_by (N := ["value", "many", "contents", "one"]) (sc := defScope s_is_contents) (own := [("one", 3)]) (by decide +kernel)) (by decide) (b_ (x := "one") 3 _ _) (fun _ _ _ _ _ => (pg_name (i := 3) sc_is_contents.nd rfl (by first | exact Or.inl rfl | exact Or.inr rfl))) (fun _ _ _ _ _ => ts_nil) (fun _ _ _ _ _ => (c_ (d_is_between T) hr takes0 (a_cons (v_ 3) (a_cons e_int (a_cons (e_sub (v_ 2) e_int) a_nil)))))) a_nil))))))
theorem d_Disk___init__ (T : Txt P w K mg base Ga) : DefM P w K mg base Ga 3 (Ga 4) "__init__" "Disk.__init__" s_Disk___init__ ["self", "blocks", "contents"] m_Disk___init__ := by
  refine defm_of (k := 2) T.f_Disk___init__ sc_Disk___init__ fun f cdv A outer s H E hr => ?_
  have tk : Takes (cxOf (L2.CX P w) P w K mg base ["self", "blocks", "contents"] "Disk.__init__" (defScope s_Disk___init__) f cdv A outer s H E) (fun c d _ H => E c d H) := takes_of rfl rfl rfl rfl
  have po : PassesOwn (model P w) (cxOf (L2.CX P w) P w K mg base ["self", "blocks", "contents"] "Disk.__init__" (defScope s_Disk___init__) f cdv A outer s H E).A (cxOf (L2.CX P w) P w K mg base ["self", "blocks", "contents"] "Disk.__init__" (defScope s_Disk___init__) f cdv A outer s H E).env (cxOf (L2.CX P w) P w K mg base ["self", "blocks", "contents"] "Disk.__init__" (defScope s_Disk___init__) f cdv A outer s H E).xe := passes_of rfl
  unfold b_Disk___init__
  exact (ss_cons (s_if (t_not (t_tru (c_ (d_is_between T) hr tk (a_cons (v_ 1) (a_cons e_int (a_cons (gi_ T.k_MOST_BLOCKS) a_nil)))) (by intro _; rfl)))
    (ss_one (s_raise (ci := 0) rfl tk T.e_InvalidBlocks (hr.room.mono (by decide)) rfl (v_ 1)))
    ss_nil)
    (ss_cons (s_if (t_not (t_tru (c_ (d_is_between T) hr tk (a_cons (v_ 2) (a_cons e_int (a_cons (gi_ T.k_MOST_CONTENTS) a_nil)))) (by intro _; rfl)))
    (ss_one (s_raise (ci := 1) rfl tk T.e_InvalidContents (hr.room.mono (by decide)) rfl (v_ 2)))
    ss_nil)
    (ss_cons (s_fld T.fd_blocks (v_ 0) (v_ 1))
    (ss_one (s_fld T.fd_contents (v_ 0) (v_ 2))))))
theorem d_Disk___eq__ (T : Txt P w K mg base Ga) : DefM P w K mg base Ga 1 (Ga 4) "__eq__" "Disk.__eq__" s_Disk___eq__ ["self", "other"] m_Disk___eq__ := by
  refine defm_of (k := 0) T.f_Disk___eq__ sc_Disk___eq__ fun f cdv A outer s H E hr => ?_
  have tk : Takes (cxOf (L2.CX P w) P w K mg base ["self", "other"] "Disk.__eq__" (defScope s_Disk___eq__) f cdv A outer s H E) (fun c d _ H => E c d H) := takes_of rfl rfl rfl rfl
  have po : PassesOwn (model P w) (cxOf (L2.CX P w) P w K mg base ["self", "other"] "Disk.__eq__" (defScope s_Disk___eq__) f cdv A outer s H E).A (cxOf (L2.CX P w) P w K mg base ["self", "other"] "Disk.__eq__" (defScope s_Disk___eq__) f cdv A outer s H E).env (cxOf (L2.CX P w) P w K mg base ["self", "other"] "Disk.__eq__" (defScope s_Disk___eq__) f cdv A outer s H E).xe := passes_of rfl
  unfold b_Disk___eq__
  exact (ss_one (s_ret (e_and (isiC_ T.c_Disk T.b_isinstance (v_ 1)) (e_and (e_cmp (OpR.or op_eq (op_eqD (hu64 hr))) s_eq (e_fld T.fd_blocks (v_ 0)) (e_fld T.fd_blocks (v_ 1)) (nomark _)) (e_one (e_cmp (OpR.or op_eq (op_eqD (hu64 hr))) s_eq (e_fld T.fd_contents (v_ 0)) (e_fld T.fd_contents (v_ 1)) (nomark _)))))))
theorem d_power (T : Txt P w K mg base Ga) : Def P w K mg base Ga 1 "power" s_power ["base", "many"] m_power := by
  refine def_of (k := 0) T.f_power sc_power fun f cdv A outer s H E hr => ?_
  have tk : Takes (cxOf (L2.CX P w) P w K mg base ["base", "many", "found", "_"] "power" (defScope s_power) f cdv A outer s H E) (fun c d _ H => E c d H) := takes_of rfl rfl rfl rfl
  have po : PassesOwn (model P w) (cxOf (L2.CX P w) P w K mg base ["base", "many", "found", "_"] "power" (defScope s_power) f cdv A outer s H E).A (cxOf (L2.CX P w) P w K mg base ["base", "many", "found", "_"] "power" (defScope s_power) f cdv A outer s H E).env (cxOf (L2.CX P w) P w K mg base ["base", "many", "found", "_"] "power" (defScope s_power) f cdv A outer s H E).xe := passes_of rfl
  unfold b_power
  exact (ss_cons (s_set (i := 2) sc_power.nd rfl (by first | exact Or.inl rfl | exact Or.inr rfl) lets0 e_int)
    (ss_cons (s_for po rfl (i_rng1 rfl T.b_range (v_ 1)) (g_ 3 sc_power.nd lets0)
    (ss_one (s_set (i := 2) sc_power.nd rfl (by first | exact Or.inl rfl | exact Or.inr rfl) lets0 (mulX_ (v_ 2) (v_ 0)))))
    (ss_one (s_ret (v_ 2)))))
theorem d_number_from (T : Txt P w K mg base Ga) : Def P w K mg base Ga 1 "number_from" s_number_from ["row", "base"] m_number_from := by
  refine def_of (k := 0) T.f_number_from sc_number_from fun f cdv A outer s H E hr => ?_
  have tk : Takes (cxOf (L2.CX P w) P w K mg base ["row", "base", "found", "figure"] "number_from" (defScope s_number_from) f cdv A outer s H E) (fun c d _ H => E c d H) := takes_of rfl rfl rfl rfl
  have po : PassesOwn (model P w) (cxOf (L2.CX P w) P w K mg base ["row", "base", "found", "figure"] "number_from" (defScope s_number_from) f cdv A outer s H E).A (cxOf (L2.CX P w) P w K mg base ["row", "base", "found", "figure"] "number_from" (defScope s_number_from) f cdv A outer s H E).env (cxOf (L2.CX P w) P w K mg base ["row", "base", "found", "figure"] "number_from" (defScope s_number_from) f cdv A outer s H E).xe := passes_of rfl
  unfold b_number_from
  exact (ss_cons (s_set (i := 2) sc_number_from.nd rfl (by first | exact Or.inl rfl | exact Or.inr rfl) lets0 e_int)
    (ss_cons (s_for po rfl (i_seq (v_ 0)) (g_ 3 sc_number_from.nd lets0)
    (ss_one (s_set (i := 2) sc_number_from.nd rfl (by first | exact Or.inl rfl | exact Or.inr rfl) lets0 (addX_ (mulX_ (v_ 2) (v_ 1)) (v_ 3)))))
    (ss_one (s_ret (v_ 2)))))
theorem d_figures (T : Txt P w K mg base Ga) : Def P w K mg base Ga 1 "figures" s_figures ["number", "base", "many"] m_figures := by
  refine def_of (k := 0) T.f_figures sc_figures fun f cdv A outer s H E hr => ?_
  have tk : Takes (cxOf (L2.CX P w) P w K mg base ["number", "base", "many", "found", "_"] "figures" (defScope s_figures) f cdv A outer s H E) (fun c d _ H => E c d H) := takes_of rfl rfl rfl rfl
  have po : PassesOwn (model P w) (cxOf (L2.CX P w) P w K mg base ["number", "base", "many", "found", "_"] "figures" (defScope s_figures) f cdv A outer s H E).A (cxOf (L2.CX P w) P w K mg base ["number", "base", "many", "found", "_"] "figures" (defScope s_figures) f cdv A outer s H E).env (cxOf (L2.CX P w) P w K mg base ["number", "base", "many", "found", "_"] "figures" (defScope s_figures) f cdv A outer s H E).xe := passes_of rfl
  unfold b_figures
  exact (ss_cons (s_set (i := 3) sc_figures.nd rfl (by first | exact Or.inl rfl | exact Or.inr rfl) lets0 (e_lst a_nil))
    (ss_cons (s_for po rfl (i_rng1 rfl T.b_range (v_ 2)) (g_ 4 sc_figures.nd lets0)
    (ss_cons (s_expr (e_app (v_ 3) (e_mod (v_ 0) (v_ 1))))
    (ss_one (s_set (i := 0) sc_figures.nd rfl (by first | exact Or.inl rfl | exact Or.inr rfl) lets0 (e_div (v_ 0) (v_ 1))))))
    (ss_one (s_ret (e_fnT call_tuple_of f_tuple rfl T.b_tuple (by decide +kernel) (a_cons (e_rev (v_ 3)) a_nil))))))
theorem d_count (T : Txt P w K mg base Ga) : Def P w K mg base Ga 2 "count" s_count ["disk"] m_count := by
  refine def_of (k := 1) T.f_count sc_count fun f cdv A outer s H E hr => ?_
  have tk : Takes (cxOf (L2.CX P w) P w K mg base ["disk"] "count" (defScope s_count) f cdv A outer s H E) (fun c d _ H => E c d H) := takes_of rfl rfl rfl rfl
  have po : PassesOwn (model P w) (cxOf (L2.CX P w) P w K mg base ["disk"] "count" (defScope s_count) f cdv A outer s H E).A (cxOf (L2.CX P w) P w K mg base ["disk"] "count" (defScope s_count) f cdv A outer s H E).env (cxOf (L2.CX P w) P w K mg base ["disk"] "count" (defScope s_count) f cdv A outer s H E).xe := passes_of rfl
  unfold b_count
  exact (ss_one (s_ret (c_ (d_power T) hr tk (a_cons (e_fld T.fd_contents (v_ 0)) (a_cons (e_fld T.fd_blocks (v_ 0)) a_nil)))))
theorem d_is_filling (T : Txt P w K mg base Ga) : Def P w K mg base Ga 4 "is_filling" s_is_filling ["disk", "value"] m_is_filling := by
  refine def_of (k := 3) T.f_is_filling sc_is_filling fun f cdv A outer s H E hr => ?_
  have tk : Takes (cxOf (L2.CX P w) P w K mg base ["disk", "value"] "is_filling" (defScope s_is_filling) f cdv A outer s H E) (fun c d _ H => E c d H) := takes_of rfl rfl rfl rfl
  have po : PassesOwn (model P w) (cxOf (L2.CX P w) P w K mg base ["disk", "value"] "is_filling" (defScope s_is_filling) f cdv A outer s H E).A (cxOf (L2.CX P w) P w K mg base ["disk", "value"] "is_filling" (defScope s_is_filling) f cdv A outer s H E).env (cxOf (L2.CX P w) P w K mg base ["disk", "value"] "is_filling" (defScope s_is_filling) f cdv A outer s H E).xe := passes_of rfl
  unfold b_is_filling
  exact (ss_one (s_ret (c_ (d_is_contents T) hr tk (a_cons (v_ 1) (a_cons (e_fld T.fd_blocks (v_ 0)) (a_cons (e_fld T.fd_contents (v_ 0)) a_nil))))))
theorem d_check_filling (T : Txt P w K mg base Ga) : Def P w K mg base Ga 5 "check_filling" s_check_filling ["disk", "filling"] m_check_filling := by
  refine def_of (k := 4) T.f_check_filling sc_check_filling fun f cdv A outer s H E hr => ?_
  have tk : Takes (cxOf (L2.CX P w) P w K mg base ["disk", "filling"] "check_filling" (defScope s_check_filling) f cdv A outer s H E) (fun c d _ H => E c d H) := takes_of rfl rfl rfl rfl
  have po : PassesOwn (model P w) (cxOf (L2.CX P w) P w K mg base ["disk", "filling"] "check_filling" (defScope s_check_filling) f cdv A outer s H E).A (cxOf (L2.CX P w) P w K mg base ["disk", "filling"] "check_filling" (defScope s_check_filling) f cdv A outer s H E).env (cxOf (L2.CX P w) P w K mg base ["disk", "filling"] "check_filling" (defScope s_check_filling) f cdv A outer s H E).xe := passes_of rfl
  unfold b_check_filling
  exact (ss_one (s_if (t_not (t_tru (c_ (d_is_filling T) hr tk (a_cons (v_ 0) (a_cons (v_ 1) a_nil))) (by intro _; rfl)))
    (ss_one (s_raise (ci := 2) rfl tk T.e_InvalidFilling (hr.room.mono (by decide)) rfl (v_ 1)))
    ss_nil))
theorem d_number_of (T : Txt P w K mg base Ga) : Def P w K mg base Ga 6 "number_of" s_number_of ["disk", "filling"] m_number_of := by
  refine def_of (k := 5) T.f_number_of sc_number_of fun f cdv A outer s H E hr => ?_
  have tk : Takes (cxOf (L2.CX P w) P w K mg base ["disk", "filling"] "number_of" (defScope s_number_of) f cdv A outer s H E) (fun c d _ H => E c d H) := takes_of rfl rfl rfl rfl
  have po : PassesOwn (model P w) (cxOf (L2.CX P w) P w K mg base ["disk", "filling"] "number_of" (defScope s_number_of) f cdv A outer s H E).A (cxOf (L2.CX P w) P w K mg base ["disk", "filling"] "number_of" (defScope s_number_of) f cdv A outer s H E).env (cxOf (L2.CX P w) P w K mg base ["disk", "filling"] "number_of" (defScope s_number_of) f cdv A outer s H E).xe := passes_of rfl
  unfold b_number_of
  exact (ss_cons (s_expr (c_ (d_check_filling T) hr tk (a_cons (v_ 0) (a_cons (v_ 1) a_nil))))
    (ss_one (s_ret (c_ (d_number_from T) hr tk (a_cons (v_ 1) (a_cons (e_fld T.fd_contents (v_ 0)) a_nil))))))
theorem d_filling_at (T : Txt P w K mg base Ga) : Def P w K mg base Ga 3 "filling_at" s_filling_at ["disk", "number"] m_filling_at := by
  refine def_of (k := 2) T.f_filling_at sc_filling_at fun f cdv A outer s H E hr => ?_
  have tk : Takes (cxOf (L2.CX P w) P w K mg base ["disk", "number"] "filling_at" (defScope s_filling_at) f cdv A outer s H E) (fun c d _ H => E c d H) := takes_of rfl rfl rfl rfl
  have po : PassesOwn (model P w) (cxOf (L2.CX P w) P w K mg base ["disk", "number"] "filling_at" (defScope s_filling_at) f cdv A outer s H E).A (cxOf (L2.CX P w) P w K mg base ["disk", "number"] "filling_at" (defScope s_filling_at) f cdv A outer s H E).env (cxOf (L2.CX P w) P w K mg base ["disk", "number"] "filling_at" (defScope s_filling_at) f cdv A outer s H E).xe := passes_of rfl
  unfold b_filling_at
  exact (ss_cons (s_if (t_not (t_tru (c_ (d_is_between T) hr tk (a_cons (v_ 1) (a_cons e_int (a_cons (e_sub (c_ (d_count T) hr tk (a_cons (v_ 0) a_nil)) e_int) a_nil)))) (by intro _; rfl)))
    (ss_one (s_raise (ci := 3) rfl tk T.e_InvalidNumber (hr.room.mono (by decide)) rfl (v_ 1)))
    ss_nil)
    (ss_one (s_ret (c_ (d_figures T) hr tk (a_cons (v_ 1) (a_cons (e_fld T.fd_contents (v_ 0)) (a_cons (e_fld T.fd_blocks (v_ 0)) a_nil)))))))
theorem d__law_cell (T : Txt P w K mg base Ga) : Def P w K mg base Ga 1 "_law_cell" s__law_cell ["script", "k"] m__law_cell := by
  refine def_of (k := 0) T.f__law_cell sc__law_cell fun f cdv A outer s H E hr => ?_
  have tk : Takes (cxOf (L2.CX P w) P w K mg base ["script", "k"] "_law_cell" (defScope s__law_cell) f cdv A outer s H E) (fun c d _ H => E c d H) := takes_of rfl rfl rfl rfl
  have po : PassesOwn (model P w) (cxOf (L2.CX P w) P w K mg base ["script", "k"] "_law_cell" (defScope s__law_cell) f cdv A outer s H E).A (cxOf (L2.CX P w) P w K mg base ["script", "k"] "_law_cell" (defScope s__law_cell) f cdv A outer s H E).env (cxOf (L2.CX P w) P w K mg base ["script", "k"] "_law_cell" (defScope s__law_cell) f cdv A outer s H E).xe := passes_of rfl
  unfold b__law_cell
  exact (ss_one (s_ret (e_if (t_cmp (OpR.or op_lt (op_ltT hr.room.units0)) s_ltX (v_ 1) (e_fnB call_len f_len rfl T.b_len (by decide +kernel) (a_cons (v_ 0) a_nil)) (nomark _)) (e_sub_ (v_ 0) (v_ 1) (fun _ _ => rfl)) (addX_ (addX_ (mulX_ e_int (v_ 1)) e_int) (e_mod (e_fnT call_int1 f_int rfl T.b_int (by decide +kernel) (a_cons (e_fnB (cr_sum rfl) f_sum rfl T.b_sum (by decide +kernel) (a_cons (e_sl (v_ 0) o_no (o_so e_int)) a_nil)) a_nil)) e_int)))))
theorem d__law_box (T : Txt P w K mg base Ga) : Def P w K mg base Ga 1 "_law_box" s__law_box ["great"] m__law_box := by
  refine def_of (k := 0) T.f__law_box sc__law_box fun f cdv A outer s H E hr => ?_
  have tk : Takes (cxOf (L2.CX P w) P w K mg base ["great"] "_law_box" (defScope s__law_box) f cdv A outer s H E) (fun c d _ H => E c d H) := takes_of rfl rfl rfl rfl
  have po : PassesOwn (model P w) (cxOf (L2.CX P w) P w K mg base ["great"] "_law_box" (defScope s__law_box) f cdv A outer s H E).A (cxOf (L2.CX P w) P w K mg base ["great"] "_law_box" (defScope s__law_box) f cdv A outer s H E).env (cxOf (L2.CX P w) P w K mg base ["great"] "_law_box" (defScope s__law_box) f cdv A outer s H E).xe := passes_of rfl
  unfold b__law_box
  exact (ss_one (s_ret (e_lst (a_cons (e_fnB call_abs f_abs rfl T.b_abs (by decide +kernel) (a_cons (v_ 0) a_nil)) (a_cons (e_cmp op_ge s_intCmp (e_fnB call_abs f_abs rfl T.b_abs (by decide +kernel) (a_cons (v_ 0) a_nil)) (e_pow e_int e_int) (nomark _)) (a_cons (e_mod (e_fnT call_int1 f_int rfl T.b_int (by decide +kernel) (a_cons (e_fnB call_abs f_abs rfl T.b_abs (by decide +kernel) (a_cons (v_ 0) a_nil)) a_nil)) e_int) (a_cons e_int a_nil)))))))
theorem d__law_take (T : Txt P w K mg base Ga) : Def P w K mg base Ga 1 "_law_take" s__law_take ["box", "many"] m__law_take := by
  refine def_of (k := 0) T.f__law_take sc__law_take fun f cdv A outer s H E hr => ?_
  have tk : Takes (cxOf (L2.CX P w) P w K mg base ["box", "many", "digit", "mixed"] "_law_take" (defScope s__law_take) f cdv A outer s H E) (fun c d _ H => E c d H) := takes_of rfl rfl rfl rfl
  have po : PassesOwn (model P w) (cxOf (L2.CX P w) P w K mg base ["box", "many", "digit", "mixed"] "_law_take" (defScope s__law_take) f cdv A outer s H E).A (cxOf (L2.CX P w) P w K mg base ["box", "many", "digit", "mixed"] "_law_take" (defScope s__law_take) f cdv A outer s H E).env (cxOf (L2.CX P w) P w K mg base ["box", "many", "digit", "mixed"] "_law_take" (defScope s__law_take) f cdv A outer s H E).xe := passes_of rfl
  unfold b__law_take
  exact (ss_cons (s_if (PW.pt (w_and (t_tru (e_sub_ (v_ 0) e_int (fun _ _ => rfl)) (by intro _; rfl)) (w_and1 (t_cmp op_gt s_intCmp (e_sub_ (v_ 0) e_int (fun _ _ => rfl)) e_int (nomark _)))))
    (ss_cons (s_set (i := 2) sc__law_take.nd rfl (by first | exact Or.inl rfl | exact Or.inr rfl) lets0 (e_mod (e_fnT call_int1 f_int rfl T.b_int (by decide +kernel) (a_cons (e_sub_ (v_ 0) e_int (fun _ _ => rfl)) a_nil)) (v_ 1)))
    (ss_cons (s_asg (e_div (e_sub_ (v_ 0) e_int (fun _ _ => rfl)) (v_ 1)) (g_subL (Wd := W0) (pg_sub (v_ 0) e_int set_list)))
    (ss_one (s_ret (v_ 2)))))
    ss_nil)
    (ss_cons (s_asg (addX_ (e_sub_ (v_ 0) e_int (fun _ _ => rfl)) e_int) (g_subL (Wd := W0) (pg_sub (v_ 0) e_int set_list)))
    (ss_cons (s_set (i := 3) sc__law_take.nd rfl (by first | exact Or.inl rfl | exact Or.inr rfl) lets0 (e_mod (e_fnT call_int1 f_int rfl T.b_int (by decide +kernel) (a_cons (e_pow (addX_ (addX_ (e_sub_ (v_ 0) e_int (fun _ _ => rfl)) (mulX_ e_int (e_sub_ (v_ 0) e_int (fun _ _ => rfl)))) e_int) e_int) a_nil)) e_int))
    (ss_one (s_ret (e_mod (e_fnT call_int1 f_int rfl T.b_int (by decide +kernel) (a_cons (e_div (e_mod (e_fnT call_int1 f_int rfl T.b_int (by decide +kernel) (a_cons (e_pow (addX_ (mulX_ (v_ 3) e_int) (mulX_ e_int (e_sub_ (v_ 0) e_int (fun _ _ => rfl)))) e_int) a_nil)) e_int) e_int) a_nil)) (v_ 1)))))))
theorem d__law_sizes (T : Txt P w K mg base Ga) : Def P w K mg base Ga 2 "_law_sizes" s__law_sizes ["box"] m__law_sizes := by
  refine def_of (k := 1) T.f__law_sizes sc__law_sizes fun f cdv A outer s H E hr => ?_
  have tk : Takes (cxOf (L2.CX P w) P w K mg base ["box", "way", "contents"] "_law_sizes" (defScope s__law_sizes) f cdv A outer s H E) (fun c d _ H => E c d H) := takes_of rfl rfl rfl rfl
  have po : PassesOwn (model P w) (cxOf (L2.CX P w) P w K mg base ["box", "way", "contents"] "_law_sizes" (defScope s__law_sizes) f cdv A outer s H E).A (cxOf (L2.CX P w) P w K mg base ["box", "way", "contents"] "_law_sizes" (defScope s__law_sizes) f cdv A outer s H E).env (cxOf (L2.CX P w) P w K mg base ["box", "way", "contents"] "_law_sizes" (defScope s__law_sizes) f cdv A outer s H E).xe := passes_of rfl
  unfold b__law_sizes
  exact (ss_cons (s_set (i := 1) sc__law_sizes.nd rfl (by first | exact Or.inl rfl | exact Or.inr rfl) lets0 (c_ (d__law_take T) hr tk (a_cons (v_ 0) (a_cons e_int a_nil))))
    (ss_cons (s_set (i := 2) sc__law_sizes.nd rfl (by first | exact Or.inl rfl | exact Or.inr rfl) lets0 (e_if (t_cmp (OpR.or op_eq (op_eqD (hu64 hr))) s_eq (c_ (d__law_take T) hr tk (a_cons (v_ 0) (a_cons e_int a_nil))) e_int (nomark _)) (addX_ e_int (c_ (d__law_take T) hr tk (a_cons (v_ 0) (a_cons e_int a_nil)))) (e_sub_ (e_lst (a_cons e_int (a_cons e_int (a_cons e_int (a_cons e_int a_nil))))) (c_ (d__law_take T) hr tk (a_cons (v_ 0) (a_cons e_int a_nil))) (fun _ _ => rfl))))
    (ss_cons (s_if (t_cmp (OpR.or op_lt (op_ltT hr.room.units0)) s_ltX (v_ 1) e_int (nomark _))
    (ss_one (s_ret (e_tup (a_cons (e_sub_ (e_lst (a_cons e_int (a_cons e_int a_nil))) (v_ 1) (fun _ _ => rfl)) (a_cons (v_ 2) a_nil)))))
    ss_nil)
    (ss_one (s_ret (e_tup (a_cons (addX_ e_int (c_ (d__law_take T) hr tk (a_cons (v_ 0) (a_cons (e_sub_ (e_lst (a_cons e_int (a_cons e_int (a_cons e_int a_nil)))) (e_sub (v_ 1) e_int) (fun _ _ => rfl)) a_nil)))) (a_cons (v_ 2) a_nil))))))))
theorem d__law_pair (T : Txt P w K mg base Ga) : Def P w K mg base Ga 3 "_law_pair" s__law_pair ["box"] m__law_pair := by
  refine def_of (k := 2) T.f__law_pair sc__law_pair fun f cdv A outer s H E hr => ?_
  have tk : Takes (cxOf (L2.CX P w) P w K mg base ["box", "way", "one", "two"] "_law_pair" (defScope s__law_pair) f cdv A outer s H E) (fun c d _ H => E c d H) := takes_of rfl rfl rfl rfl
  have po : PassesOwn (model P w) (cxOf (L2.CX P w) P w K mg base ["box", "way", "one", "two"] "_law_pair" (defScope s__law_pair) f cdv A outer s H E).A (cxOf (L2.CX P w) P w K mg base ["box", "way", "one", "two"] "_law_pair" (defScope s__law_pair) f cdv A outer s H E).env (cxOf (L2.CX P w) P w K mg base ["box", "way", "one", "two"] "_law_pair" (defScope s__law_pair) f cdv A outer s H E).xe := passes_of rfl
  unfold b__law_pair
  exact (ss_cons (s_set (i := 1) sc__law_pair.nd rfl (by first | exact Or.inl rfl | exact Or.inr rfl) lets0 (c_ (d__law_take T) hr tk (a_cons (v_ 0) (a_cons e_int a_nil))))
    (ss_cons (s_if (t_cmp (OpR.or op_eq (op_eqD (hu64 hr))) s_eq (v_ 1) e_int (nomark _))
    (ss_one (s_ret (e_sub_ (e_lst (a_cons (e_lst (a_cons (e_tup (a_cons e_int (a_cons e_int a_nil))) (a_cons (e_tup (a_cons e_int (a_cons e_int a_nil))) a_nil))) (a_cons (e_lst (a_cons (e_tup (a_cons e_int (a_cons e_int a_nil))) (a_cons (e_tup (a_cons e_int (a_cons e_int a_nil))) a_nil))) (a_cons (e_lst (a_cons (e_tup (a_cons e_int (a_cons e_int a_nil))) (a_cons (e_tup (a_cons e_int (a_cons e_int a_nil))) a_nil))) (a_cons (e_lst (a_cons (e_tup (a_cons e_int (a_cons e_int a_nil))) (a_cons (e_tup (a_cons e_int (a_cons e_int a_nil))) a_nil))) (a_cons (e_lst (a_cons (e_tup (a_cons e_int (a_cons e_int a_nil))) (a_cons (e_tup (a_cons e_int (a_cons e_int a_nil))) a_nil))) a_nil)))))) (c_ (d__law_take T) hr tk (a_cons (v_ 0) (a_cons e_int a_nil))) (fun _ _ => rfl))))
    ss_nil)
    (ss_cons (s_if (t_cmp (OpR.or op_eq (op_eqD (hu64 hr))) s_eq (v_ 1) e_int (nomark _))
    (ss_cons (s_par2 (i := 2) (j := 3) rfl sc__law_pair.nd rfl rfl (by decide) rfl rfl lets0 lets0 (a_cons (addX_ e_int (c_ (d__law_take T) hr tk (a_cons (v_ 0) (a_cons e_int a_nil)))) (a_cons (addX_ e_int (c_ (d__law_take T) hr tk (a_cons (v_ 0) (a_cons e_int a_nil)))) a_nil)) (by rfl))
    (ss_one (s_ret (e_lst (a_cons (e_tup (a_cons (v_ 2) (a_cons (v_ 3) a_nil))) (a_cons (e_tup (a_cons (v_ 3) (a_cons (v_ 2) a_nil))) a_nil))))))
    ss_nil)
    (ss_cons (s_set (i := 2) sc__law_pair.nd rfl (by first | exact Or.inl rfl | exact Or.inr rfl) lets0 (c_ (d__law_sizes T) hr tk (a_cons (v_ 0) a_nil)))
    (ss_cons (s_if (t_cmp (OpR.or op_eq (op_eqD (hu64 hr))) s_eq (v_ 1) e_int (nomark _))
    (ss_one (s_ret (e_lst (a_cons (v_ 2) (a_cons (v_ 2) a_nil)))))
    ss_nil)
    (ss_cons (s_if (t_cmp (OpR.or op_eq (op_eqD (hu64 hr))) s_eq (v_ 1) e_int (nomark _))
    (ss_one (s_ret (e_lst (a_cons (v_ 2) (a_cons (e_tup (a_cons (addX_ e_int (e_mod (e_fnT call_int1 f_int rfl T.b_int (by decide +kernel) (a_cons (addX_ (e_sub_ (v_ 2) e_int (fun _ _ => rfl)) (c_ (d__law_take T) hr tk (a_cons (v_ 0) (a_cons e_int a_nil)))) a_nil)) e_int)) (a_cons (e_sub_ (v_ 2) e_int (fun _ _ => rfl)) a_nil))) a_nil)))))
    ss_nil)
    (ss_cons (s_if (t_cmp (OpR.or op_eq (op_eqD (hu64 hr))) s_eq (v_ 1) e_int (nomark _))
    (ss_one (s_ret (e_lst (a_cons (v_ 2) (a_cons (e_tup (a_cons (e_sub_ (v_ 2) e_int (fun _ _ => rfl)) (a_cons (addX_ e_int (e_mod (e_fnT call_int1 f_int rfl T.b_int (by decide +kernel) (a_cons (addX_ (e_sub (e_sub_ (v_ 2) e_int (fun _ _ => rfl)) e_int) (c_ (d__law_take T) hr tk (a_cons (v_ 0) (a_cons e_int a_nil)))) a_nil)) e_int)) a_nil))) a_nil)))))
    ss_nil)
    (ss_one (s_ret (e_lst (a_cons (v_ 2) (a_cons (c_ (d__law_sizes T) hr tk (a_cons (v_ 0) a_nil)) a_nil))))))))))))
theorem d__law_filling (T : Txt P w K mg base Ga) : Def P w K mg base Ga 2 "_law_filling" s__law_filling ["box", "blocks", "contents"] m__law_filling := by
  refine def_of (k := 1) T.f__law_filling sc__law_filling fun f cdv A outer s H E hr => ?_
  have tk : Takes (cxOf (L2.CX P w) P w K mg base ["box", "blocks", "contents", "way", "at", "k"] "_law_filling" (defScope s__law_filling) f cdv A outer s H E) (fun c d _ H => E c d H) := takes_of rfl rfl rfl rfl
  have po : PassesOwn (model P w) (cxOf (L2.CX P w) P w K mg base ["box", "blocks", "contents", "way", "at", "k"] "_law_filling" (defScope s__law_filling) f cdv A outer s H E).A (cxOf (L2.CX P w) P w K mg base ["box", "blocks", "contents", "way", "at", "k"] "_law_filling" (defScope s__law_filling) f cdv A outer s H E).env (cxOf (L2.CX P w) P w K mg base ["box", "blocks", "contents", "way", "at", "k"] "_law_filling" (defScope s__law_filling) f cdv A outer s H E).xe := passes_of rfl
  unfold b__law_filling
  exact (ss_cons (s_set (i := 3) sc__law_filling.nd rfl (by first | exact Or.inl rfl | exact Or.inr rfl) lets0 (c_ (d__law_take T) hr tk (a_cons (v_ 0) (a_cons e_int a_nil))))
    (ss_cons (s_if (t_cmp (OpR.or op_lt (op_ltT hr.room.units0)) s_ltX (v_ 3) e_int (nomark _))
    (ss_one (s_ret (mulX_ (e_tup (a_cons (e_sub_ (e_lst (a_cons e_int (a_cons (e_sub (v_ 2) e_int) a_nil))) (v_ 3) (fun _ _ => rfl)) a_nil)) (v_ 1))))
    ss_nil)
    (ss_cons (s_if (t_cmp (OpR.or op_eq (op_eqD (hu64 hr))) s_eq (v_ 3) e_int (nomark _))
    (ss_cons (s_set (i := 4) sc__law_filling.nd rfl (by first | exact Or.inl rfl | exact Or.inr rfl) lets0 (c_ (d__law_take T) hr tk (a_cons (v_ 0) (a_cons (v_ 1) a_nil))))
    (ss_one (s_ret (addX_ (addX_ (mulX_ (e_tup (a_cons e_int a_nil)) (v_ 4)) (e_tup (a_cons (addX_ e_int (c_ (d__law_take T) hr tk (a_cons (v_ 0) (a_cons (e_sub (v_ 2) e_int) a_nil)))) a_nil))) (mulX_ (e_tup (a_cons e_int a_nil)) (e_sub (e_sub (v_ 1) (v_ 4)) e_int))))))
    ss_nil)
    (ss_one (s_ret (e_fnT call_tuple_of f_tuple rfl T.b_tuple (by decide +kernel) (a_cons (e_lc (own := [("k", 5)]) rfl sc__law_filling.nd (i_rng1 rfl T.b_range (v_ 1)) (blkOk_by (N := ["box", "blocks", "contents", "way", "at", "k"]) (sc := defScope s__law_filling) (own := [("k", 5)]) (by decide +kernel)) (by decide) (b_ (x := "k") 5 _ _) (fun _ _ _ _ _ => (pg_name (i := 5) sc__law_filling.nd rfl (by first | exact Or.inl rfl | exact Or.inr rfl))) (fun _ _ _ _ _ => ts_nil) (fun _ _ _ _ _ => (c_ (d__law_take T) hr takes0 (a_cons (v_ 0) (a_cons (v_ 2) a_nil))))) a_nil)))))))
theorem d__law_number (T : Txt P w K mg base Ga) : Def P w K mg base Ga 1 "_law_number" s__law_number ["filling", "contents"] m__law_number := by
  refine def_of (k := 0) T.f__law_number sc__law_number fun f cdv A outer s H E hr => ?_
  have tk : Takes (cxOf (L2.CX P w) P w K mg base ["filling", "contents", "found", "content"] "_law_number" (defScope s__law_number) f cdv A outer s H E) (fun c d _ H => E c d H) := takes_of rfl rfl rfl rfl
  have po : PassesOwn (model P w) (cxOf (L2.CX P w) P w K mg base ["filling", "contents", "found", "content"] "_law_number" (defScope s__law_number) f cdv A outer s H E).A (cxOf (L2.CX P w) P w K mg base ["filling", "contents", "found", "content"] "_law_number" (defScope s__law_number) f cdv A outer s H E).env (cxOf (L2.CX P w) P w K mg base ["filling", "contents", "found", "content"] "_law_number" (defScope s__law_number) f cdv A outer s H E).xe := passes_of rfl
  unfold b__law_number
  exact (ss_cons (s_set (i := 2) sc__law_number.nd rfl (by first | exact Or.inl rfl | exact Or.inr rfl) lets0 e_int)
    (ss_cons (s_for po rfl (i_seq (v_ 0)) (g_ 3 sc__law_number.nd lets0)
    (ss_one (s_set (i := 2) sc__law_number.nd rfl (by first | exact Or.inl rfl | exact Or.inr rfl) lets0 (addX_ (mulX_ (v_ 2) (v_ 1)) (v_ 3)))))
    (ss_one (s_ret (v_ 2)))))
theorem d__law_whole (T : Txt P w K mg base Ga) : Def P w K mg base Ga 1 "_law_whole" s__law_whole ["told"] m__law_whole := by
  refine def_of (k := 0) T.f__law_whole sc__law_whole fun f cdv A outer s H E hr => ?_
  have tk : Takes (cxOf (L2.CX P w) P w K mg base ["told"] "_law_whole" (defScope s__law_whole) f cdv A outer s H E) (fun c d _ H => E c d H) := takes_of rfl rfl rfl rfl
  have po : PassesOwn (model P w) (cxOf (L2.CX P w) P w K mg base ["told"] "_law_whole" (defScope s__law_whole) f cdv A outer s H E).A (cxOf (L2.CX P w) P w K mg base ["told"] "_law_whole" (defScope s__law_whole) f cdv A outer s H E).env (cxOf (L2.CX P w) P w K mg base ["told"] "_law_whole" (defScope s__law_whole) f cdv A outer s H E).xe := passes_of rfl
  unfold b__law_whole
  exact (ss_one (s_ret (e_and (e_isi (ty := .tInt) rfl rfl T.b_isinstance rfl T.b_int (by decide +kernel) (ha := (v_ 0))) (e_one (e_not (e_isi (ty := .tBool) rfl rfl T.b_isinstance rfl T.b_bool (by decide +kernel) (ha := (v_ 0))))))))
theorem d__law_wrong (T : Txt P w K mg base Ga) : Def P w K mg base Ga 1 "_law_wrong" s__law_wrong ["way", "at", "filling", "contents", "more"] m__law_wrong := by
  refine def_of (k := 0) T.f__law_wrong sc__law_wrong fun f cdv A outer s H E hr => ?_
  have tk : Takes (cxOf (L2.CX P w) P w K mg base ["way", "at", "filling", "contents", "more", "odd", "menu"] "_law_wrong" (defScope s__law_wrong) f cdv A outer s H E) (fun c d _ H => E c d H) := takes_of rfl rfl rfl rfl
  have po : PassesOwn (model P w) (cxOf (L2.CX P w) P w K mg base ["way", "at", "filling", "contents", "more", "odd", "menu"] "_law_wrong" (defScope s__law_wrong) f cdv A outer s H E).A (cxOf (L2.CX P w) P w K mg base ["way", "at", "filling", "contents", "more", "odd", "menu"] "_law_wrong" (defScope s__law_wrong) f cdv A outer s H E).env (cxOf (L2.CX P w) P w K mg base ["way", "at", "filling", "contents", "more", "odd", "menu"] "_law_wrong" (defScope s__law_wrong) f cdv A outer s H E).xe := passes_of rfl
  unfold b__law_wrong
  exact (ss_cons (s_if (t_cmp (OpR.or op_lt (op_ltT hr.room.units0)) s_ltX (v_ 0) e_int (nomark _))
    (ss_cons (s_set (i := 5) sc__law_wrong.nd rfl (by first | exact Or.inl rfl | exact Or.inr rfl) lets0 (e_sub_ (e_lst (a_cons (v_ 3) (a_cons (e_neg e_int) (a_cons (addX_ (v_ 3) (v_ 4)) (a_cons (e_sub (e_neg e_int) (v_ 4)) (a_cons e_bl (a_cons e_bl (a_cons e_non (a_cons e_str (a_cons (e_tup (a_cons (e_sub_ (v_ 2) (v_ 1) (fun _ _ => rfl)) a_nil)) a_nil)))))))))) (v_ 0) (fun _ _ => rfl)))
    (ss_one (s_ret (addX_ (addX_ (e_sl (v_ 2) o_no (o_so (v_ 1))) (e_tup (a_cons (v_ 5) a_nil))) (e_sl (v_ 2) (o_so (addX_ (v_ 1) e_int)) o_no)))))
    ss_nil)
    (ss_cons (s_set (i := 6) sc__law_wrong.nd rfl (by first | exact Or.inl rfl | exact Or.inr rfl) lets0 (e_lst (a_cons (e_fnT call_list_of f_list rfl T.b_list (by decide +kernel) (a_cons (v_ 2) a_nil)) (a_cons (addX_ (v_ 2) (e_tup (a_cons e_int a_nil))) (a_cons (e_sl (v_ 2) o_no (o_so (e_neg e_int))) (a_cons (addX_ (v_ 2) (v_ 2)) (a_cons (e_tup a_nil) (a_cons e_non (a_cons (e_lst a_nil) (a_cons e_str (a_cons e_int (a_cons e_dic0 (a_cons (e_tup (a_cons (v_ 2) a_nil)) (a_cons (e_lst (a_cons (v_ 2) a_nil)) (a_cons e_bl a_nil)))))))))))))))
    (ss_one (s_ret (e_sub_ (v_ 6) (e_sub (v_ 0) e_int) (fun _ _ => rfl))))))
theorem d__law_refusal (T : Txt P w K mg base Ga) : Def P w K mg base Ga 7 "_law_refusal" s__law_refusal ["kind", "disk", "value"] m__law_refusal := by
  refine def_of (k := 6) T.f__law_refusal sc__law_refusal fun f cdv A outer s H E hr => ?_
  have tk : Takes (cxOf (L2.CX P w) P w K mg base ["kind", "disk", "value", "e"] "_law_refusal" (defScope s__law_refusal) f cdv A outer s H E) (fun c d _ H => E c d H) := takes_of rfl rfl rfl rfl
  have po : PassesOwn (model P w) (cxOf (L2.CX P w) P w K mg base ["kind", "disk", "value", "e"] "_law_refusal" (defScope s__law_refusal) f cdv A outer s H E).A (cxOf (L2.CX P w) P w K mg base ["kind", "disk", "value", "e"] "_law_refusal" (defScope s__law_refusal) f cdv A outer s H E).env (cxOf (L2.CX P w) P w K mg base ["kind", "disk", "value", "e"] "_law_refusal" (defScope s__law_refusal) f cdv A outer s H E).xe := passes_of rfl
  unfold b__law_refusal
  exact (ss_cons (s_try (n := 4) rfl rfl sc__law_refusal.nd rfl tk T.x_x (fun W pn xe tk po => (ss_cons (s_if (t_cmp (OpR.or op_eq (op_eqD (hu64 hr))) s_eq (v_ 0) e_int (nomark _))
    (ss_one (s_expr (c_ (d_number_of T) hr tk (a_cons (v_ 1) (a_cons (v_ 2) a_nil)))))
    ss_nil)
    (ss_cons (s_if (t_cmp (OpR.or op_eq (op_eqD (hu64 hr))) s_eq (v_ 0) e_int (nomark _))
    (ss_one (s_expr (ck0_ (ks := ["filling", "disk"]) (is := [1, 0]) (n := 2) (d_number_of T) hr tk (fun _ _ _ _ _ _ us ws h1 h2 => match us, ws, h1, h2 with | [], [_, _], _, _ => rfl) (k_cons (v_ 2) (k_cons (v_ 1) k_nil)))))
    ss_nil)
    (ss_cons (s_if (t_cmp (OpR.or op_eq (op_eqD (hu64 hr))) s_eq (v_ 0) e_int (nomark _))
    (ss_one (s_expr (c_ (d_filling_at T) hr tk (a_cons (v_ 1) (a_cons (v_ 2) a_nil)))))
    ss_nil)
    (ss_one (s_if (t_cmp (OpR.or op_eq (op_eqD (hu64 hr))) s_eq (v_ 0) e_int (nomark _))
    (ss_one (s_expr (ck0_ (ks := ["number", "disk"]) (is := [1, 0]) (n := 2) (d_filling_at T) hr tk (fun _ _ _ _ _ _ us ws h1 h2 => match us, ws, h1, h2 with | [], [_, _], _, _ => rfl) (k_cons (v_ 2) (k_cons (v_ 1) k_nil)))))
    ss_nil))))))
    (HdM.cons (nm := some ("e" : PySem.Str)) (names_ T.e_InvalidFilling) ⟨rfl, rfl⟩ (T.x_m 2 (by decide)) (fun av pn => (ss_one (s_ret (e_lst (a_cons e_str (a_cons (e_xfl T.xa_given (v_ 3)) a_nil))))))
    (HdM.cons (nm := some ("e" : PySem.Str)) (names_ T.e_InvalidNumber) ⟨rfl, rfl⟩ (T.x_m 3 (by decide)) (fun av pn => (ss_one (s_ret (e_lst (a_cons e_str (a_cons (e_xfl T.xa_given (v_ 3)) a_nil))))))
    HdM.nil)))
    (ss_one (s_ret (e_lst (a_cons e_str (a_cons e_non a_nil))))))
theorem d__law_error (T : Txt P w K mg base Ga) : Def P w K mg base Ga 7 "_law_error" s__law_error ["disk", "value"] m__law_error := by
  refine def_of (k := 6) T.f__law_error sc__law_error fun f cdv A outer s H E hr => ?_
  have tk : Takes (cxOf (L2.CX P w) P w K mg base ["disk", "value", "e"] "_law_error" (defScope s__law_error) f cdv A outer s H E) (fun c d _ H => E c d H) := takes_of rfl rfl rfl rfl
  have po : PassesOwn (model P w) (cxOf (L2.CX P w) P w K mg base ["disk", "value", "e"] "_law_error" (defScope s__law_error) f cdv A outer s H E).A (cxOf (L2.CX P w) P w K mg base ["disk", "value", "e"] "_law_error" (defScope s__law_error) f cdv A outer s H E).env (cxOf (L2.CX P w) P w K mg base ["disk", "value", "e"] "_law_error" (defScope s__law_error) f cdv A outer s H E).xe := passes_of rfl
  unfold b__law_error
  exact (ss_one (s_try (n := 4) rfl rfl sc__law_error.nd rfl tk T.x_x (fun W pn xe tk po => (ss_one (s_ret (c_ (d_number_of T) hr tk (a_cons (v_ 0) (a_cons (v_ 1) a_nil))))))
    (HdM.cons (nm := some ("e" : PySem.Str)) (names_ T.e_InvalidFilling) ⟨rfl, rfl⟩ (T.x_m 2 (by decide)) (fun av pn => (ss_one (s_ret (v_ 2))))
    HdM.nil)))
theorem d__law_made (T : Txt P w K mg base Ga) : Def P w K mg base Ga 5 "_law_made" s__law_made ["way", "blocks", "contents"] m__law_made := by
  refine def_of (k := 4) T.f__law_made sc__law_made fun f cdv A outer s H E hr => ?_
  have tk : Takes (cxOf (L2.CX P w) P w K mg base ["way", "blocks", "contents", "e", "disk"] "_law_made" (defScope s__law_made) f cdv A outer s H E) (fun c d _ H => E c d H) := takes_of rfl rfl rfl rfl
  have po : PassesOwn (model P w) (cxOf (L2.CX P w) P w K mg base ["way", "blocks", "contents", "e", "disk"] "_law_made" (defScope s__law_made) f cdv A outer s H E).A (cxOf (L2.CX P w) P w K mg base ["way", "blocks", "contents", "e", "disk"] "_law_made" (defScope s__law_made) f cdv A outer s H E).env (cxOf (L2.CX P w) P w K mg base ["way", "blocks", "contents", "e", "disk"] "_law_made" (defScope s__law_made) f cdv A outer s H E).xe := passes_of rfl
  unfold b__law_made
  exact (ss_cons (s_try (n := 4) rfl rfl sc__law_made.nd rfl tk T.x_x (fun W pn xe tk po => (ss_one (s_set (i := 4) sc__law_made.nd rfl (by first | exact Or.inl rfl | exact Or.inr rfl) lets0 (e_if (t_cmp (OpR.or op_eq (op_eqD (hu64 hr))) s_eq (v_ 0) e_int (nomark _)) (mkK_ (ks := ["contents", "blocks"]) (is := [1, 0]) (n := 2) (d_Disk___init__ T) T.c_Disk hr tk (fun _ _ _ _ _ _ _ ws h2 => match ws, h2 with | [_, _], _ => rfl) (k_cons (v_ 2) (k_cons (v_ 1) k_nil))) (mk_ (d_Disk___init__ T) T.c_Disk hr tk (a_cons (v_ 1) (a_cons (v_ 2) a_nil)))))))
    (HdM.cons (nm := some ("e" : PySem.Str)) (names_ T.e_InvalidBlocks) ⟨rfl, rfl⟩ (T.x_m 0 (by decide)) (fun av pn => (ss_one (s_ret (e_lst (a_cons e_str (a_cons (e_xfl T.xa_given (v_ 3)) a_nil))))))
    (HdM.cons (nm := some ("e" : PySem.Str)) (names_ T.e_InvalidContents) ⟨rfl, rfl⟩ (T.x_m 1 (by decide)) (fun av pn => (ss_one (s_ret (e_lst (a_cons e_str (a_cons (e_xfl T.xa_given (v_ 3)) a_nil))))))
    HdM.nil)))
    (ss_one (s_ret (e_lst (a_cons e_str (a_cons (e_lst (a_cons (e_fld T.fd_blocks (v_ 4)) (a_cons (e_fld T.fd_contents (v_ 4)) a_nil))) a_nil))))))
theorem d__law_same (T : Txt P w K mg base Ga) : Def P w K mg base Ga 1 "_law_same" s__law_same ["told", "word", "passed"] m__law_same := by
  refine def_of (k := 0) T.f__law_same sc__law_same fun f cdv A outer s H E hr => ?_
  have tk : Takes (cxOf (L2.CX P w) P w K mg base ["told", "word", "passed"] "_law_same" (defScope s__law_same) f cdv A outer s H E) (fun c d _ H => E c d H) := takes_of rfl rfl rfl rfl
  have po : PassesOwn (model P w) (cxOf (L2.CX P w) P w K mg base ["told", "word", "passed"] "_law_same" (defScope s__law_same) f cdv A outer s H E).A (cxOf (L2.CX P w) P w K mg base ["told", "word", "passed"] "_law_same" (defScope s__law_same) f cdv A outer s H E).env (cxOf (L2.CX P w) P w K mg base ["told", "word", "passed"] "_law_same" (defScope s__law_same) f cdv A outer s H E).xe := passes_of rfl
  unfold b__law_same
  exact (ss_cons (s_if (t_tru (e_isi (ty := .tList) rfl rfl T.b_isinstance rfl T.b_list (by decide +kernel) (ha := (v_ 2))) (by intro _; rfl))
    (ss_one (s_expr (e_app (v_ 2) e_str)))
    ss_nil)
    (ss_cons (s_if (t_tru (e_isi (ty := .tDict) rfl rfl T.b_isinstance rfl T.b_dict (by decide +kernel) (ha := (v_ 2))) (by intro _; rfl))
    (ss_one (s_dput (hu1 hr) (v_ 2) e_str e_int))
    ss_nil)
    (ss_one (s_ret (e_and (e_cmp (OpR.or op_eq (op_eqD (hu64 hr))) s_eq (e_sub_ (v_ 0) e_int (fun _ _ => rfl)) (v_ 1) (nomark _)) (e_one (e_cmp (OpR.or op_eq (op_eqD (hu64 hr))) s_eq (e_repr hr.g (hu70 hr) rfl T.b_repr (e_sub_ (v_ 0) e_int (fun _ _ => rfl))) (e_repr hr.g (hu70 hr) rfl T.b_repr (v_ 2)) (nomark _))))))))
theorem d__law_odd (T : Txt P w K mg base Ga) : Def P w K mg base Ga 1 "_law_odd" s__law_odd ["which", "way", "more"] m__law_odd := by
  refine def_of (k := 0) T.f__law_odd sc__law_odd fun f cdv A outer s H E hr => ?_
  have tk : Takes (cxOf (L2.CX P w) P w K mg base ["which", "way", "more"] "_law_odd" (defScope s__law_odd) f cdv A outer s H E) (fun c d _ H => E c d H) := takes_of rfl rfl rfl rfl
  have po : PassesOwn (model P w) (cxOf (L2.CX P w) P w K mg base ["which", "way", "more"] "_law_odd" (defScope s__law_odd) f cdv A outer s H E).A (cxOf (L2.CX P w) P w K mg base ["which", "way", "more"] "_law_odd" (defScope s__law_odd) f cdv A outer s H E).env (cxOf (L2.CX P w) P w K mg base ["which", "way", "more"] "_law_odd" (defScope s__law_odd) f cdv A outer s H E).xe := passes_of rfl
  unfold b__law_odd
  exact (ss_cons (s_if (t_cmp (OpR.or op_eq (op_eqD (hu64 hr))) s_eq (v_ 0) e_int (nomark _))
    (ss_one (s_ret (e_sub_ (e_lst (a_cons e_int (a_cons e_int (a_cons (e_neg e_int) (a_cons (addX_ e_int (v_ 2)) (a_cons e_non (a_cons e_bl (a_cons e_bl (a_cons e_str (a_cons (e_tup (a_cons e_int a_nil)) (a_cons (e_lst (a_cons e_int a_nil)) (a_cons (e_pow e_int e_int) (a_cons e_dic0 a_nil))))))))))))) (v_ 1) (fun _ _ => rfl))))
    ss_nil)
    (ss_one (s_ret (e_sub_ (e_lst (a_cons e_int (a_cons e_int (a_cons e_int (a_cons (addX_ e_int (v_ 2)) (a_cons (e_neg e_int) (a_cons e_non (a_cons e_bl (a_cons e_str (a_cons (e_tup (a_cons e_int a_nil)) (a_cons (e_lst (a_cons e_int a_nil)) (a_cons (e_pow e_int e_int) (a_cons e_dic0 a_nil))))))))))))) (v_ 1) (fun _ _ => rfl)))))
theorem d__law_makings_right (T : Txt P w K mg base Ga) : Def P w K mg base Ga 6 "_law_makings_right" s__law_makings_right ["box", "sizes"] m__law_makings_right := by
  refine def_of (k := 5) T.f__law_makings_right sc__law_makings_right fun f cdv A outer s H E hr => ?_
  have tk : Takes (cxOf (L2.CX P w) P w K mg base ["box", "sizes", "turn", "blocks", "contents", "told", "spoilt", "name", "first", "second", "more"] "_law_makings_right" (defScope s__law_makings_right) f cdv A outer s H E) (fun c d _ H => E c d H) := takes_of rfl rfl rfl rfl
  have po : PassesOwn (model P w) (cxOf (L2.CX P w) P w K mg base ["box", "sizes", "turn", "blocks", "contents", "told", "spoilt", "name", "first", "second", "more"] "_law_makings_right" (defScope s__law_makings_right) f cdv A outer s H E).A (cxOf (L2.CX P w) P w K mg base ["box", "sizes", "turn", "blocks", "contents", "told", "spoilt", "name", "first", "second", "more"] "_law_makings_right" (defScope s__law_makings_right) f cdv A outer s H E).env (cxOf (L2.CX P w) P w K mg base ["box", "sizes", "turn", "blocks", "contents", "told", "spoilt", "name", "first", "second", "more"] "_law_makings_right" (defScope s__law_makings_right) f cdv A outer s H E).xe := passes_of rfl
  unfold b__law_makings_right
  exact (ss_cons (s_for po rfl (i_rng1 rfl T.b_range e_int) (g_ 2 sc__law_makings_right.nd lets0)
    (ss_cons (s_par2 (i := 6) (j := 7) rfl sc__law_makings_right.nd rfl rfl (by decide) rfl rfl lets0 lets0 (a_cons (c_ (d__law_take T) hr tk (a_cons (v_ 0) (a_cons e_int a_nil))) (a_cons (c_ (d__law_take T) hr tk (a_cons (v_ 0) (a_cons e_int a_nil))) a_nil)) (by rfl))
    (ss_cons (s_par3 (i := 8) (j := 9) (l := 10) rfl sc__law_makings_right.nd rfl rfl rfl (by decide) (by decide) (by decide) rfl rfl rfl lets0 lets0 lets0 (a_cons (c_ (d__law_take T) hr tk (a_cons (v_ 0) (a_cons e_int a_nil))) (a_cons (c_ (d__law_take T) hr tk (a_cons (v_ 0) (a_cons e_int a_nil))) (a_cons (c_ (d__law_take T) hr tk (a_cons (v_ 0) (a_cons e_int a_nil))) a_nil))) (by rfl))
    (ss_cons (s_set (i := 3) sc__law_makings_right.nd rfl (by first | exact Or.inl rfl | exact Or.inr rfl) lets0 (e_if (t_cmp (OpR.or op_eq (op_eqD (hu64 hr))) s_eq (e_mod (e_fnT call_int1 f_int rfl T.b_int (by decide +kernel) (a_cons (v_ 6) a_nil)) e_int) e_int (nomark _)) (e_sub_ (v_ 1) e_int (fun _ _ => rfl)) (c_ (d__law_odd T) hr tk (a_cons e_int (a_cons (v_ 8) (a_cons (v_ 10) a_nil))))))
    (ss_cons (s_set (i := 4) sc__law_makings_right.nd rfl (by first | exact Or.inl rfl | exact Or.inr rfl) lets0 (e_if (t_cmp (OpR.or op_lt (op_ltT hr.room.units0)) s_ltX (v_ 6) e_int (nomark _)) (e_sub_ (v_ 1) e_int (fun _ _ => rfl)) (c_ (d__law_odd T) hr tk (a_cons e_int (a_cons (v_ 9) (a_cons (v_ 10) a_nil))))))
    (ss_cons (s_set (i := 5) sc__law_makings_right.nd rfl (by first | exact Or.inl rfl | exact Or.inr rfl) lets0 (c_ (d__law_made T) hr tk (a_cons (v_ 7) (a_cons (v_ 3) (a_cons (v_ 4) a_nil)))))
    (ss_one (s_if (t_cmp (OpR.or op_eq (op_eqD (hu64 hr))) s_eq (e_mod (e_fnT call_int1 f_int rfl T.b_int (by decide +kernel) (a_cons (v_ 6) a_nil)) e_int) e_int (nomark _))
    (ss_one (s_if (t_not (t_tru (c_ (d__law_same T) hr tk (a_cons (v_ 5) (a_cons e_str (a_cons (v_ 3) a_nil)))) (by intro _; rfl)))
    (ss_one (s_ret e_bl))
    ss_nil))
    (ss_one (s_if (t_cmp (OpR.or op_eq (op_eqD (hu64 hr))) s_eq (v_ 6) e_int (nomark _))
    (ss_one (s_if (t_not (t_tru (c_ (d__law_same T) hr tk (a_cons (v_ 5) (a_cons e_str (a_cons (v_ 4) a_nil)))) (by intro _; rfl)))
    (ss_one (s_ret e_bl))
    ss_nil))
    (ss_one (s_if (PW.pt (w_or (t_cmp (OpR.or op_ne (op_neD (hu64 hr))) s_ne (v_ 5) (e_lst (a_cons e_str (a_cons (e_lst (a_cons (e_sub_ (v_ 1) e_int (fun _ _ => rfl)) (a_cons (e_sub_ (v_ 1) e_int (fun _ _ => rfl)) a_nil))) a_nil))) (nomark _)) (w_or (t_not (t_tru (c_ (d__law_whole T) hr tk (a_cons (e_sub_ (e_sub_ (v_ 5) e_int (fun _ _ => rfl)) e_int (fun _ _ => rfl)) a_nil)) (by intro _; rfl))) (w_or1 (t_not (t_tru (c_ (d__law_whole T) hr tk (a_cons (e_sub_ (e_sub_ (v_ 5) e_int (fun _ _ => rfl)) e_int (fun _ _ => rfl)) a_nil)) (by intro _; rfl)))))))
    (ss_one (s_ret e_bl))
    ss_nil))))))))))))
    (ss_one (s_ret e_bl)))
theorem d__law_bounds_right (T : Txt P w K mg base Ga) : Def P w K mg base Ga 6 "_law_bounds_right" s__law_bounds_right [] m__law_bounds_right := by
  refine def_of (k := 5) T.f__law_bounds_right sc__law_bounds_right fun f cdv A outer s H E hr => ?_
  have tk : Takes (cxOf (L2.CX P w) P w K mg base ["blocks", "contents", "due"] "_law_bounds_right" (defScope s__law_bounds_right) f cdv A outer s H E) (fun c d _ H => E c d H) := takes_of rfl rfl rfl rfl
  have po : PassesOwn (model P w) (cxOf (L2.CX P w) P w K mg base ["blocks", "contents", "due"] "_law_bounds_right" (defScope s__law_bounds_right) f cdv A outer s H E).A (cxOf (L2.CX P w) P w K mg base ["blocks", "contents", "due"] "_law_bounds_right" (defScope s__law_bounds_right) f cdv A outer s H E).env (cxOf (L2.CX P w) P w K mg base ["blocks", "contents", "due"] "_law_bounds_right" (defScope s__law_bounds_right) f cdv A outer s H E).xe := passes_of rfl
  unfold b__law_bounds_right
  exact (ss_cons (s_for po rfl (i_seq (e_lst (a_cons e_int (a_cons e_int (a_cons e_int (a_cons e_int a_nil)))))) (g_ 0 sc__law_bounds_right.nd lets0)
    (ss_one (s_for po rfl (i_seq (e_lst (a_cons e_int (a_cons e_int (a_cons e_int (a_cons e_int a_nil)))))) (g_ 1 sc__law_bounds_right.nd lets0)
    (ss_cons (s_set (i := 2) sc__law_bounds_right.nd rfl (by first | exact Or.inl rfl | exact Or.inr rfl) lets0 (e_if (t_cmp (op_inD (hu65 hr)) s_in (v_ 1) (e_lst (a_cons e_int (a_cons e_int a_nil))) (by rfl)) (e_lst (a_cons e_str (a_cons (e_lst (a_cons (v_ 0) (a_cons (v_ 1) a_nil))) a_nil))) (e_lst (a_cons e_str (a_cons (v_ 1) a_nil)))))
    (ss_cons (s_if (t_cmp (op_inD (hu65 hr)) s_in (v_ 0) (e_lst (a_cons e_int (a_cons e_int a_nil))) (by rfl))
    (ss_one (s_set (i := 2) sc__law_bounds_right.nd rfl (by first | exact Or.inl rfl | exact Or.inr rfl) lets0 (e_lst (a_cons e_str (a_cons (v_ 0) a_nil)))))
    ss_nil)
    (ss_one (s_if (t_cmp (OpR.or op_ne (op_neD (hu64 hr))) s_ne (c_ (d__law_made T) hr tk (a_cons e_int (a_cons (v_ 0) (a_cons (v_ 1) a_nil)))) (v_ 2) (nomark _))
    (ss_one (s_ret e_bl))
    ss_nil)))))))
    (ss_one (s_ret e_bl)))
theorem d__law_numbers_right (T : Txt P w K mg base Ga) : Def P w K mg base Ga 7 "_law_numbers_right" s__law_numbers_right ["box", "disk", "sizes", "fillings"] m__law_numbers_right := by
  refine def_of (k := 6) T.f__law_numbers_right sc__law_numbers_right fun f cdv A outer s H E hr => ?_
  have tk : Takes (cxOf (L2.CX P w) P w K mg base ["box", "disk", "sizes", "fillings", "blocks", "contents", "first", "turn", "filling", "number", "back", "told", "content", "one", "other", "many", "k"] "_law_numbers_right" (defScope s__law_numbers_right) f cdv A outer s H E) (fun c d _ H => E c d H) := takes_of rfl rfl rfl rfl
  have po : PassesOwn (model P w) (cxOf (L2.CX P w) P w K mg base ["box", "disk", "sizes", "fillings", "blocks", "contents", "first", "turn", "filling", "number", "back", "told", "content", "one", "other", "many", "k"] "_law_numbers_right" (defScope s__law_numbers_right) f cdv A outer s H E).A (cxOf (L2.CX P w) P w K mg base ["box", "disk", "sizes", "fillings", "blocks", "contents", "first", "turn", "filling", "number", "back", "told", "content", "one", "other", "many", "k"] "_law_numbers_right" (defScope s__law_numbers_right) f cdv A outer s H E).env (cxOf (L2.CX P w) P w K mg base ["box", "disk", "sizes", "fillings", "blocks", "contents", "first", "turn", "filling", "number", "back", "told", "content", "one", "other", "many", "k"] "_law_numbers_right" (defScope s__law_numbers_right) f cdv A outer s H E).xe := passes_of rfl
  unfold b__law_numbers_right
  exact (ss_cons (s_asg (v_ 2) (g_seq rfl (gs_cons (g_ 4 sc__law_numbers_right.nd lets0) (gs_cons (g_ 5 sc__law_numbers_right.nd lets0) gs_nil))))
    (ss_cons (s_set (i := 6) sc__law_numbers_right.nd rfl (by first | exact Or.inl rfl | exact Or.inr rfl) lets0 (c_ (d__law_take T) hr tk (a_cons (v_ 0) (a_cons e_int a_nil))))
    (ss_cons (s_for po rfl (i_rng1 rfl T.b_range e_int) (g_ 7 sc__law_numbers_right.nd lets0)
    (ss_cons (s_set (i := 8) sc__law_numbers_right.nd rfl (by first | exact Or.inl rfl | exact Or.inr rfl) lets0 (e_sub_ (v_ 3) (e_mod (e_fnT call_int1 f_int rfl T.b_int (by decide +kernel) (a_cons (v_ 7) a_nil)) e_int) (fun _ _ => rfl)))
    (ss_cons (s_set (i := 9) sc__law_numbers_right.nd rfl (by first | exact Or.inl rfl | exact Or.inr rfl) lets0 (c_ (d__law_number T) hr tk (a_cons (v_ 8) (a_cons (v_ 5) a_nil))))
    (ss_cons (s_if (t_cmp (OpR.or op_eq (op_eqD (hu64 hr))) s_eq (e_mod (e_fnT call_int1 f_int rfl T.b_int (by decide +kernel) (a_cons (addX_ (v_ 7) (v_ 6)) a_nil)) e_int) e_int (nomark _))
    (ss_cons (s_set (i := 11) sc__law_numbers_right.nd rfl (by first | exact Or.inl rfl | exact Or.inr rfl) lets0 (c_ (d_number_of T) hr tk (a_cons (v_ 1) (a_cons (v_ 8) a_nil))))
    (ss_one (s_if (PW.pt (w_or (t_not (t_tru (c_ (d__law_whole T) hr tk (a_cons (v_ 11) a_nil)) (by intro _; rfl))) (w_or1 (t_cmp (OpR.or op_ne (op_neD (hu64 hr))) s_ne (v_ 11) (v_ 9) (nomark _)))))
    (ss_one (s_ret e_bl))
    ss_nil)))
    ss_nil)
    (ss_cons (s_set (i := 10) sc__law_numbers_right.nd rfl (by first | exact Or.inl rfl | exact Or.inr rfl) lets0 (e_if (t_cmp (OpR.or op_lt (op_ltT hr.room.units0)) s_ltX (v_ 7) e_int (nomark _)) (c_ (d_filling_at T) hr tk (a_cons (v_ 1) (a_cons (v_ 9) a_nil))) (ck0_ (ks := ["number", "disk"]) (is := [1, 0]) (n := 2) (d_filling_at T) hr tk (fun _ _ _ _ _ _ us ws h1 h2 => match us, ws, h1, h2 with | [], [_, _], _, _ => rfl) (k_cons (v_ 9) (k_cons (v_ 1) k_nil)))))
    (ss_cons (s_if (PW.pt (w_or (t_not (t_tru (e_isi (ty := .tTuple) rfl rfl T.b_isinstance rfl T.b_tuple (by decide +kernel) (ha := (v_ 10))) (by intro _; rfl))) (w_or (t_cmp (OpR.or op_ne (op_neD (hu64 hr))) s_ne (v_ 10) (v_ 8) (nomark _)) (w_or1 (t_cmp (OpR.or op_ne (op_neD (hu64 hr))) s_ne (e_lc (own := [("content", 12)]) rfl sc__law_numbers_right.nd (i_seq (v_ 10)) (blkOk_by (N := ["box", "disk", "sizes", "fillings", "blocks", "contents", "first", "turn", "filling", "number", "back", "told", "content", "one", "other", "many", "k"]) (sc := defScope s__law_numbers_right) (own := [("content", 12)]) (by decide +kernel)) (by decide) (b_ (x := "content") 12 _ _) (fun _ _ _ _ _ => (pg_name (i := 12) sc__law_numbers_right.nd rfl (by first | exact Or.inl rfl | exact Or.inr rfl))) (fun _ _ _ _ _ => (ts_one (t_not (t_tru (c_ (d__law_whole T) hr takes0 (a_cons (v_ 12) a_nil)) (by intro _; rfl))))) (fun _ _ _ _ _ => (v_ 12))) (e_lst a_nil) (nomark _))))))
    (ss_one (s_ret e_bl))
    ss_nil)
    (ss_cons (s_if (PW.pt (w_or (t_cmp (OpR.or op_notN op_isnotB) s_isnot (c_ (d_is_filling T) hr tk (a_cons (v_ 1) (a_cons (v_ 8) a_nil))) e_bl (nomark _)) (w_or1 (t_cmp (OpR.or op_notN op_isnotB) s_isnot (ck0_ (ks := ["value", "disk"]) (is := [1, 0]) (n := 2) (d_is_filling T) hr tk (fun _ _ _ _ _ _ us ws h1 h2 => match us, ws, h1, h2 with | [], [_, _], _, _ => rfl) (k_cons (v_ 10) (k_cons (v_ 1) k_nil))) e_bl (nomark _)))))
    (ss_one (s_ret e_bl))
    ss_nil)
    (ss_one (s_if (t_cmp (OpR.or op_ne (op_neD (hu64 hr))) s_ne (ck0_ (ks := ["filling", "disk"]) (is := [1, 0]) (n := 2) (d_number_of T) hr tk (fun _ _ _ _ _ _ us ws h1 h2 => match us, ws, h1, h2 with | [], [_, _], _, _ => rfl) (k_cons (v_ 8) (k_cons (v_ 1) k_nil))) (v_ 9) (nomark _))
    (ss_one (s_ret e_bl))
    ss_nil)))))))))
    (ss_cons (s_asg (v_ 3) (g_seq rfl (gs_cons (g_ 13 sc__law_numbers_right.nd lets0) (gs_cons (g_ 14 sc__law_numbers_right.nd lets0) gs_nil))))
    (ss_cons (s_if (t_cmp (OpR.or op_ne (op_neD (hu64 hr))) s_ne (e_cmp (OpR.or op_lt (op_ltT hr.room.units0)) s_ltX (v_ 13) (v_ 14) (nomark _)) (e_cmp (OpR.or op_lt (op_ltT hr.room.units0)) s_ltX (c_ (d_number_of T) hr tk (a_cons (v_ 1) (a_cons (v_ 13) a_nil))) (c_ (d_number_of T) hr tk (a_cons (v_ 1) (a_cons (v_ 14) a_nil))) (nomark _)) (nomark _))
    (ss_one (s_ret e_bl))
    ss_nil)
    (ss_cons (s_set (i := 15) sc__law_numbers_right.nd rfl (by first | exact Or.inl rfl | exact Or.inr rfl) lets0 e_int)
    (ss_cons (s_for po rfl (i_rng1 rfl T.b_range (v_ 4)) (g_ 16 sc__law_numbers_right.nd lets0)
    (ss_one (s_set (i := 15) sc__law_numbers_right.nd rfl (by first | exact Or.inl rfl | exact Or.inr rfl) lets0 (mulX_ (v_ 15) (v_ 5)))))
    (ss_cons (s_set (i := 11) sc__law_numbers_right.nd rfl (by first | exact Or.inl rfl | exact Or.inr rfl) lets0 (e_if (t_cmp (OpR.or op_eq (op_eqD (hu64 hr))) s_eq (v_ 6) e_int (nomark _)) (c_ (d_count T) hr tk (a_cons (v_ 1) a_nil)) (ck0_ (ks := ["disk"]) (is := [0]) (n := 1) (d_count T) hr tk (fun _ _ _ _ _ _ us ws h1 h2 => match us, ws, h1, h2 with | [], [_], _, _ => rfl) (k_cons (v_ 1) k_nil))))
    (ss_cons (s_if (PW.pt (w_or (t_not (t_tru (c_ (d__law_whole T) hr tk (a_cons (v_ 11) a_nil)) (by intro _; rfl))) (w_or1 (t_cmp (OpR.or op_ne (op_neD (hu64 hr))) s_ne (v_ 11) (v_ 15) (nomark _)))))
    (ss_one (s_ret e_bl))
    ss_nil)
    (ss_one (s_ret (e_and (e_cmp (OpR.or op_eq (op_eqD (hu64 hr))) s_eq (c_ (d_filling_at T) hr tk (a_cons (v_ 1) (a_cons (e_sub (v_ 15) e_int) a_nil))) (mulX_ (e_tup (a_cons (e_sub (v_ 5) e_int) a_nil)) (v_ 4)) (nomark _)) (e_one (e_cmp (OpR.or op_eq (op_eqD (hu64 hr))) s_eq (c_ (d_filling_at T) hr tk (a_cons (v_ 1) (a_cons e_int a_nil))) (mulX_ (e_tup (a_cons e_int a_nil)) (v_ 4)) (nomark _)))))))))))))))
theorem d__law_refusals_right (T : Txt P w K mg base Ga) : Def P w K mg base Ga 8 "_law_refusals_right" s__law_refusals_right ["box", "disk", "sizes", "filling"] m__law_refusals_right := by
  refine def_of (k := 7) T.f__law_refusals_right sc__law_refusals_right fun f cdv A outer s H E hr => ?_
  have tk : Takes (cxOf (L2.CX P w) P w K mg base ["box", "disk", "sizes", "filling", "blocks", "contents", "many", "turn", "kind", "way", "at", "more", "passed", "first", "second", "one", "other"] "_law_refusals_right" (defScope s__law_refusals_right) f cdv A outer s H E) (fun c d _ H => E c d H) := takes_of rfl rfl rfl rfl
  have po : PassesOwn (model P w) (cxOf (L2.CX P w) P w K mg base ["box", "disk", "sizes", "filling", "blocks", "contents", "many", "turn", "kind", "way", "at", "more", "passed", "first", "second", "one", "other"] "_law_refusals_right" (defScope s__law_refusals_right) f cdv A outer s H E).A (cxOf (L2.CX P w) P w K mg base ["box", "disk", "sizes", "filling", "blocks", "contents", "many", "turn", "kind", "way", "at", "more", "passed", "first", "second", "one", "other"] "_law_refusals_right" (defScope s__law_refusals_right) f cdv A outer s H E).env (cxOf (L2.CX P w) P w K mg base ["box", "disk", "sizes", "filling", "blocks", "contents", "many", "turn", "kind", "way", "at", "more", "passed", "first", "second", "one", "other"] "_law_refusals_right" (defScope s__law_refusals_right) f cdv A outer s H E).xe := passes_of rfl
  unfold b__law_refusals_right
  exact (ss_cons (s_asg (v_ 2) (g_seq rfl (gs_cons (g_ 4 sc__law_refusals_right.nd lets0) (gs_cons (g_ 5 sc__law_refusals_right.nd lets0) gs_nil))))
    (ss_cons (s_set (i := 6) sc__law_refusals_right.nd rfl (by first | exact Or.inl rfl | exact Or.inr rfl) lets0 (addX_ (c_ (d__law_number T) hr tk (a_cons (mulX_ (e_tup (a_cons (e_sub (v_ 5) e_int) a_nil)) (v_ 4)) (a_cons (v_ 5) a_nil))) e_int))
    (ss_cons (s_for po rfl (i_rng1 rfl T.b_range e_int) (g_ 7 sc__law_refusals_right.nd lets0)
    (ss_cons (s_par3 (i := 9) (j := 10) (l := 11) rfl sc__law_refusals_right.nd rfl rfl rfl (by decide) (by decide) (by decide) rfl rfl rfl lets0 lets0 lets0 (a_cons (c_ (d__law_take T) hr tk (a_cons (v_ 0) (a_cons e_int a_nil))) (a_cons (c_ (d__law_take T) hr tk (a_cons (v_ 0) (a_cons (v_ 4) a_nil))) (a_cons (addX_ e_int (c_ (d__law_take T) hr tk (a_cons (v_ 0) (a_cons e_int a_nil)))) a_nil))) (by rfl))
    (ss_cons (s_if (t_cmp (OpR.or op_notN op_isnotB) s_isnot (c_ (d_is_filling T) hr tk (a_cons (v_ 1) (a_cons (c_ (d__law_wrong T) hr tk (a_cons (v_ 9) (a_cons (v_ 10) (a_cons (v_ 3) (a_cons (v_ 5) (a_cons (v_ 11) a_nil)))))) a_nil))) e_bl (nomark _))
    (ss_one (s_ret e_bl))
    ss_nil)
    (ss_cons (s_for po rfl (i_rng1 rfl T.b_range e_int) (g_ 8 sc__law_refusals_right.nd lets0)
    (ss_cons (s_set (i := 12) sc__law_refusals_right.nd rfl (by first | exact Or.inl rfl | exact Or.inr rfl) lets0 (c_ (d__law_wrong T) hr tk (a_cons (v_ 9) (a_cons (v_ 10) (a_cons (v_ 3) (a_cons (v_ 5) (a_cons (v_ 11) a_nil)))))))
    (ss_one (s_if (t_not (t_tru (c_ (d__law_same T) hr tk (a_cons (c_ (d__law_refusal T) hr tk (a_cons (v_ 8) (a_cons (v_ 1) (a_cons (v_ 12) a_nil)))) (a_cons e_str (a_cons (v_ 12) a_nil)))) (by intro _; rfl)))
    (ss_one (s_ret e_bl))
    ss_nil))))
    (ss_cons (s_set (i := 9) sc__law_refusals_right.nd rfl (by first | exact Or.inl rfl | exact Or.inr rfl) lets0 (c_ (d__law_take T) hr tk (a_cons (v_ 0) (a_cons e_int a_nil))))
    (ss_one (s_for po rfl (i_rng2 rfl T.b_range e_int e_int) (g_ 8 sc__law_refusals_right.nd lets0)
    (ss_cons (s_set (i := 12) sc__law_refusals_right.nd rfl (by first | exact Or.inl rfl | exact Or.inr rfl) lets0 (e_sub_ (e_lst (a_cons (e_neg e_int) (a_cons (v_ 6) (a_cons (addX_ (v_ 6) (v_ 11)) (a_cons (e_neg (v_ 11)) (a_cons (e_neg (v_ 6)) (a_cons e_non (a_cons e_bl (a_cons e_bl (a_cons e_str (a_cons (e_tup (a_cons e_int a_nil)) (a_cons (e_lst (a_cons e_int a_nil)) (a_cons (v_ 3) a_nil))))))))))))) (v_ 9) (fun _ _ => rfl)))
    (ss_one (s_if (t_not (t_tru (c_ (d__law_same T) hr tk (a_cons (c_ (d__law_refusal T) hr tk (a_cons (v_ 8) (a_cons (v_ 1) (a_cons (v_ 12) a_nil)))) (a_cons e_str (a_cons (v_ 12) a_nil)))) (by intro _; rfl)))
    (ss_one (s_ret e_bl))
    ss_nil))))))))))
    (ss_cons (s_par2 (i := 13) (j := 14) rfl sc__law_refusals_right.nd rfl rfl (by decide) rfl rfl lets0 lets0 (a_cons (addX_ (v_ 3) (e_tup (a_cons e_int a_nil))) (a_cons (addX_ (e_sl (v_ 3) (o_so e_int) o_no) (e_tup (a_cons (v_ 5) a_nil))) a_nil)) (by rfl))
    (ss_cons (s_par2 (i := 15) (j := 16) rfl sc__law_refusals_right.nd rfl rfl (by decide) rfl rfl lets0 lets0 (a_cons (c_ (d__law_error T) hr tk (a_cons (v_ 1) (a_cons (v_ 13) a_nil))) (a_cons (c_ (d__law_error T) hr tk (a_cons (v_ 1) (a_cons (v_ 14) a_nil))) a_nil)) (by rfl))
    (ss_cons (s_if (PW.pt (w_or (t_tru (e_isi (ty := .tInt) rfl rfl T.b_isinstance rfl T.b_int (by decide +kernel) (ha := (v_ 15))) (by intro _; rfl)) (w_or (t_tru (e_isi (ty := .tInt) rfl rfl T.b_isinstance rfl T.b_int (by decide +kernel) (ha := (v_ 16))) (by intro _; rfl)) (w_or1 (t_cmp (OpR.or op_ne (op_neD (hu64 hr))) s_ne (e_repr hr.g (hu70 hr) rfl T.b_repr (e_lst (a_cons (e_xfl T.xa_given (v_ 15)) (a_cons (e_xfl T.xa_given (v_ 16)) a_nil)))) (e_repr hr.g (hu70 hr) rfl T.b_repr (e_lst (a_cons (v_ 13) (a_cons (v_ 14) a_nil)))) (nomark _))))))
    (ss_one (s_ret e_bl))
    ss_nil)
    (ss_one (s_ret (e_and (e_cmp (OpR.or op_eq (op_eqD (hu64 hr))) s_eq (c_ (d__law_refusal T) hr tk (a_cons e_int (a_cons (v_ 1) (a_cons (v_ 3) a_nil)))) (e_lst (a_cons e_str (a_cons e_non a_nil))) (nomark _)) (e_one (e_cmp (OpR.or op_eq (op_eqD (hu64 hr))) s_eq (c_ (d__law_refusal T) hr tk (a_cons e_int (a_cons (v_ 1) (a_cons (e_sub (v_ 6) e_int) a_nil)))) (e_lst (a_cons e_str (a_cons e_non a_nil))) (nomark _))))))))))))
theorem eqs (T : Txt P w K mg base Ga) {X : Cx} (e1 : X.prog = P := by rfl) (e2 : X.w = w := by rfl) (e3 : X.K = K := by rfl) (e4 : X.mg = mg := by rfl) (e5 : X.base = base := by rfl) : EqFs X Ga 1 eqFs := by
  subst e1 e2 e3 e4 e5
  intro c mf hc
  unfold eqFs at hc
  split at hc
  · rename_i z; subst z; cases hc
    obtain ⟨f, fd, h1, h0, F, h2, M⟩ := (d_Disk___eq__ T).ex
    have nf := T.nf 4 (by decide)
    exact ⟨f, fd, _, ⟨h1, h0, nf.1, fun c cx => nf.2 c cx.cl.hd, fun c cx => nf.2 c cx.xf.hdC⟩, M.mono (by decide), h2⟩
  cases hc
theorem nes (T : Txt P w K mg base Ga) {X : Cx} (e3 : X.K = K := by rfl) : NeFs X Ga eqFs := by
  subst e3
  intro c mf hc
  unfold eqFs at hc
  split at hc
  · rename_i z; subst z; exact T.ne 4 (by decide)
  cases hc
theorem d__law_right (T : Txt P w K mg base Ga) : Def P w K mg base Ga 9 "_law_right" s__law_right ["box"] m__law_right := by
  refine def_of (k := 8) T.f__law_right sc__law_right fun f cdv A outer s H E hr => ?_
  have tk : Takes (cxOf (L2.CX P w) P w K mg base ["box", "pair", "disks", "k", "told", "fillings", "size", "turn"] "_law_right" (defScope s__law_right) f cdv A outer s H E) (fun c d _ H => E c d H) := takes_of rfl rfl rfl rfl
  have po : PassesOwn (model P w) (cxOf (L2.CX P w) P w K mg base ["box", "pair", "disks", "k", "told", "fillings", "size", "turn"] "_law_right" (defScope s__law_right) f cdv A outer s H E).A (cxOf (L2.CX P w) P w K mg base ["box", "pair", "disks", "k", "told", "fillings", "size", "turn"] "_law_right" (defScope s__law_right) f cdv A outer s H E).env (cxOf (L2.CX P w) P w K mg base ["box", "pair", "disks", "k", "told", "fillings", "size", "turn"] "_law_right" (defScope s__law_right) f cdv A outer s H E).xe := passes_of rfl
  unfold b__law_right
  exact (ss_cons (s_set (i := 1) sc__law_right.nd rfl (by first | exact Or.inl rfl | exact Or.inr rfl) lets0 (c_ (d__law_pair T) hr tk (a_cons (v_ 0) a_nil)))
    (ss_cons (s_set (i := 2) sc__law_right.nd rfl (by first | exact Or.inl rfl | exact Or.inr rfl) lets0 (e_lst (a_cons (mk_ (d_Disk___init__ T) T.c_Disk hr tk (a_cons (e_sub_ (e_sub_ (v_ 1) e_int (fun _ _ => rfl)) e_int (fun _ _ => rfl)) (a_cons (e_sub_ (e_sub_ (v_ 1) e_int (fun _ _ => rfl)) e_int (fun _ _ => rfl)) a_nil))) (a_cons (mkK_ (ks := ["contents", "blocks"]) (is := [1, 0]) (n := 2) (d_Disk___init__ T) T.c_Disk hr tk (fun _ _ _ _ _ _ _ ws h2 => match ws, h2 with | [_, _], _ => rfl) (k_cons (e_sub_ (e_sub_ (v_ 1) e_int (fun _ _ => rfl)) e_int (fun _ _ => rfl)) (k_cons (e_sub_ (e_sub_ (v_ 1) e_int (fun _ _ => rfl)) e_int (fun _ _ => rfl)) k_nil))) a_nil))))
    (ss_cons (s_for po rfl (i_rng1 rfl T.b_range e_int) (g_ 3 sc__law_right.nd lets0)
    (ss_one (s_if (t_cmp (OpR.or (OpR.or op_ne (op_neD (hu64 hr))) (op_neO (hr.mono (by decide)) (eqs T) (nes T))) (s_neO s_ne) (e_lst (a_cons (e_fld T.fd_blocks (e_sub_ (v_ 2) (v_ 3) (fun _ _ => rfl))) (a_cons (e_fld T.fd_contents (e_sub_ (v_ 2) (v_ 3) (fun _ _ => rfl))) a_nil))) (e_lst (a_cons (e_sub_ (e_sub_ (v_ 1) (v_ 3) (fun _ _ => rfl)) e_int (fun _ _ => rfl)) (a_cons (e_sub_ (e_sub_ (v_ 1) (v_ 3) (fun _ _ => rfl)) e_int (fun _ _ => rfl)) a_nil))) (nomark _))
    (ss_one (s_ret e_bl))
    ss_nil)))
    (ss_cons (s_if (PW.pt (w_or (t_cmp (OpR.or (OpR.or op_ne (op_neD (hu64 hr))) (op_neO (hr.mono (by decide)) (eqs T) (nes T))) (s_neO s_ne) (e_cmp (OpR.or (OpR.or op_eq (op_eqD (hu64 hr))) (op_eqO (hr.mono (by decide)) (eqs T))) s_eqO (e_sub_ (v_ 2) e_int (fun _ _ => rfl)) (e_sub_ (v_ 2) e_int (fun _ _ => rfl)) (nomark _)) (e_cmp (OpR.or (OpR.or op_eq (op_eqD (hu64 hr))) (op_eqO (hr.mono (by decide)) (eqs T))) s_eqO (e_sub_ (v_ 1) e_int (fun _ _ => rfl)) (e_sub_ (v_ 1) e_int (fun _ _ => rfl)) (nomark _)) (nomark _)) (w_or1 (t_cmp (OpR.or (OpR.or op_ne (op_neD (hu64 hr))) (op_neO (hr.mono (by decide)) (eqs T) (nes T))) (s_neO s_ne) (e_cmp (OpR.or (OpR.or op_ne (op_neD (hu64 hr))) (op_neO (hr.mono (by decide)) (eqs T) (nes T))) (s_neO s_ne) (e_sub_ (v_ 2) e_int (fun _ _ => rfl)) (e_sub_ (v_ 2) e_int (fun _ _ => rfl)) (nomark _)) (e_cmp (OpR.or (OpR.or op_ne (op_neD (hu64 hr))) (op_neO (hr.mono (by decide)) (eqs T) (nes T))) (s_neO s_ne) (e_sub_ (v_ 1) e_int (fun _ _ => rfl)) (e_sub_ (v_ 1) e_int (fun _ _ => rfl)) (nomark _)) (nomark _)))))
    (ss_one (s_ret e_bl))
    ss_nil)
    (ss_cons (s_if (PW.pt (w_or (t_cmp (OpR.or (OpR.or op_eq (op_eqD (hu64 hr))) (op_eqO (hr.mono (by decide)) (eqs T))) s_eqO (e_sub_ (v_ 2) e_int (fun _ _ => rfl)) (e_err T.e_InvalidBlocks (T.x_x 0 (by decide)) (hr.room.mono (by decide)) rfl (e_sub_ (e_sub_ (v_ 1) e_int (fun _ _ => rfl)) e_int (fun _ _ => rfl))) (nomark _)) (w_or1 (t_not (t_cmp (OpR.or (OpR.or op_eq (op_eqD (hu64 hr))) (op_eqO (hr.mono (by decide)) (eqs T))) s_eqO (e_sub_ (v_ 2) e_int (fun _ _ => rfl)) (mk_ (d_Disk___init__ T) T.c_Disk hr tk (a_cons (e_sub_ (e_sub_ (v_ 1) e_int (fun _ _ => rfl)) e_int (fun _ _ => rfl)) (a_cons (e_sub_ (e_sub_ (v_ 1) e_int (fun _ _ => rfl)) e_int (fun _ _ => rfl)) a_nil))) (nomark _))))))
    (ss_one (s_ret e_bl))
    ss_nil)
    (ss_cons (s_set (i := 4) sc__law_right.nd rfl (by first | exact Or.inl rfl | exact Or.inr rfl) lets0 (c_ (d__law_refusal T) hr tk (a_cons e_int (a_cons (e_sub_ (v_ 2) e_int (fun _ _ => rfl)) (a_cons (e_sub_ (v_ 2) e_int (fun _ _ => rfl)) a_nil)))))
    (ss_cons (s_if (PW.pt (w_or (t_cmp (OpR.or (OpR.or op_ne (op_neD (hu64 hr))) (op_neO (hr.mono (by decide)) (eqs T) (nes T))) (s_neO s_ne) (e_sub_ (v_ 4) e_int (fun _ _ => rfl)) e_str (nomark _)) (w_or (t_not (t_cmp (OpR.or (OpR.or op_eq (op_eqD (hu64 hr))) (op_eqO (hr.mono (by decide)) (eqs T))) s_eqO (e_sub_ (v_ 4) e_int (fun _ _ => rfl)) (e_sub_ (v_ 2) e_int (fun _ _ => rfl)) (nomark _))) (w_or1 (t_cmp (OpR.or op_notN op_isnotB) s_isnot (c_ (d_is_filling T) hr tk (a_cons (e_sub_ (v_ 2) e_int (fun _ _ => rfl)) (a_cons (e_sub_ (v_ 2) e_int (fun _ _ => rfl)) a_nil))) e_bl (nomark _))))))
    (ss_one (s_ret e_bl))
    ss_nil)
    (ss_cons (s_setLc (i := 5) (own := [("size", 6)]) rfl sc__law_right.nd rfl rfl (sw_true rfl rfl rfl (by decide +kernel)) (i_seq (v_ 1)) (blkOk_by (N := ["box", "pair", "disks", "k", "told", "fillings", "size", "turn"]) (sc := defScope s__law_right) (own := [("size", 6)]) (by decide +kernel)) (by decide) (b_ (x := "size") 6 _ _) (fun _ _ _ _ _ => (pg_name (i := 6) sc__law_right.nd rfl (by first | exact Or.inl rfl | exact Or.inr rfl))) (fun _ _ _ _ _ => ts_nil) (fun _ _ _ _ _ => (e_lc (own := [("turn", 7)]) rfl sc__law_right.nd (i_rng1 rfl T.b_range e_int) (by refine blkOk_in (own := [("turn", 7)]) ?_; kernel_rfl) (by decide) (b_ (x := "turn") 7 _ _) (fun _ _ _ _ _ => (pg_name (i := 7) sc__law_right.nd rfl (by first | exact Or.inl rfl | exact Or.inr rfl))) (fun _ _ _ _ _ => ts_nil) (fun _ _ _ _ _ => (c_ (d__law_filling T) hr takes0 (a_cons (v_ 0) (a_cons (e_sub_ (v_ 6) e_int (fun _ _ => rfl)) (a_cons (e_sub_ (v_ 6) e_int (fun _ _ => rfl)) a_nil))))))))
    (ss_cons (s_for po rfl (i_seq (e_lst (a_cons e_int (a_cons e_int (a_cons e_int a_nil))))) (g_ 3 sc__law_right.nd lets0)
    (ss_one (s_if (t_not (t_tru (c_ (d__law_numbers_right T) hr tk (a_cons (v_ 0) (a_cons (e_sub_ (v_ 2) (v_ 3) (fun _ _ => rfl)) (a_cons (e_sub_ (v_ 1) (v_ 3) (fun _ _ => rfl)) (a_cons (e_sub_ (v_ 5) (v_ 3) (fun _ _ => rfl)) a_nil))))) (by intro _; rfl)))
    (ss_one (s_ret e_bl))
    ss_nil)))
    (ss_cons (s_for po rfl (i_rng1 rfl T.b_range e_int) (g_ 3 sc__law_right.nd lets0)
    (ss_one (s_if (PW.pt (w_or (t_not (t_tru (c_ (d__law_refusals_right T) hr tk (a_cons (v_ 0) (a_cons (e_sub_ (v_ 2) (v_ 3) (fun _ _ => rfl)) (a_cons (e_sub_ (v_ 1) (v_ 3) (fun _ _ => rfl)) (a_cons (e_sub_ (e_sub_ (v_ 5) (v_ 3) (fun _ _ => rfl)) e_int (fun _ _ => rfl)) a_nil))))) (by intro _; rfl))) (w_or1 (t_not (t_tru (c_ (d__law_makings_right T) hr tk (a_cons (v_ 0) (a_cons (e_sub_ (v_ 1) (v_ 3) (fun _ _ => rfl)) a_nil))) (by intro _; rfl))))))
    (ss_one (s_ret e_bl))
    ss_nil)))
    (ss_one (s_ret e_bl))))))))))))
theorem d_law (T : Txt P w K mg base Ga) : Def P w K mg base Ga 10 "law" s_law ["script"] m_law := by
  refine def_of (k := 9) T.f_law sc_law fun f cdv A outer s H E hr => ?_
  have tk : Takes (cxOf (L2.CX P w) P w K mg base ["script", "k"] "law" (defScope s_law) f cdv A outer s H E) (fun c d _ H => E c d H) := takes_of rfl rfl rfl rfl
  have po : PassesOwn (model P w) (cxOf (L2.CX P w) P w K mg base ["script", "k"] "law" (defScope s_law) f cdv A outer s H E).A (cxOf (L2.CX P w) P w K mg base ["script", "k"] "law" (defScope s_law) f cdv A outer s H E).env (cxOf (L2.CX P w) P w K mg base ["script", "k"] "law" (defScope s_law) f cdv A outer s H E).xe := passes_of rfl
  unfold b_law
  exact (ss_cons (s_for po rfl (i_rng1 rfl T.b_range (e_fnB (call_max2 rfl) f_max2 rfl T.b_max (by decide +kernel) (a_cons e_int (a_cons (e_fnB (call_min2 rfl) f_min2 rfl T.b_min (by decide +kernel) (a_cons e_int (a_cons (e_fnB call_len f_len rfl T.b_len (by decide +kernel) (a_cons (v_ 0) a_nil)) a_nil))) a_nil)))) (g_ 1 sc_law.nd lets0)
    (ss_one (s_if (t_not (t_tru (c_ (d__law_right T) hr tk (a_cons (c_ (d__law_box T) hr tk (a_cons (c_ (d__law_cell T) hr tk (a_cons (v_ 0) (a_cons (v_ 1) a_nil))) a_nil)) a_nil)) (by intro _; rfl)))
    (ss_one (s_ret e_bl))
    ss_nil)))
    (ss_one (s_ret (c0_ (d__law_bounds_right T) hr tk))))
end
end K01
set_option Elab.async false
set_option linter.all false
set_option maxRecDepth 100000
set_option maxHeartbeats 4100000
namespace K01
open PySem PySem.Spec PyProof.Rows L2 Mini Br
theorem ok_InvalidBlocks {P : Program} {w : World} {K : PySem.W.Frag} {mg : Str → Option Value} {base : Heap} {f C : Addr} {fd : FuncData} (F : Fun K "__init__" "InvalidBlocks.__init__" s_InvalidBlocks f fd) (o : OexC K C) (no : PySem.W.findIn K (.ref C) "given" = some none) : FnOk P w K mg base CX0 1 f fd ["self", "given"] (spI "given" C) := by
  refine F.ok sc_InvalidBlocks (fun vs H Q E h => ?_) (fun cdv A outer s H vs Q E hr h => ?_)
  · obtain ⟨a, v, rfl, _⟩ := h; rfl
  · obtain ⟨a, v, rfl, ha, k⟩ := h
    refine ⟨_, pss_one (ps_ost (pv 0) (pv 1)), ?_⟩
    exact ⟨_, rfl, _, rfl, a, C, rfl, o, no, .inl ⟨ha, fun dx h1 h2 => k dx h1 h2⟩⟩
theorem ok_InvalidContents {P : Program} {w : World} {K : PySem.W.Frag} {mg : Str → Option Value} {base : Heap} {f C : Addr} {fd : FuncData} (F : Fun K "__init__" "InvalidContents.__init__" s_InvalidContents f fd) (o : OexC K C) (no : PySem.W.findIn K (.ref C) "given" = some none) : FnOk P w K mg base CX0 1 f fd ["self", "given"] (spI "given" C) := by
  refine F.ok sc_InvalidContents (fun vs H Q E h => ?_) (fun cdv A outer s H vs Q E hr h => ?_)
  · obtain ⟨a, v, rfl, _⟩ := h; rfl
  · obtain ⟨a, v, rfl, ha, k⟩ := h
    refine ⟨_, pss_one (ps_ost (pv 0) (pv 1)), ?_⟩
    exact ⟨_, rfl, _, rfl, a, C, rfl, o, no, .inl ⟨ha, fun dx h1 h2 => k dx h1 h2⟩⟩
theorem ok_InvalidFilling {P : Program} {w : World} {K : PySem.W.Frag} {mg : Str → Option Value} {base : Heap} {f C : Addr} {fd : FuncData} (F : Fun K "__init__" "InvalidFilling.__init__" s_InvalidFilling f fd) (o : OexC K C) (no : PySem.W.findIn K (.ref C) "given" = some none) : FnOk P w K mg base CX0 1 f fd ["self", "given"] (spI "given" C) := by
  refine F.ok sc_InvalidFilling (fun vs H Q E h => ?_) (fun cdv A outer s H vs Q E hr h => ?_)
  · obtain ⟨a, v, rfl, _⟩ := h; rfl
  · obtain ⟨a, v, rfl, ha, k⟩ := h
    refine ⟨_, pss_one (ps_ost (pv 0) (pv 1)), ?_⟩
    exact ⟨_, rfl, _, rfl, a, C, rfl, o, no, .inl ⟨ha, fun dx h1 h2 => k dx h1 h2⟩⟩
theorem ok_InvalidNumber {P : Program} {w : World} {K : PySem.W.Frag} {mg : Str → Option Value} {base : Heap} {f C : Addr} {fd : FuncData} (F : Fun K "__init__" "InvalidNumber.__init__" s_InvalidNumber f fd) (o : OexC K C) (no : PySem.W.findIn K (.ref C) "given" = some none) : FnOk P w K mg base CX0 1 f fd ["self", "given"] (spI "given" C) := by
  refine F.ok sc_InvalidNumber (fun vs H Q E h => ?_) (fun cdv A outer s H vs Q E hr h => ?_)
  · obtain ⟨a, v, rfl, _⟩ := h; rfl
  · obtain ⟨a, v, rfl, ha, k⟩ := h
    refine ⟨_, pss_one (ps_ost (pv 0) (pv 1)), ?_⟩
    exact ⟨_, rfl, _, rfl, a, C, rfl, o, no, .inl ⟨ha, fun dx h1 h2 => k dx h1 h2⟩⟩
set_option maxHeartbeats 4200000 in
theorem all_mk {w : World} {K : PySem.W.Frag} {h : Heap} {mg : Str → Option Value} {fa : Addr} {f0 f1 f2 f3 f4 f5 f6 f7 f8 f9 f10 f11 f12 f13 f14 f15 f16 f17 f18 f19 f20 f21 f22 f23 f24 f25 f26 f27 f28 f29 f30 f31 f32 f33 C0 u0 C1 u1 C2 u2 C3 u3 C4 : Addr} {od0 an0 : Option Addr} {sl0 : Array (Option Value)} {oc0 kV0 dc0 pm0 cd0 ct0 : Value} {od1 an1 : Option Addr} {sl1 : Array (Option Value)} {oc1 kV1 dc1 pm1 cd1 ct1 : Value} {od2 an2 : Option Addr} {sl2 : Array (Option Value)} {oc2 kV2 dc2 pm2 cd2 ct2 : Value} {od3 an3 : Option Addr} {sl3 : Array (Option Value)} {oc3 kV3 dc3 pm3 cd3 ct3 : Value} {od4 an4 : Option Addr} {sl4 : Array (Option Value)} {oc4 kV4 dc4 pm4 cd4 ct4 : Value} {od5 an5 : Option Addr} {sl5 : Array (Option Value)} {oc5 kV5 dc5 pm5 cd5 ct5 : Value} {od6 an6 : Option Addr} {sl6 : Array (Option Value)} {oc6 kV6 dc6 pm6 cd6 ct6 : Value} {od7 an7 : Option Addr} {sl7 : Array (Option Value)} {oc7 kV7 dc7 pm7 cd7 ct7 : Value} {od8 an8 : Option Addr} {sl8 : Array (Option Value)} {oc8 kV8 dc8 pm8 cd8 ct8 : Value} {od9 an9 : Option Addr} {sl9 : Array (Option Value)} {oc9 kV9 dc9 pm9 cd9 ct9 : Value} {od10 an10 : Option Addr} {sl10 : Array (Option Value)} {oc10 kV10 dc10 pm10 cd10 ct10 : Value} {od11 an11 : Option Addr} {sl11 : Array (Option Value)} {oc11 kV11 dc11 pm11 cd11 ct11 : Value} {od12 an12 : Option Addr} {sl12 : Array (Option Value)} {oc12 kV12 dc12 pm12 cd12 ct12 : Value} {od13 an13 : Option Addr} {sl13 : Array (Option Value)} {oc13 kV13 dc13 pm13 cd13 ct13 : Value} {od14 an14 : Option Addr} {sl14 : Array (Option Value)} {oc14 kV14 dc14 pm14 cd14 ct14 : Value} {od15 an15 : Option Addr} {sl15 : Array (Option Value)} {oc15 kV15 dc15 pm15 cd15 ct15 : Value} {od16 an16 : Option Addr} {sl16 : Array (Option Value)} {oc16 kV16 dc16 pm16 cd16 ct16 : Value} {od17 an17 : Option Addr} {sl17 : Array (Option Value)} {oc17 kV17 dc17 pm17 cd17 ct17 : Value} {od18 an18 : Option Addr} {sl18 : Array (Option Value)} {oc18 kV18 dc18 pm18 cd18 ct18 : Value} {od19 an19 : Option Addr} {sl19 : Array (Option Value)} {oc19 kV19 dc19 pm19 cd19 ct19 : Value} {od20 an20 : Option Addr} {sl20 : Array (Option Value)} {oc20 kV20 dc20 pm20 cd20 ct20 : Value} {od21 an21 : Option Addr} {sl21 : Array (Option Value)} {oc21 kV21 dc21 pm21 cd21 ct21 : Value} {od22 an22 : Option Addr} {sl22 : Array (Option Value)} {oc22 kV22 dc22 pm22 cd22 ct22 : Value} {od23 an23 : Option Addr} {sl23 : Array (Option Value)} {oc23 kV23 dc23 pm23 cd23 ct23 : Value} {od24 an24 : Option Addr} {sl24 : Array (Option Value)} {oc24 kV24 dc24 pm24 cd24 ct24 : Value} {od25 an25 : Option Addr} {sl25 : Array (Option Value)} {oc25 kV25 dc25 pm25 cd25 ct25 : Value} {od26 an26 : Option Addr} {sl26 : Array (Option Value)} {oc26 kV26 dc26 pm26 cd26 ct26 : Value} {od27 an27 : Option Addr} {sl27 : Array (Option Value)} {oc27 kV27 dc27 pm27 cd27 ct27 : Value} {od28 an28 : Option Addr} {sl28 : Array (Option Value)} {oc28 kV28 dc28 pm28 cd28 ct28 : Value} {od29 an29 : Option Addr} {sl29 : Array (Option Value)} {oc29 kV29 dc29 pm29 cd29 ct29 : Value} {od30 an30 : Option Addr} {sl30 : Array (Option Value)} {oc30 kV30 dc30 pm30 cd30 ct30 : Value} {od31 an31 : Option Addr} {sl31 : Array (Option Value)} {oc31 kV31 dc31 pm31 cd31 ct31 : Value} {od32 an32 : Option Addr} {sl32 : Array (Option Value)} {oc32 kV32 dc32 pm32 cd32 ct32 : Value} {od33 an33 : Option Addr} {sl33 : Array (Option Value)} {oc33 kV33 dc33 pm33 cd33 ct33 : Value} {t0 : Tok} {t1 : Tok} {nm0 q0 : Str} {N0 : Addr} {bs0 bm0 : List Value} {sn0 : List Str} {sb0 : List Value} {ab0 : Bool} {co0 : Option Bool} {dd0 : Option Addr} {m00 m10 m20 m30 m50 : Option Value} {ode0 ane0 : Option Addr} {sle0 : Array (Option Value)} {oce0 kVe0 dce0 pme0 cde0 cte0 : Value} {nm1 q1 : Str} {N1 : Addr} {bs1 bm1 : List Value} {sn1 : List Str} {sb1 : List Value} {ab1 : Bool} {co1 : Option Bool} {dd1 : Option Addr} {m01 m11 m21 m31 m51 : Option Value} {ode1 ane1 : Option Addr} {sle1 : Array (Option Value)} {oce1 kVe1 dce1 pme1 cde1 cte1 : Value} {nm2 q2 : Str} {N2 : Addr} {bs2 bm2 : List Value} {sn2 : List Str} {sb2 : List Value} {ab2 : Bool} {co2 : Option Bool} {dd2 : Option Addr} {m02 m12 m22 m32 m52 : Option Value} {ode2 ane2 : Option Addr} {sle2 : Array (Option Value)} {oce2 kVe2 dce2 pme2 cde2 cte2 : Value} {nm3 q3 : Str} {N3 : Addr} {bs3 bm3 : List Value} {sn3 : List Str} {sb3 : List Value} {ab3 : Bool} {co3 : Option Bool} {dd3 : Option Addr} {m03 m13 m23 m33 m53 : Option Value} {ode3 ane3 : Option Addr} {sle3 : Array (Option Value)} {oce3 kVe3 dce3 pme3 cde3 cte3 : Value} (X : K.In h) (G : h.Ns mainGlobals mg) (hfa : mg "law" = some (.ref fa))
    (a0 : PySem.W.nsIn K mainGlobals "is_whole" = some (some (.ref f0)))
    (l0 : K.lookup f0 = some ⟨oc0, od0, .func (PySem.W.fnOf "is_whole" "is_whole" (defArgs s_is_whole) (defBody s_is_whole) (defScope s_is_whole) .none kV0 dc0 pm0 an0 cd0 ct0), sl0⟩)
    (c0 : PySem.W.codeIn K cd0 "is_whole" = true)
    (k0 : PySem.W.keepIn K (.ref f0) = true)
    (a1 : PySem.W.nsIn K mainGlobals "is_between" = some (some (.ref f1)))
    (l1 : K.lookup f1 = some ⟨oc1, od1, .func (PySem.W.fnOf "is_between" "is_between" (defArgs s_is_between) (defBody s_is_between) (defScope s_is_between) .none kV1 dc1 pm1 an1 cd1 ct1), sl1⟩)
    (c1 : PySem.W.codeIn K cd1 "is_between" = true)
    (k1 : PySem.W.keepIn K (.ref f1) = true)
    (a2 : PySem.W.nsIn K mainGlobals "is_tuple_of" = some (some (.ref f2)))
    (l2 : K.lookup f2 = some ⟨oc2, od2, .func (PySem.W.fnOf "is_tuple_of" "is_tuple_of" (defArgs s_is_tuple_of) (defBody s_is_tuple_of) (defScope s_is_tuple_of) .none kV2 dc2 pm2 an2 cd2 ct2), sl2⟩)
    (c2 : PySem.W.codeIn K cd2 "is_tuple_of" = true)
    (k2 : PySem.W.keepIn K (.ref f2) = true)
    (a3 : PySem.W.nsIn K mainGlobals "is_contents" = some (some (.ref f3)))
    (l3 : K.lookup f3 = some ⟨oc3, od3, .func (PySem.W.fnOf "is_contents" "is_contents" (defArgs s_is_contents) (defBody s_is_contents) (defScope s_is_contents) .none kV3 dc3 pm3 an3 cd3 ct3), sl3⟩)
    (c3 : PySem.W.codeIn K cd3 "is_contents" = true)
    (k3 : PySem.W.keepIn K (.ref f3) = true)
    (A4 : PySem.W.nsIn K mainGlobals "Disk" = some (some (.ref C4)))
    (a4 : PySem.W.findIn K (.ref C4) "__init__" = some (some (.ref f4)))
    (w4 : PySem.W.isFn K (.ref f4) = true)
    (l4 : K.lookup f4 = some ⟨oc4, od4, .func (PySem.W.fnOf "__init__" "Disk.__init__" (defArgs s_Disk___init__) (defBody s_Disk___init__) (defScope s_Disk___init__) .none kV4 dc4 pm4 an4 cd4 ct4), sl4⟩)
    (c4 : PySem.W.codeIn K cd4 "Disk.__init__" = true)
    (k4 : PySem.W.keepIn K (.ref f4) = true)
    (a5 : PySem.W.findIn K (.ref C4) "__eq__" = some (some (.ref f5)))
    (w5 : PySem.W.isFn K (.ref f5) = true)
    (l5 : K.lookup f5 = some ⟨oc5, od5, .func (PySem.W.fnOf "__eq__" "Disk.__eq__" (defArgs s_Disk___eq__) (defBody s_Disk___eq__) (defScope s_Disk___eq__) .none kV5 dc5 pm5 an5 cd5 ct5), sl5⟩)
    (c5 : PySem.W.codeIn K cd5 "Disk.__eq__" = true)
    (k5 : PySem.W.keepIn K (.ref f5) = true)
    (a6 : PySem.W.nsIn K mainGlobals "power" = some (some (.ref f6)))
    (l6 : K.lookup f6 = some ⟨oc6, od6, .func (PySem.W.fnOf "power" "power" (defArgs s_power) (defBody s_power) (defScope s_power) .none kV6 dc6 pm6 an6 cd6 ct6), sl6⟩)
    (c6 : PySem.W.codeIn K cd6 "power" = true)
    (k6 : PySem.W.keepIn K (.ref f6) = true)
    (a7 : PySem.W.nsIn K mainGlobals "number_from" = some (some (.ref f7)))
    (l7 : K.lookup f7 = some ⟨oc7, od7, .func (PySem.W.fnOf "number_from" "number_from" (defArgs s_number_from) (defBody s_number_from) (defScope s_number_from) .none kV7 dc7 pm7 an7 cd7 ct7), sl7⟩)
    (c7 : PySem.W.codeIn K cd7 "number_from" = true)
    (k7 : PySem.W.keepIn K (.ref f7) = true)
    (a8 : PySem.W.nsIn K mainGlobals "figures" = some (some (.ref f8)))
    (l8 : K.lookup f8 = some ⟨oc8, od8, .func (PySem.W.fnOf "figures" "figures" (defArgs s_figures) (defBody s_figures) (defScope s_figures) .none kV8 dc8 pm8 an8 cd8 ct8), sl8⟩)
    (c8 : PySem.W.codeIn K cd8 "figures" = true)
    (k8 : PySem.W.keepIn K (.ref f8) = true)
    (a9 : PySem.W.nsIn K mainGlobals "count" = some (some (.ref f9)))
    (l9 : K.lookup f9 = some ⟨oc9, od9, .func (PySem.W.fnOf "count" "count" (defArgs s_count) (defBody s_count) (defScope s_count) .none kV9 dc9 pm9 an9 cd9 ct9), sl9⟩)
    (c9 : PySem.W.codeIn K cd9 "count" = true)
    (k9 : PySem.W.keepIn K (.ref f9) = true)
    (a10 : PySem.W.nsIn K mainGlobals "is_filling" = some (some (.ref f10)))
    (l10 : K.lookup f10 = some ⟨oc10, od10, .func (PySem.W.fnOf "is_filling" "is_filling" (defArgs s_is_filling) (defBody s_is_filling) (defScope s_is_filling) .none kV10 dc10 pm10 an10 cd10 ct10), sl10⟩)
    (c10 : PySem.W.codeIn K cd10 "is_filling" = true)
    (k10 : PySem.W.keepIn K (.ref f10) = true)
    (a11 : PySem.W.nsIn K mainGlobals "check_filling" = some (some (.ref f11)))
    (l11 : K.lookup f11 = some ⟨oc11, od11, .func (PySem.W.fnOf "check_filling" "check_filling" (defArgs s_check_filling) (defBody s_check_filling) (defScope s_check_filling) .none kV11 dc11 pm11 an11 cd11 ct11), sl11⟩)
    (c11 : PySem.W.codeIn K cd11 "check_filling" = true)
    (k11 : PySem.W.keepIn K (.ref f11) = true)
    (a12 : PySem.W.nsIn K mainGlobals "number_of" = some (some (.ref f12)))
    (l12 : K.lookup f12 = some ⟨oc12, od12, .func (PySem.W.fnOf "number_of" "number_of" (defArgs s_number_of) (defBody s_number_of) (defScope s_number_of) .none kV12 dc12 pm12 an12 cd12 ct12), sl12⟩)
    (c12 : PySem.W.codeIn K cd12 "number_of" = true)
    (k12 : PySem.W.keepIn K (.ref f12) = true)
    (a13 : PySem.W.nsIn K mainGlobals "filling_at" = some (some (.ref f13)))
    (l13 : K.lookup f13 = some ⟨oc13, od13, .func (PySem.W.fnOf "filling_at" "filling_at" (defArgs s_filling_at) (defBody s_filling_at) (defScope s_filling_at) .none kV13 dc13 pm13 an13 cd13 ct13), sl13⟩)
    (c13 : PySem.W.codeIn K cd13 "filling_at" = true)
    (k13 : PySem.W.keepIn K (.ref f13) = true)
    (a14 : PySem.W.nsIn K mainGlobals "_law_cell" = some (some (.ref f14)))
    (l14 : K.lookup f14 = some ⟨oc14, od14, .func (PySem.W.fnOf "_law_cell" "_law_cell" (defArgs s__law_cell) (defBody s__law_cell) (defScope s__law_cell) .none kV14 dc14 pm14 an14 cd14 ct14), sl14⟩)
    (c14 : PySem.W.codeIn K cd14 "_law_cell" = true)
    (k14 : PySem.W.keepIn K (.ref f14) = true)
    (a15 : PySem.W.nsIn K mainGlobals "_law_box" = some (some (.ref f15)))
    (l15 : K.lookup f15 = some ⟨oc15, od15, .func (PySem.W.fnOf "_law_box" "_law_box" (defArgs s__law_box) (defBody s__law_box) (defScope s__law_box) .none kV15 dc15 pm15 an15 cd15 ct15), sl15⟩)
    (c15 : PySem.W.codeIn K cd15 "_law_box" = true)
    (k15 : PySem.W.keepIn K (.ref f15) = true)
    (a16 : PySem.W.nsIn K mainGlobals "_law_take" = some (some (.ref f16)))
    (l16 : K.lookup f16 = some ⟨oc16, od16, .func (PySem.W.fnOf "_law_take" "_law_take" (defArgs s__law_take) (defBody s__law_take) (defScope s__law_take) .none kV16 dc16 pm16 an16 cd16 ct16), sl16⟩)
    (c16 : PySem.W.codeIn K cd16 "_law_take" = true)
    (k16 : PySem.W.keepIn K (.ref f16) = true)
    (a17 : PySem.W.nsIn K mainGlobals "_law_sizes" = some (some (.ref f17)))
    (l17 : K.lookup f17 = some ⟨oc17, od17, .func (PySem.W.fnOf "_law_sizes" "_law_sizes" (defArgs s__law_sizes) (defBody s__law_sizes) (defScope s__law_sizes) .none kV17 dc17 pm17 an17 cd17 ct17), sl17⟩)
    (c17 : PySem.W.codeIn K cd17 "_law_sizes" = true)
    (k17 : PySem.W.keepIn K (.ref f17) = true)
    (a18 : PySem.W.nsIn K mainGlobals "_law_pair" = some (some (.ref f18)))
    (l18 : K.lookup f18 = some ⟨oc18, od18, .func (PySem.W.fnOf "_law_pair" "_law_pair" (defArgs s__law_pair) (defBody s__law_pair) (defScope s__law_pair) .none kV18 dc18 pm18 an18 cd18 ct18), sl18⟩)
    (c18 : PySem.W.codeIn K cd18 "_law_pair" = true)
    (k18 : PySem.W.keepIn K (.ref f18) = true)
    (a19 : PySem.W.nsIn K mainGlobals "_law_filling" = some (some (.ref f19)))
    (l19 : K.lookup f19 = some ⟨oc19, od19, .func (PySem.W.fnOf "_law_filling" "_law_filling" (defArgs s__law_filling) (defBody s__law_filling) (defScope s__law_filling) .none kV19 dc19 pm19 an19 cd19 ct19), sl19⟩)
    (c19 : PySem.W.codeIn K cd19 "_law_filling" = true)
    (k19 : PySem.W.keepIn K (.ref f19) = true)
    (a20 : PySem.W.nsIn K mainGlobals "_law_number" = some (some (.ref f20)))
    (l20 : K.lookup f20 = some ⟨oc20, od20, .func (PySem.W.fnOf "_law_number" "_law_number" (defArgs s__law_number) (defBody s__law_number) (defScope s__law_number) .none kV20 dc20 pm20 an20 cd20 ct20), sl20⟩)
    (c20 : PySem.W.codeIn K cd20 "_law_number" = true)
    (k20 : PySem.W.keepIn K (.ref f20) = true)
    (a21 : PySem.W.nsIn K mainGlobals "_law_whole" = some (some (.ref f21)))
    (l21 : K.lookup f21 = some ⟨oc21, od21, .func (PySem.W.fnOf "_law_whole" "_law_whole" (defArgs s__law_whole) (defBody s__law_whole) (defScope s__law_whole) .none kV21 dc21 pm21 an21 cd21 ct21), sl21⟩)
    (c21 : PySem.W.codeIn K cd21 "_law_whole" = true)
    (k21 : PySem.W.keepIn K (.ref f21) = true)
    (a22 : PySem.W.nsIn K mainGlobals "_law_wrong" = some (some (.ref f22)))
    (l22 : K.lookup f22 = some ⟨oc22, od22, .func (PySem.W.fnOf "_law_wrong" "_law_wrong" (defArgs s__law_wrong) (defBody s__law_wrong) (defScope s__law_wrong) .none kV22 dc22 pm22 an22 cd22 ct22), sl22⟩)
    (c22 : PySem.W.codeIn K cd22 "_law_wrong" = true)
    (k22 : PySem.W.keepIn K (.ref f22) = true)
    (a23 : PySem.W.nsIn K mainGlobals "_law_refusal" = some (some (.ref f23)))
    (l23 : K.lookup f23 = some ⟨oc23, od23, .func (PySem.W.fnOf "_law_refusal" "_law_refusal" (defArgs s__law_refusal) (defBody s__law_refusal) (defScope s__law_refusal) .none kV23 dc23 pm23 an23 cd23 ct23), sl23⟩)
    (c23 : PySem.W.codeIn K cd23 "_law_refusal" = true)
    (k23 : PySem.W.keepIn K (.ref f23) = true)
    (a24 : PySem.W.nsIn K mainGlobals "_law_error" = some (some (.ref f24)))
    (l24 : K.lookup f24 = some ⟨oc24, od24, .func (PySem.W.fnOf "_law_error" "_law_error" (defArgs s__law_error) (defBody s__law_error) (defScope s__law_error) .none kV24 dc24 pm24 an24 cd24 ct24), sl24⟩)
    (c24 : PySem.W.codeIn K cd24 "_law_error" = true)
    (k24 : PySem.W.keepIn K (.ref f24) = true)
    (a25 : PySem.W.nsIn K mainGlobals "_law_made" = some (some (.ref f25)))
    (l25 : K.lookup f25 = some ⟨oc25, od25, .func (PySem.W.fnOf "_law_made" "_law_made" (defArgs s__law_made) (defBody s__law_made) (defScope s__law_made) .none kV25 dc25 pm25 an25 cd25 ct25), sl25⟩)
    (c25 : PySem.W.codeIn K cd25 "_law_made" = true)
    (k25 : PySem.W.keepIn K (.ref f25) = true)
    (a26 : PySem.W.nsIn K mainGlobals "_law_same" = some (some (.ref f26)))
    (l26 : K.lookup f26 = some ⟨oc26, od26, .func (PySem.W.fnOf "_law_same" "_law_same" (defArgs s__law_same) (defBody s__law_same) (defScope s__law_same) .none kV26 dc26 pm26 an26 cd26 ct26), sl26⟩)
    (c26 : PySem.W.codeIn K cd26 "_law_same" = true)
    (k26 : PySem.W.keepIn K (.ref f26) = true)
    (a27 : PySem.W.nsIn K mainGlobals "_law_odd" = some (some (.ref f27)))
    (l27 : K.lookup f27 = some ⟨oc27, od27, .func (PySem.W.fnOf "_law_odd" "_law_odd" (defArgs s__law_odd) (defBody s__law_odd) (defScope s__law_odd) .none kV27 dc27 pm27 an27 cd27 ct27), sl27⟩)
    (c27 : PySem.W.codeIn K cd27 "_law_odd" = true)
    (k27 : PySem.W.keepIn K (.ref f27) = true)
    (a28 : PySem.W.nsIn K mainGlobals "_law_makings_right" = some (some (.ref f28)))
    (l28 : K.lookup f28 = some ⟨oc28, od28, .func (PySem.W.fnOf "_law_makings_right" "_law_makings_right" (defArgs s__law_makings_right) (defBody s__law_makings_right) (defScope s__law_makings_right) .none kV28 dc28 pm28 an28 cd28 ct28), sl28⟩)
    (c28 : PySem.W.codeIn K cd28 "_law_makings_right" = true)
    (k28 : PySem.W.keepIn K (.ref f28) = true)
    (a29 : PySem.W.nsIn K mainGlobals "_law_bounds_right" = some (some (.ref f29)))
    (l29 : K.lookup f29 = some ⟨oc29, od29, .func (PySem.W.fnOf "_law_bounds_right" "_law_bounds_right" (defArgs s__law_bounds_right) (defBody s__law_bounds_right) (defScope s__law_bounds_right) .none kV29 dc29 pm29 an29 cd29 ct29), sl29⟩)
    (c29 : PySem.W.codeIn K cd29 "_law_bounds_right" = true)
    (k29 : PySem.W.keepIn K (.ref f29) = true)
    (a30 : PySem.W.nsIn K mainGlobals "_law_numbers_right" = some (some (.ref f30)))
    (l30 : K.lookup f30 = some ⟨oc30, od30, .func (PySem.W.fnOf "_law_numbers_right" "_law_numbers_right" (defArgs s__law_numbers_right) (defBody s__law_numbers_right) (defScope s__law_numbers_right) .none kV30 dc30 pm30 an30 cd30 ct30), sl30⟩)
    (c30 : PySem.W.codeIn K cd30 "_law_numbers_right" = true)
    (k30 : PySem.W.keepIn K (.ref f30) = true)
    (a31 : PySem.W.nsIn K mainGlobals "_law_refusals_right" = some (some (.ref f31)))
    (l31 : K.lookup f31 = some ⟨oc31, od31, .func (PySem.W.fnOf "_law_refusals_right" "_law_refusals_right" (defArgs s__law_refusals_right) (defBody s__law_refusals_right) (defScope s__law_refusals_right) .none kV31 dc31 pm31 an31 cd31 ct31), sl31⟩)
    (c31 : PySem.W.codeIn K cd31 "_law_refusals_right" = true)
    (k31 : PySem.W.keepIn K (.ref f31) = true)
    (a32 : PySem.W.nsIn K mainGlobals "_law_right" = some (some (.ref f32)))
    (l32 : K.lookup f32 = some ⟨oc32, od32, .func (PySem.W.fnOf "_law_right" "_law_right" (defArgs s__law_right) (defBody s__law_right) (defScope s__law_right) .none kV32 dc32 pm32 an32 cd32 ct32), sl32⟩)
    (c32 : PySem.W.codeIn K cd32 "_law_right" = true)
    (k32 : PySem.W.keepIn K (.ref f32) = true)
    (a33 : PySem.W.nsIn K mainGlobals "law" = some (some (.ref f33)))
    (l33 : K.lookup f33 = some ⟨oc33, od33, .func (PySem.W.fnOf "law" "law" (defArgs s_law) (defBody s_law) (defScope s_law) .none kV33 dc33 pm33 an33 cd33 ct33), sl33⟩)
    (c33 : PySem.W.codeIn K cd33 "law" = true)
    (k33 : PySem.W.keepIn K (.ref f33) = true)
    (z0 : PySem.W.nsIn K mainGlobals "abs" = some none)
    (z1 : PySem.W.nsIn K mainGlobals "all" = some none)
    (z2 : PySem.W.nsIn K mainGlobals "bool" = some none)
    (z3 : PySem.W.nsIn K mainGlobals "dict" = some none)
    (z4 : PySem.W.nsIn K mainGlobals "int" = some none)
    (z5 : PySem.W.nsIn K mainGlobals "isinstance" = some none)
    (z6 : PySem.W.nsIn K mainGlobals "len" = some none)
    (z7 : PySem.W.nsIn K mainGlobals "list" = some none)
    (z8 : PySem.W.nsIn K mainGlobals "max" = some none)
    (z9 : PySem.W.nsIn K mainGlobals "min" = some none)
    (z10 : PySem.W.nsIn K mainGlobals "range" = some none)
    (z11 : PySem.W.nsIn K mainGlobals "repr" = some none)
    (z12 : PySem.W.nsIn K mainGlobals "sum" = some none)
    (z13 : PySem.W.nsIn K mainGlobals "tuple" = some none)
    (gc0 : PySem.W.nsIn K mainGlobals "MOST_BLOCKS" = some (some (.int 24 t0)))
    (gc1 : PySem.W.nsIn K mainGlobals "MOST_CONTENTS" = some (some (.int 64 t1)))
    (A0 : PySem.W.nsIn K mainGlobals "InvalidBlocks" = some (some (.ref C0)))
    (X0 : K.lookup C0 = some (excClassObj nm0 q0 C0 N0 bs0 bm0 true sn0 sb0 ab0 co0 dd0 m00 m10 m20 m30 m50 "ValueError.__new__"))
    (v0 : PySem.HandSPX.refsVE bm0 = true)
    (sa0 : PySem.W.findIn K (.ref C0) "__setattr__" = some (some (.builtin "object.__setattr__")))
    (e0 : PySem.W.subIn K (.ref C0) (.type "BaseException") = some true)
    (T0 : PySem.W.typeIn K (.ref C0) = some (.type "type"))
    (I0 : PySem.W.isClsIn K C0 = true)
    (K0 : PySem.W.keepIn K (.ref C0) = true)
    (n0 : PySem.W.findIn K (.ref C0) "__init__" = some (some (.ref u0)))
    (y0 : PySem.W.typeIn K (.ref u0) = some (.type "function"))
    (le0 : K.lookup u0 = some ⟨oce0, ode0, .func (PySem.W.fnOf "__init__" "InvalidBlocks.__init__" (defArgs s_InvalidBlocks) (defBody s_InvalidBlocks) (defScope s_InvalidBlocks) .none kVe0 dce0 pme0 ane0 cde0 cte0), sle0⟩)
    (ce0 : PySem.W.codeIn K cde0 "InvalidBlocks.__init__" = true)
    (ke0 : PySem.W.keepIn K (.ref u0) = true)
    (ga0 : PySem.W.findIn K (.ref C0) "__getattribute__" = some (some (.builtin "BaseException.__getattribute__")))
    (gg0 : PySem.W.findIn K (.ref C0) "__getattr__" = some none)
    (hd0 : PySem.W.hasDictIn K C0 = true)
    (at0 : PySem.W.findIn K (.ref C0) "given" = some none)
    (ha0 : PySem.W.findIn K (.ref C0) "__class__" = some (some (.builtin "object.__class__")))
    (hm0 : PySem.W.mroIn K C0 (.type "object") = some true)
    (su0_int : PySem.W.subIn K (.ref C0) (.type "int") = some false)
    (su0_bool : PySem.W.subIn K (.ref C0) (.type "bool") = some false)
    (su0_str : PySem.W.subIn K (.ref C0) (.type "str") = some false)
    (su0_list : PySem.W.subIn K (.ref C0) (.type "list") = some false)
    (su0_tuple : PySem.W.subIn K (.ref C0) (.type "tuple") = some false)
    (su0_dict : PySem.W.subIn K (.ref C0) (.type "dict") = some false)
    (A1 : PySem.W.nsIn K mainGlobals "InvalidContents" = some (some (.ref C1)))
    (X1 : K.lookup C1 = some (excClassObj nm1 q1 C1 N1 bs1 bm1 true sn1 sb1 ab1 co1 dd1 m01 m11 m21 m31 m51 "ValueError.__new__"))
    (v1 : PySem.HandSPX.refsVE bm1 = true)
    (sa1 : PySem.W.findIn K (.ref C1) "__setattr__" = some (some (.builtin "object.__setattr__")))
    (e1 : PySem.W.subIn K (.ref C1) (.type "BaseException") = some true)
    (T1 : PySem.W.typeIn K (.ref C1) = some (.type "type"))
    (I1 : PySem.W.isClsIn K C1 = true)
    (K1 : PySem.W.keepIn K (.ref C1) = true)
    (n1 : PySem.W.findIn K (.ref C1) "__init__" = some (some (.ref u1)))
    (y1 : PySem.W.typeIn K (.ref u1) = some (.type "function"))
    (le1 : K.lookup u1 = some ⟨oce1, ode1, .func (PySem.W.fnOf "__init__" "InvalidContents.__init__" (defArgs s_InvalidContents) (defBody s_InvalidContents) (defScope s_InvalidContents) .none kVe1 dce1 pme1 ane1 cde1 cte1), sle1⟩)
    (ce1 : PySem.W.codeIn K cde1 "InvalidContents.__init__" = true)
    (ke1 : PySem.W.keepIn K (.ref u1) = true)
    (ga1 : PySem.W.findIn K (.ref C1) "__getattribute__" = some (some (.builtin "BaseException.__getattribute__")))
    (gg1 : PySem.W.findIn K (.ref C1) "__getattr__" = some none)
    (hd1 : PySem.W.hasDictIn K C1 = true)
    (at1 : PySem.W.findIn K (.ref C1) "given" = some none)
    (ha1 : PySem.W.findIn K (.ref C1) "__class__" = some (some (.builtin "object.__class__")))
    (hm1 : PySem.W.mroIn K C1 (.type "object") = some true)
    (su1_int : PySem.W.subIn K (.ref C1) (.type "int") = some false)
    (su1_bool : PySem.W.subIn K (.ref C1) (.type "bool") = some false)
    (su1_str : PySem.W.subIn K (.ref C1) (.type "str") = some false)
    (su1_list : PySem.W.subIn K (.ref C1) (.type "list") = some false)
    (su1_tuple : PySem.W.subIn K (.ref C1) (.type "tuple") = some false)
    (su1_dict : PySem.W.subIn K (.ref C1) (.type "dict") = some false)
    (A2 : PySem.W.nsIn K mainGlobals "InvalidFilling" = some (some (.ref C2)))
    (X2 : K.lookup C2 = some (excClassObj nm2 q2 C2 N2 bs2 bm2 true sn2 sb2 ab2 co2 dd2 m02 m12 m22 m32 m52 "ValueError.__new__"))
    (v2 : PySem.HandSPX.refsVE bm2 = true)
    (sa2 : PySem.W.findIn K (.ref C2) "__setattr__" = some (some (.builtin "object.__setattr__")))
    (e2 : PySem.W.subIn K (.ref C2) (.type "BaseException") = some true)
    (T2 : PySem.W.typeIn K (.ref C2) = some (.type "type"))
    (I2 : PySem.W.isClsIn K C2 = true)
    (K2 : PySem.W.keepIn K (.ref C2) = true)
    (n2 : PySem.W.findIn K (.ref C2) "__init__" = some (some (.ref u2)))
    (y2 : PySem.W.typeIn K (.ref u2) = some (.type "function"))
    (le2 : K.lookup u2 = some ⟨oce2, ode2, .func (PySem.W.fnOf "__init__" "InvalidFilling.__init__" (defArgs s_InvalidFilling) (defBody s_InvalidFilling) (defScope s_InvalidFilling) .none kVe2 dce2 pme2 ane2 cde2 cte2), sle2⟩)
    (ce2 : PySem.W.codeIn K cde2 "InvalidFilling.__init__" = true)
    (ke2 : PySem.W.keepIn K (.ref u2) = true)
    (ga2 : PySem.W.findIn K (.ref C2) "__getattribute__" = some (some (.builtin "BaseException.__getattribute__")))
    (gg2 : PySem.W.findIn K (.ref C2) "__getattr__" = some none)
    (hd2 : PySem.W.hasDictIn K C2 = true)
    (at2 : PySem.W.findIn K (.ref C2) "given" = some none)
    (ha2 : PySem.W.findIn K (.ref C2) "__class__" = some (some (.builtin "object.__class__")))
    (hm2 : PySem.W.mroIn K C2 (.type "object") = some true)
    (su2_int : PySem.W.subIn K (.ref C2) (.type "int") = some false)
    (su2_bool : PySem.W.subIn K (.ref C2) (.type "bool") = some false)
    (su2_str : PySem.W.subIn K (.ref C2) (.type "str") = some false)
    (su2_list : PySem.W.subIn K (.ref C2) (.type "list") = some false)
    (su2_tuple : PySem.W.subIn K (.ref C2) (.type "tuple") = some false)
    (su2_dict : PySem.W.subIn K (.ref C2) (.type "dict") = some false)
    (A3 : PySem.W.nsIn K mainGlobals "InvalidNumber" = some (some (.ref C3)))
    (X3 : K.lookup C3 = some (excClassObj nm3 q3 C3 N3 bs3 bm3 true sn3 sb3 ab3 co3 dd3 m03 m13 m23 m33 m53 "ValueError.__new__"))
    (v3 : PySem.HandSPX.refsVE bm3 = true)
    (sa3 : PySem.W.findIn K (.ref C3) "__setattr__" = some (some (.builtin "object.__setattr__")))
    (e3 : PySem.W.subIn K (.ref C3) (.type "BaseException") = some true)
    (T3 : PySem.W.typeIn K (.ref C3) = some (.type "type"))
    (I3 : PySem.W.isClsIn K C3 = true)
    (K3 : PySem.W.keepIn K (.ref C3) = true)
    (n3 : PySem.W.findIn K (.ref C3) "__init__" = some (some (.ref u3)))
    (y3 : PySem.W.typeIn K (.ref u3) = some (.type "function"))
    (le3 : K.lookup u3 = some ⟨oce3, ode3, .func (PySem.W.fnOf "__init__" "InvalidNumber.__init__" (defArgs s_InvalidNumber) (defBody s_InvalidNumber) (defScope s_InvalidNumber) .none kVe3 dce3 pme3 ane3 cde3 cte3), sle3⟩)
    (ce3 : PySem.W.codeIn K cde3 "InvalidNumber.__init__" = true)
    (ke3 : PySem.W.keepIn K (.ref u3) = true)
    (ga3 : PySem.W.findIn K (.ref C3) "__getattribute__" = some (some (.builtin "BaseException.__getattribute__")))
    (gg3 : PySem.W.findIn K (.ref C3) "__getattr__" = some none)
    (hd3 : PySem.W.hasDictIn K C3 = true)
    (at3 : PySem.W.findIn K (.ref C3) "given" = some none)
    (ha3 : PySem.W.findIn K (.ref C3) "__class__" = some (some (.builtin "object.__class__")))
    (hm3 : PySem.W.mroIn K C3 (.type "object") = some true)
    (su3_int : PySem.W.subIn K (.ref C3) (.type "int") = some false)
    (su3_bool : PySem.W.subIn K (.ref C3) (.type "bool") = some false)
    (su3_str : PySem.W.subIn K (.ref C3) (.type "str") = some false)
    (su3_list : PySem.W.subIn K (.ref C3) (.type "list") = some false)
    (su3_tuple : PySem.W.subIn K (.ref C3) (.type "tuple") = some false)
    (su3_dict : PySem.W.subIn K (.ref C3) (.type "dict") = some false)
    (hn : PySem.W.specialIn K (.builtin "object.__class__") "__get__" = some (some (.builtin "getset_descriptor.__get__")))
    (ht : PySem.W.takesIn K (.builtin "object.__class__") = some true)
    (h00 : PySem.W.hasDictIn K 0 = false)
    (pg4 : PySem.W.plainGet K C4 Str.empty = true)
    (hd4 : PySem.W.hasDictIn K C4 = true)
    (po4 : PySem.W.plainOver K C4 = true)
    (sa4 : PySem.W.findIn K (.ref C4) "__setattr__" = some (some (.builtin "object.__setattr__")))
    (ha4 : PySem.W.findIn K (.ref C4) "__class__" = some (some (.builtin "object.__class__")))
    (hm4 : PySem.W.mroIn K C4 (.type "object") = some true)
    (mk4 : PySem.W.makesIn K C4 = true)
    (K4 : PySem.W.keepIn K (.ref C4) = true)
    (I4 : PySem.W.isClsIn K C4 = true)
    (T4 : PySem.W.typeIn K (.ref C4) = some (.type "type"))
    (su4_int : PySem.W.subIn K (.ref C4) (.type "int") = some false)
    (su4_bool : PySem.W.subIn K (.ref C4) (.type "bool") = some false)
    (su4_str : PySem.W.subIn K (.ref C4) (.type "str") = some false)
    (su4_list : PySem.W.subIn K (.ref C4) (.type "list") = some false)
    (su4_tuple : PySem.W.subIn K (.ref C4) (.type "tuple") = some false)
    (su4_dict : PySem.W.subIn K (.ref C4) (.type "dict") = some false)
    (sv4_int : PySem.W.subIn K (.type "int") (.ref C4) = some false)
    (sv4_bool : PySem.W.subIn K (.type "bool") (.ref C4) = some false)
    (sv4_str : PySem.W.subIn K (.type "str") (.ref C4) = some false)
    (sv4_list : PySem.W.subIn K (.type "list") (.ref C4) = some false)
    (sv4_tuple : PySem.W.subIn K (.type "tuple") (.ref C4) = some false)
    (sv4_dict : PySem.W.subIn K (.type "dict") (.ref C4) = some false)
    (sv4_NoneType : PySem.W.subIn K (.type "NoneType") (.ref C4) = some false)
    (s0_4 : PySem.W.subIn K (.ref C0) (.ref C4) = some false)
    (s1_4 : PySem.W.subIn K (.ref C1) (.ref C4) = some false)
    (s2_4 : PySem.W.subIn K (.ref C2) (.ref C4) = some false)
    (s3_4 : PySem.W.subIn K (.ref C3) (.ref C4) = some false)
    (s4_4 : PySem.W.subIn K (.ref C4) (.ref C4) = some true)
    (nf4_int : PySem.W.notFirst K C4 (.type "int") = true)
    (nf4_bool : PySem.W.notFirst K C4 (.type "bool") = true)
    (nf4_str : PySem.W.notFirst K C4 (.type "str") = true)
    (nf4_list : PySem.W.notFirst K C4 (.type "list") = true)
    (nf4_tuple : PySem.W.notFirst K C4 (.type "tuple") = true)
    (nf4_dict : PySem.W.notFirst K C4 (.type "dict") = true)
    (nf4_NoneType : PySem.W.notFirst K C4 (.type "NoneType") = true)
    (ng4_0 : PySem.W.notFirst K C4 (.ref C0) = true)
    (ng4_1 : PySem.W.notFirst K C4 (.ref C1) = true)
    (ng4_2 : PySem.W.notFirst K C4 (.ref C2) = true)
    (ng4_3 : PySem.W.notFirst K C4 (.ref C3) = true)
    (ng4_4 : PySem.W.notFirst K C4 (.ref C4) = true)
    (ne4 : PySem.W.findIn K (.ref C4) "__ne__" = some (some (.builtin "object.__ne__")))
    (so4 : PySem.W.subIn K (.ref C4) (.type "object") = some true)
    (na4_blocks : PySem.W.findIn K (.ref C4) "blocks" = some none)
    (na4_contents : PySem.W.findIn K (.ref C4) "contents" = some none)
    (s0_0 : PySem.W.subIn K (.ref C0) (.ref C0) = some true)
    (s0_1 : PySem.W.subIn K (.ref C0) (.ref C1) = some false)
    (s0_2 : PySem.W.subIn K (.ref C0) (.ref C2) = some false)
    (s0_3 : PySem.W.subIn K (.ref C0) (.ref C3) = some false)
    (s1_0 : PySem.W.subIn K (.ref C1) (.ref C0) = some false)
    (s1_1 : PySem.W.subIn K (.ref C1) (.ref C1) = some true)
    (s1_2 : PySem.W.subIn K (.ref C1) (.ref C2) = some false)
    (s1_3 : PySem.W.subIn K (.ref C1) (.ref C3) = some false)
    (s2_0 : PySem.W.subIn K (.ref C2) (.ref C0) = some false)
    (s2_1 : PySem.W.subIn K (.ref C2) (.ref C1) = some false)
    (s2_2 : PySem.W.subIn K (.ref C2) (.ref C2) = some true)
    (s2_3 : PySem.W.subIn K (.ref C2) (.ref C3) = some false)
    (s3_0 : PySem.W.subIn K (.ref C3) (.ref C0) = some false)
    (s3_1 : PySem.W.subIn K (.ref C3) (.ref C1) = some false)
    (s3_2 : PySem.W.subIn K (.ref C3) (.ref C2) = some false)
    (s3_3 : PySem.W.subIn K (.ref C3) (.ref C3) = some true)
    : ∃ (fd : FuncData) (Ga : Nat → Addr), (∀ (s : Shared) (v : Value), BindsTo s fd ⟨[v], []⟩ [("script", v)]) ∧ ∀ base : Heap, K.In base → base.Ns mainGlobals mg → FnM PySem.Challenge.pw_leastspare_k01_disks_fillings_numbers w K mg base Ga 10 fa fd ["script"] m_law := by
  have e := hfa.symm.trans (PySem.W.mg_of X G a33)
  cases e
  have F0 := fun_mk (st := s_is_whole) l0 c0 k0
  have b0 := F0.binds (ps := ["value"]) fun _ _ _ _ _ _ us hl => match us, hl with | [_], _ => rfl
  have F1 := fun_mk (st := s_is_between) l1 c1 k1
  have b1 := F1.binds (ps := ["value", "least", "most"]) fun _ _ _ _ _ _ us hl => match us, hl with | [_, _, _], _ => rfl
  have F2 := fun_mk (st := s_is_tuple_of) l2 c2 k2
  have b2 := F2.binds (ps := ["value", "many"]) fun _ _ _ _ _ _ us hl => match us, hl with | [_, _], _ => rfl
  have F3 := fun_mk (st := s_is_contents) l3 c3 k3
  have b3 := F3.binds (ps := ["value", "many", "contents"]) fun _ _ _ _ _ _ us hl => match us, hl with | [_, _, _], _ => rfl
  have F4 := fun_mk (st := s_Disk___init__) l4 c4 k4
  have b4 := F4.binds (ps := ["self", "blocks", "contents"]) fun _ _ _ _ _ _ us hl => match us, hl with | [_, _, _], _ => rfl
  have F5 := fun_mk (st := s_Disk___eq__) l5 c5 k5
  have b5 := F5.binds (ps := ["self", "other"]) fun _ _ _ _ _ _ us hl => match us, hl with | [_, _], _ => rfl
  have F6 := fun_mk (st := s_power) l6 c6 k6
  have b6 := F6.binds (ps := ["base", "many"]) fun _ _ _ _ _ _ us hl => match us, hl with | [_, _], _ => rfl
  have F7 := fun_mk (st := s_number_from) l7 c7 k7
  have b7 := F7.binds (ps := ["row", "base"]) fun _ _ _ _ _ _ us hl => match us, hl with | [_, _], _ => rfl
  have F8 := fun_mk (st := s_figures) l8 c8 k8
  have b8 := F8.binds (ps := ["number", "base", "many"]) fun _ _ _ _ _ _ us hl => match us, hl with | [_, _, _], _ => rfl
  have F9 := fun_mk (st := s_count) l9 c9 k9
  have b9 := F9.binds (ps := ["disk"]) fun _ _ _ _ _ _ us hl => match us, hl with | [_], _ => rfl
  have F10 := fun_mk (st := s_is_filling) l10 c10 k10
  have b10 := F10.binds (ps := ["disk", "value"]) fun _ _ _ _ _ _ us hl => match us, hl with | [_, _], _ => rfl
  have F11 := fun_mk (st := s_check_filling) l11 c11 k11
  have b11 := F11.binds (ps := ["disk", "filling"]) fun _ _ _ _ _ _ us hl => match us, hl with | [_, _], _ => rfl
  have F12 := fun_mk (st := s_number_of) l12 c12 k12
  have b12 := F12.binds (ps := ["disk", "filling"]) fun _ _ _ _ _ _ us hl => match us, hl with | [_, _], _ => rfl
  have F13 := fun_mk (st := s_filling_at) l13 c13 k13
  have b13 := F13.binds (ps := ["disk", "number"]) fun _ _ _ _ _ _ us hl => match us, hl with | [_, _], _ => rfl
  have F14 := fun_mk (st := s__law_cell) l14 c14 k14
  have b14 := F14.binds (ps := ["script", "k"]) fun _ _ _ _ _ _ us hl => match us, hl with | [_, _], _ => rfl
  have F15 := fun_mk (st := s__law_box) l15 c15 k15
  have b15 := F15.binds (ps := ["great"]) fun _ _ _ _ _ _ us hl => match us, hl with | [_], _ => rfl
  have F16 := fun_mk (st := s__law_take) l16 c16 k16
  have b16 := F16.binds (ps := ["box", "many"]) fun _ _ _ _ _ _ us hl => match us, hl with | [_, _], _ => rfl
  have F17 := fun_mk (st := s__law_sizes) l17 c17 k17
  have b17 := F17.binds (ps := ["box"]) fun _ _ _ _ _ _ us hl => match us, hl with | [_], _ => rfl
  have F18 := fun_mk (st := s__law_pair) l18 c18 k18
  have b18 := F18.binds (ps := ["box"]) fun _ _ _ _ _ _ us hl => match us, hl with | [_], _ => rfl
  have F19 := fun_mk (st := s__law_filling) l19 c19 k19
  have b19 := F19.binds (ps := ["box", "blocks", "contents"]) fun _ _ _ _ _ _ us hl => match us, hl with | [_, _, _], _ => rfl
  have F20 := fun_mk (st := s__law_number) l20 c20 k20
  have b20 := F20.binds (ps := ["filling", "contents"]) fun _ _ _ _ _ _ us hl => match us, hl with | [_, _], _ => rfl
  have F21 := fun_mk (st := s__law_whole) l21 c21 k21
  have b21 := F21.binds (ps := ["told"]) fun _ _ _ _ _ _ us hl => match us, hl with | [_], _ => rfl
  have F22 := fun_mk (st := s__law_wrong) l22 c22 k22
  have b22 := F22.binds (ps := ["way", "at", "filling", "contents", "more"]) fun _ _ _ _ _ _ us hl => match us, hl with | [_, _, _, _, _], _ => rfl
  have F23 := fun_mk (st := s__law_refusal) l23 c23 k23
  have b23 := F23.binds (ps := ["kind", "disk", "value"]) fun _ _ _ _ _ _ us hl => match us, hl with | [_, _, _], _ => rfl
  have F24 := fun_mk (st := s__law_error) l24 c24 k24
  have b24 := F24.binds (ps := ["disk", "value"]) fun _ _ _ _ _ _ us hl => match us, hl with | [_, _], _ => rfl
  have F25 := fun_mk (st := s__law_made) l25 c25 k25
  have b25 := F25.binds (ps := ["way", "blocks", "contents"]) fun _ _ _ _ _ _ us hl => match us, hl with | [_, _, _], _ => rfl
  have F26 := fun_mk (st := s__law_same) l26 c26 k26
  have b26 := F26.binds (ps := ["told", "word", "passed"]) fun _ _ _ _ _ _ us hl => match us, hl with | [_, _, _], _ => rfl
  have F27 := fun_mk (st := s__law_odd) l27 c27 k27
  have b27 := F27.binds (ps := ["which", "way", "more"]) fun _ _ _ _ _ _ us hl => match us, hl with | [_, _, _], _ => rfl
  have F28 := fun_mk (st := s__law_makings_right) l28 c28 k28
  have b28 := F28.binds (ps := ["box", "sizes"]) fun _ _ _ _ _ _ us hl => match us, hl with | [_, _], _ => rfl
  have F29 := fun_mk (st := s__law_bounds_right) l29 c29 k29
  have b29 := F29.binds (ps := []) fun _ _ _ _ _ _ us hl => match us, hl with | [], _ => rfl
  have F30 := fun_mk (st := s__law_numbers_right) l30 c30 k30
  have b30 := F30.binds (ps := ["box", "disk", "sizes", "fillings"]) fun _ _ _ _ _ _ us hl => match us, hl with | [_, _, _, _], _ => rfl
  have F31 := fun_mk (st := s__law_refusals_right) l31 c31 k31
  have b31 := F31.binds (ps := ["box", "disk", "sizes", "filling"]) fun _ _ _ _ _ _ us hl => match us, hl with | [_, _, _, _], _ => rfl
  have F32 := fun_mk (st := s__law_right) l32 c32 k32
  have b32 := F32.binds (ps := ["box"]) fun _ _ _ _ _ _ us hl => match us, hl with | [_], _ => rfl
  have F33 := fun_mk (st := s_law) l33 c33 k33
  have b33 := F33.binds (ps := ["script"]) fun _ _ _ _ _ _ us hl => match us, hl with | [_], _ => rfl
  have o0 : OexC K C0 := ⟨⟨_, _, _, _, _, _, _, _, _, _, _, _, _, _, _, X0, v0⟩, sa0, e0, T0, K0⟩
  have G0 := fun_mk (st := s_InvalidBlocks) le0 ce0 ke0
  have B0 := G0.binds (ps := ["self", "given"]) fun _ _ _ _ _ _ us hl => match us, hl with | [_, _], _ => rfl
  have o1 : OexC K C1 := ⟨⟨_, _, _, _, _, _, _, _, _, _, _, _, _, _, _, X1, v1⟩, sa1, e1, T1, K1⟩
  have G1 := fun_mk (st := s_InvalidContents) le1 ce1 ke1
  have B1 := G1.binds (ps := ["self", "given"]) fun _ _ _ _ _ _ us hl => match us, hl with | [_, _], _ => rfl
  have o2 : OexC K C2 := ⟨⟨_, _, _, _, _, _, _, _, _, _, _, _, _, _, _, X2, v2⟩, sa2, e2, T2, K2⟩
  have G2 := fun_mk (st := s_InvalidFilling) le2 ce2 ke2
  have B2 := G2.binds (ps := ["self", "given"]) fun _ _ _ _ _ _ us hl => match us, hl with | [_, _], _ => rfl
  have o3 : OexC K C3 := ⟨⟨_, _, _, _, _, _, _, _, _, _, _, _, _, _, _, X3, v3⟩, sa3, e3, T3, K3⟩
  have G3 := fun_mk (st := s_InvalidNumber) le3 ce3 ke3
  have B3 := G3.binds (ps := ["self", "given"]) fun _ _ _ _ _ _ us hl => match us, hl with | [_, _], _ => rfl
  refine ⟨PySem.W.fnOf "law" "law" (defArgs s_law) (defBody s_law) (defScope s_law) .none kV33 dc33 pm33 an33 cd33 ct33, fun i => [C0, C1, C2, C3, C4].getD i 0, fun s v => .of_eq rfl, fun base hK hN => ?_⟩
  have T : Txt PySem.Challenge.pw_leastspare_k01_disks_fillings_numbers w K mg base (fun i => [C0, C1, C2, C3, C4].getD i 0) :=
    { b_abs := PySem.W.mg_none_of X G z0,
      b_all := PySem.W.mg_none_of X G z1,
      b_bool := PySem.W.mg_none_of X G z2,
      b_dict := PySem.W.mg_none_of X G z3,
      b_int := PySem.W.mg_none_of X G z4,
      b_isinstance := PySem.W.mg_none_of X G z5,
      b_len := PySem.W.mg_none_of X G z6,
      b_list := PySem.W.mg_none_of X G z7,
      b_max := PySem.W.mg_none_of X G z8,
      b_min := PySem.W.mg_none_of X G z9,
      b_range := PySem.W.mg_none_of X G z10,
      b_repr := PySem.W.mg_none_of X G z11,
      b_sum := PySem.W.mg_none_of X G z12,
      b_tuple := PySem.W.mg_none_of X G z13,
      k_MOST_BLOCKS := ⟨_, PySem.W.mg_of X G gc0⟩,
      k_MOST_CONTENTS := ⟨_, PySem.W.mg_of X G gc1⟩,
      f_is_whole := ⟨_, _, PySem.W.mg_of X G a0, F0, b0⟩,
      f_is_between := ⟨_, _, PySem.W.mg_of X G a1, F1, b1⟩,
      f_is_tuple_of := ⟨_, _, PySem.W.mg_of X G a2, F2, b2⟩,
      f_is_contents := ⟨_, _, PySem.W.mg_of X G a3, F3, b3⟩,
      f_Disk___init__ := ⟨_, _, a4, beq_iff_eq.mpr (beq_iff_eq.mp w4), F4, b4⟩,
      f_Disk___eq__ := ⟨_, _, a5, beq_iff_eq.mpr (beq_iff_eq.mp w5), F5, b5⟩,
      f_power := ⟨_, _, PySem.W.mg_of X G a6, F6, b6⟩,
      f_number_from := ⟨_, _, PySem.W.mg_of X G a7, F7, b7⟩,
      f_figures := ⟨_, _, PySem.W.mg_of X G a8, F8, b8⟩,
      f_count := ⟨_, _, PySem.W.mg_of X G a9, F9, b9⟩,
      f_is_filling := ⟨_, _, PySem.W.mg_of X G a10, F10, b10⟩,
      f_check_filling := ⟨_, _, PySem.W.mg_of X G a11, F11, b11⟩,
      f_number_of := ⟨_, _, PySem.W.mg_of X G a12, F12, b12⟩,
      f_filling_at := ⟨_, _, PySem.W.mg_of X G a13, F13, b13⟩,
      f__law_cell := ⟨_, _, PySem.W.mg_of X G a14, F14, b14⟩,
      f__law_box := ⟨_, _, PySem.W.mg_of X G a15, F15, b15⟩,
      f__law_take := ⟨_, _, PySem.W.mg_of X G a16, F16, b16⟩,
      f__law_sizes := ⟨_, _, PySem.W.mg_of X G a17, F17, b17⟩,
      f__law_pair := ⟨_, _, PySem.W.mg_of X G a18, F18, b18⟩,
      f__law_filling := ⟨_, _, PySem.W.mg_of X G a19, F19, b19⟩,
      f__law_number := ⟨_, _, PySem.W.mg_of X G a20, F20, b20⟩,
      f__law_whole := ⟨_, _, PySem.W.mg_of X G a21, F21, b21⟩,
      f__law_wrong := ⟨_, _, PySem.W.mg_of X G a22, F22, b22⟩,
      f__law_refusal := ⟨_, _, PySem.W.mg_of X G a23, F23, b23⟩,
      f__law_error := ⟨_, _, PySem.W.mg_of X G a24, F24, b24⟩,
      f__law_made := ⟨_, _, PySem.W.mg_of X G a25, F25, b25⟩,
      f__law_same := ⟨_, _, PySem.W.mg_of X G a26, F26, b26⟩,
      f__law_odd := ⟨_, _, PySem.W.mg_of X G a27, F27, b27⟩,
      f__law_makings_right := ⟨_, _, PySem.W.mg_of X G a28, F28, b28⟩,
      f__law_bounds_right := ⟨_, _, PySem.W.mg_of X G a29, F29, b29⟩,
      f__law_numbers_right := ⟨_, _, PySem.W.mg_of X G a30, F30, b30⟩,
      f__law_refusals_right := ⟨_, _, PySem.W.mg_of X G a31, F31, b31⟩,
      f__law_right := ⟨_, _, PySem.W.mg_of X G a32, F32, b32⟩,
      f_law := ⟨_, _, PySem.W.mg_of X G a33, F33, b33⟩,
      c_Disk := ⟨PySem.W.mg_of X G A4, ⟨⟨pg4, hd4, po4, sa4⟩, ha4, hn, ht, hm4, fun t => match t with | .tInt => su4_int | .tBool => su4_bool | .tStr => su4_str | .tList => su4_list | .tTuple => su4_tuple | .tDict => su4_dict⟩, mk4, K4, kitC_of (n := 5) (by decide) I4 T4 (fun c hc => by
          have z : ([C0, C1, C2, C3, C4] : List Addr).getD c 0 = 0 := by rw [List.getD_eq_getElem?_getD, List.getElem?_eq_none (by simpa using hc)]; rfl
          show PySem.W.hasDictIn K (([C0, C1, C2, C3, C4] : List Addr).getD c 0) = false
          rw [z]; exact h00) (fun c hc => by
          have hc' : c = 0 ∨ c = 1 ∨ c = 2 ∨ c = 3 ∨ c = 4 := by omega
          rcases hc' with rfl | rfl | rfl | rfl | rfl <;> first | exact s0_4 | exact s1_4 | exact s2_4 | exact s3_4 | exact s4_4) (fun k => match k with | none => sv4_NoneType | some .tInt => sv4_int | some .tBool => sv4_bool | some .tStr => sv4_str | some .tList => sv4_list | some .tTuple => sv4_tuple | some .tDict => sv4_dict)⟩,
      nf := fun ci hci => by
        have h0 : ∀ c, 5 ≤ c → PySem.W.hasDictIn K (([C0, C1, C2, C3, C4] : List Addr).getD c 0) = false := fun c hc => by
          have z : ([C0, C1, C2, C3, C4] : List Addr).getD c 0 = 0 := by rw [List.getD_eq_getElem?_getD, List.getElem?_eq_none (by simpa using hc)]; rfl
          rw [z]; exact h00
        have hci' : ci = 4 := by simpa [or_assoc] using hci
        rcases hci' with rfl
        · refine ⟨fun k => match k with | none => nf4_NoneType | some .tInt => nf4_int | some .tBool => nf4_bool | some .tStr => nf4_str | some .tList => nf4_list | some .tTuple => nf4_tuple | some .tDict => nf4_dict, fun c cx => ?_⟩
          have lt : c < 5 := Nat.lt_of_not_le fun z => by have y := h0 c z; rw [show PySem.W.hasDictIn K (([C0, C1, C2, C3, C4] : List Addr).getD c 0) = true from cx] at y; cases y
          have hc' : c = 0 ∨ c = 1 ∨ c = 2 ∨ c = 3 ∨ c = 4 := by omega
          rcases hc' with rfl | rfl | rfl | rfl | rfl <;> first | exact ng4_0 | exact ng4_1 | exact ng4_2 | exact ng4_3 | exact ng4_4,
      fd_blocks := fun c hc => by
        have hc' : c = 4 := by simpa [or_assoc] using hc
        rcases hc' with rfl <;> first | exact na4_blocks,
      fd_contents := fun c hc => by
        have hc' : c = 4 := by simpa [or_assoc] using hc
        rcases hc' with rfl <;> first | exact na4_contents,
      e_InvalidBlocks := ⟨PySem.W.mg_of X G A0, o0, u0, _, _, n0, y0, ok_InvalidBlocks G0 o0 at0, B0⟩,
      e_InvalidContents := ⟨PySem.W.mg_of X G A1, o1, u1, _, _, n1, y1, ok_InvalidContents G1 o1 at1, B1⟩,
      e_InvalidFilling := ⟨PySem.W.mg_of X G A2, o2, u2, _, _, n2, y2, ok_InvalidFilling G2 o2 at2, B2⟩,
      e_InvalidNumber := ⟨PySem.W.mg_of X G A3, o3, u3, _, _, n3, y3, ok_InvalidNumber G3 o3 at3, B3⟩,
      xa_given := fun c hc => by
        have hc' : c = 0 ∨ c = 1 ∨ c = 2 ∨ c = 3 := by simpa [or_assoc] using hc
        rcases hc' with rfl | rfl | rfl | rfl <;> first | exact at0 | exact at1 | exact at2 | exact at3,
      ne := fun ci hci => by
        have hci' : ci = 4 := by simpa [or_assoc] using hci
        rcases hci' with rfl <;> first | exact ⟨ne4, so4⟩,
      x_m := fun k hk q hq => by
        have hk' : k = 0 ∨ k = 1 ∨ k = 2 ∨ k = 3 := by omega
        have hq' : q = 0 ∨ q = 1 ∨ q = 2 ∨ q = 3 := by omega
        rcases hk' with rfl | rfl | rfl | rfl <;> rcases hq' with rfl | rfl | rfl | rfl <;> first | exact exm_of e0 I0 T0 s0_0 | exact exm_of e1 I1 T1 s0_1 | exact exm_of e2 I2 T2 s0_2 | exact exm_of e3 I3 T3 s0_3 | exact exm_of e0 I0 T0 s1_0 | exact exm_of e1 I1 T1 s1_1 | exact exm_of e2 I2 T2 s1_2 | exact exm_of e3 I3 T3 s1_3 | exact exm_of e0 I0 T0 s2_0 | exact exm_of e1 I1 T1 s2_1 | exact exm_of e2 I2 T2 s2_2 | exact exm_of e3 I3 T3 s2_3 | exact exm_of e0 I0 T0 s3_0 | exact exm_of e1 I1 T1 s3_1 | exact exm_of e2 I2 T2 s3_2 | exact exm_of e3 I3 T3 s3_3,
      x_x := fun k hk => by
        have hk' : k = 0 ∨ k = 1 ∨ k = 2 ∨ k = 3 := by omega
        rcases hk' with rfl | rfl | rfl | rfl <;> first | exact ⟨⟨ga0, gg0, e0, hd0, ha0, hn, ht, hm0⟩, ⟨ga0, gg0, e0, hd0⟩, fun t => match t with | .tInt => su0_int | .tBool => su0_bool | .tStr => su0_str | .tList => su0_list | .tTuple => su0_tuple | .tDict => su0_dict⟩ | exact ⟨⟨ga1, gg1, e1, hd1, ha1, hn, ht, hm1⟩, ⟨ga1, gg1, e1, hd1⟩, fun t => match t with | .tInt => su1_int | .tBool => su1_bool | .tStr => su1_str | .tList => su1_list | .tTuple => su1_tuple | .tDict => su1_dict⟩ | exact ⟨⟨ga2, gg2, e2, hd2, ha2, hn, ht, hm2⟩, ⟨ga2, gg2, e2, hd2⟩, fun t => match t with | .tInt => su2_int | .tBool => su2_bool | .tStr => su2_str | .tList => su2_list | .tTuple => su2_tuple | .tDict => su2_dict⟩ | exact ⟨⟨ga3, gg3, e3, hd3, ha3, hn, ht, hm3⟩, ⟨ga3, gg3, e3, hd3⟩, fun t => match t with | .tInt => su3_int | .tBool => su3_bool | .tStr => su3_str | .tList => su3_list | .tTuple => su3_tuple | .tDict => su3_dict⟩ }
  obtain ⟨f, fd, h1, F, h2, M⟩ := (d_law T).ex
  have e1 := hfa.symm.trans h1
  cases e1
  have e2 := F.fd_eq F33
  subst e2
  exact M
end K01
open PySem PySem.W PyProof.Rows
set_option maxRecDepth 110000 in
set_option maxHeartbeats 0 in
theorem PySem.Challenge.cw_leastspare_k01_disks_fillings_numbers_holds : PySem.Challenge.rw_leastspare_k01_disks_fillings_numbers.Holds := by
  w_on; o_law; k_head; (case hw => w_witness2)
  k_fill
  refine Br.walk_m (l := PySem.Challenge.rw_leastspare_k01_disks_fillings_numbers) (n := 63) (k := 10) (x := "script") (m := K01.m_law) rfl (by decide) rfl (by decide) (fun w h Y => PySem.W.kIn_of Y) ?F K01.law_right
  case F =>
    intro w mg fa h KX G hmg
    refine' K01.all_mk KX G hmg ?a0 ?l0 ?c0 ?k0 ?a1 ?l1 ?c1 ?k1 ?a2 ?l2 ?c2 ?k2 ?a3 ?l3 ?c3 ?k3 ?A4 ?a4 ?w4 ?l4 ?c4 ?k4 ?a5 ?w5 ?l5 ?c5 ?k5 ?a6 ?l6 ?c6 ?k6 ?a7 ?l7 ?c7 ?k7 ?a8 ?l8 ?c8 ?k8 ?a9 ?l9 ?c9 ?k9 ?a10 ?l10 ?c10 ?k10 ?a11 ?l11 ?c11 ?k11 ?a12 ?l12 ?c12 ?k12 ?a13 ?l13 ?c13 ?k13 ?a14 ?l14 ?c14 ?k14 ?a15 ?l15 ?c15 ?k15 ?a16 ?l16 ?c16 ?k16 ?a17 ?l17 ?c17 ?k17 ?a18 ?l18 ?c18 ?k18 ?a19 ?l19 ?c19 ?k19 ?a20 ?l20 ?c20 ?k20 ?a21 ?l21 ?c21 ?k21 ?a22 ?l22 ?c22 ?k22 ?a23 ?l23 ?c23 ?k23 ?a24 ?l24 ?c24 ?k24 ?a25 ?l25 ?c25 ?k25 ?a26 ?l26 ?c26 ?k26 ?a27 ?l27 ?c27 ?k27 ?a28 ?l28 ?c28 ?k28 ?a29 ?l29 ?c29 ?k29 ?a30 ?l30 ?c30 ?k30 ?a31 ?l31 ?c31 ?k31 ?a32 ?l32 ?c32 ?k32 ?a33 ?l33 ?c33 ?k33 ?z0 ?z1 ?z2 ?z3 ?z4 ?z5 ?z6 ?z7 ?z8 ?z9 ?z10 ?z11 ?z12 ?z13 ?gc0 ?gc1 ?A0 ?X0 ?v0 ?sa0 ?e0 ?T0 ?I0 ?K0 ?n0 ?y0 ?le0 ?ce0 ?ke0 ?ga0 ?gg0 ?hd0 ?at0 ?ha0 ?hm0 ?su0_int ?su0_bool ?su0_str ?su0_list ?su0_tuple ?su0_dict ?A1 ?X1 ?v1 ?sa1 ?e1 ?T1 ?I1 ?K1 ?n1 ?y1 ?le1 ?ce1 ?ke1 ?ga1 ?gg1 ?hd1 ?at1 ?ha1 ?hm1 ?su1_int ?su1_bool ?su1_str ?su1_list ?su1_tuple ?su1_dict ?A2 ?X2 ?v2 ?sa2 ?e2 ?T2 ?I2 ?K2 ?n2 ?y2 ?le2 ?ce2 ?ke2 ?ga2 ?gg2 ?hd2 ?at2 ?ha2 ?hm2 ?su2_int ?su2_bool ?su2_str ?su2_list ?su2_tuple ?su2_dict ?A3 ?X3 ?v3 ?sa3 ?e3 ?T3 ?I3 ?K3 ?n3 ?y3 ?le3 ?ce3 ?ke3 ?ga3 ?gg3 ?hd3 ?at3 ?ha3 ?hm3 ?su3_int ?su3_bool ?su3_str ?su3_list ?su3_tuple ?su3_dict ?hn ?ht ?h00 ?pg4 ?hd4 ?po4 ?sa4 ?ha4 ?hm4 ?mk4 ?K4 ?I4 ?T4 ?su4_int ?su4_bool ?su4_str ?su4_list ?su4_tuple ?su4_dict ?sv4_int ?sv4_bool ?sv4_str ?sv4_list ?sv4_tuple ?sv4_dict ?sv4_NoneType ?s0_4 ?s1_4 ?s2_4 ?s3_4 ?s4_4 ?nf4_int ?nf4_bool ?nf4_str ?nf4_list ?nf4_tuple ?nf4_dict ?nf4_NoneType ?ng4_0 ?ng4_1 ?ng4_2 ?ng4_3 ?ng4_4 ?ne4 ?so4 ?na4_blocks ?na4_contents ?s0_0 ?s0_1 ?s0_2 ?s0_3 ?s1_0 ?s1_1 ?s1_2 ?s1_3 ?s2_0 ?s2_1 ?s2_2 ?s2_3 ?s3_0 ?s3_1 ?s3_2 ?s3_3
    (case a0 => k_is)
    (case l0 => k_is)
    (case c0 => k_is)
    (case k0 => k_is)
    (case a1 => k_is)
    (case l1 => k_is)
    (case c1 => k_is)
    (case k1 => k_is)
    (case a2 => k_is)
    (case l2 => k_is)
    (case c2 => k_is)
    (case k2 => k_is)
    (case a3 => k_is)
    (case l3 => k_is)
    (case c3 => k_is)
    (case k3 => k_is)
    (case A4 => k_is)
    (case a4 => k_is)
    (case w4 => k_is)
    (case l4 => k_is)
    (case c4 => k_is)
    (case k4 => k_is)
    (case a5 => k_is)
    (case w5 => k_is)
    (case l5 => k_is)
    (case c5 => k_is)
    (case k5 => k_is)
    (case a6 => k_is)
    (case l6 => k_is)
    (case c6 => k_is)
    (case k6 => k_is)
    (case a7 => k_is)
    (case l7 => k_is)
    (case c7 => k_is)
    (case k7 => k_is)
    (case a8 => k_is)
    (case l8 => k_is)
    (case c8 => k_is)
    (case k8 => k_is)
    (case a9 => k_is)
    (case l9 => k_is)
    (case c9 => k_is)
    (case k9 => k_is)
    (case a10 => k_is)
    (case l10 => k_is)
    (case c10 => k_is)
    (case k10 => k_is)
    (case a11 => k_is)
    (case l11 => k_is)
    (case c11 => k_is)
    (case k11 => k_is)
    (case a12 => k_is)
    (case l12 => k_is)
    (case c12 => k_is)
    (case k12 => k_is)
    (case a13 => k_is)
    (case l13 => k_is)
    (case c13 => k_is)
    (case k13 => k_is)
    (case a14 => k_is)
    (case l14 => k_is)
    (case c14 => k_is)
    (case k14 => k_is)
    (case a15 => k_is)
    (case l15 => k_is)
    (case c15 => k_is)
    (case k15 => k_is)
    (case a16 => k_is)
    (case l16 => k_is)
    (case c16 => k_is)
    (case k16 => k_is)
    (case a17 => k_is)
    (case l17 => k_is)
    (case c17 => k_is)
    (case k17 => k_is)
    (case a18 => k_is)
    (case l18 => k_is)
    (case c18 => k_is)
    (case k18 => k_is)
    (case a19 => k_is)
    (case l19 => k_is)
    (case c19 => k_is)
    (case k19 => k_is)
    (case a20 => k_is)
    (case l20 => k_is)
    (case c20 => k_is)
    (case k20 => k_is)
    (case a21 => k_is)
    (case l21 => k_is)
    (case c21 => k_is)
    (case k21 => k_is)
    (case a22 => k_is)
    (case l22 => k_is)
    (case c22 => k_is)
    (case k22 => k_is)
    (case a23 => k_is)
    (case l23 => k_is)
    (case c23 => k_is)
    (case k23 => k_is)
    (case a24 => k_is)
    (case l24 => k_is)
    (case c24 => k_is)
    (case k24 => k_is)
    (case a25 => k_is)
    (case l25 => k_is)
    (case c25 => k_is)
    (case k25 => k_is)
    (case a26 => k_is)
    (case l26 => k_is)
    (case c26 => k_is)
    (case k26 => k_is)
    (case a27 => k_is)
    (case l27 => k_is)
    (case c27 => k_is)
    (case k27 => k_is)
    (case a28 => k_is)
    (case l28 => k_is)
    (case c28 => k_is)
    (case k28 => k_is)
    (case a29 => k_is)
    (case l29 => k_is)
    (case c29 => k_is)
    (case k29 => k_is)
    (case a30 => k_is)
    (case l30 => k_is)
    (case c30 => k_is)
    (case k30 => k_is)
    (case a31 => k_is)
    (case l31 => k_is)
    (case c31 => k_is)
    (case k31 => k_is)
    (case a32 => k_is)
    (case l32 => k_is)
    (case c32 => k_is)
    (case k32 => k_is)
    (case a33 => k_is)
    (case l33 => k_is)
    (case c33 => k_is)
    (case k33 => k_is)
    (case z0 => k_is)
    (case z1 => k_is)
    (case z2 => k_is)
    (case z3 => k_is)
    (case z4 => k_is)
    (case z5 => k_is)
    (case z6 => k_is)
    (case z7 => k_is)
    (case z8 => k_is)
    (case z9 => k_is)
    (case z10 => k_is)
    (case z11 => k_is)
    (case z12 => k_is)
    (case z13 => k_is)
    (case gc0 => k_is)
    (case gc1 => k_is)
    (case A0 => k_is)
    (case X0 => k_is)
    (case v0 => rfl)
    (case sa0 => k_is)
    (case e0 => k_is)
    (case T0 => k_is)
    (case I0 => k_is)
    (case K0 => k_is)
    (case n0 => k_is)
    (case y0 => k_is)
    (case le0 => k_is)
    (case ce0 => k_is)
    (case ke0 => k_is)
    (case ga0 => k_is)
    (case gg0 => k_is)
    (case hd0 => k_is)
    (case at0 => k_is)
    (case ha0 => k_is)
    (case hm0 => k_is)
    (case su0_int => k_is)
    (case su0_bool => k_is)
    (case su0_str => k_is)
    (case su0_list => k_is)
    (case su0_tuple => k_is)
    (case su0_dict => k_is)
    (case A1 => k_is)
    (case X1 => k_is)
    (case v1 => rfl)
    (case sa1 => k_is)
    (case e1 => k_is)
    (case T1 => k_is)
    (case I1 => k_is)
    (case K1 => k_is)
    (case n1 => k_is)
    (case y1 => k_is)
    (case le1 => k_is)
    (case ce1 => k_is)
    (case ke1 => k_is)
    (case ga1 => k_is)
    (case gg1 => k_is)
    (case hd1 => k_is)
    (case at1 => k_is)
    (case ha1 => k_is)
    (case hm1 => k_is)
    (case su1_int => k_is)
    (case su1_bool => k_is)
    (case su1_str => k_is)
    (case su1_list => k_is)
    (case su1_tuple => k_is)
    (case su1_dict => k_is)
    (case A2 => k_is)
    (case X2 => k_is)
    (case v2 => rfl)
    (case sa2 => k_is)
    (case e2 => k_is)
    (case T2 => k_is)
    (case I2 => k_is)
    (case K2 => k_is)
    (case n2 => k_is)
    (case y2 => k_is)
    (case le2 => k_is)
    (case ce2 => k_is)
    (case ke2 => k_is)
    (case ga2 => k_is)
    (case gg2 => k_is)
    (case hd2 => k_is)
    (case at2 => k_is)
    (case ha2 => k_is)
    (case hm2 => k_is)
    (case su2_int => k_is)
    (case su2_bool => k_is)
    (case su2_str => k_is)
    (case su2_list => k_is)
    (case su2_tuple => k_is)
    (case su2_dict => k_is)
    (case A3 => k_is)
    (case X3 => k_is)
    (case v3 => rfl)
    (case sa3 => k_is)
    (case e3 => k_is)
    (case T3 => k_is)
    (case I3 => k_is)
    (case K3 => k_is)
    (case n3 => k_is)
    (case y3 => k_is)
    (case le3 => k_is)
    (case ce3 => k_is)
    (case ke3 => k_is)
    (case ga3 => k_is)
    (case gg3 => k_is)
    (case hd3 => k_is)
    (case at3 => k_is)
    (case ha3 => k_is)
    (case hm3 => k_is)
    (case su3_int => k_is)
    (case su3_bool => k_is)
    (case su3_str => k_is)
    (case su3_list => k_is)
    (case su3_tuple => k_is)
    (case su3_dict => k_is)
    (case hn => k_is)
    (case ht => k_is)
    (case h00 => k_is)
    (case pg4 => k_is)
    (case hd4 => k_is)
    (case po4 => k_is)
    (case sa4 => k_is)
    (case ha4 => k_is)
    (case hm4 => k_is)
    (case mk4 => k_is)
    (case K4 => k_is)
    (case I4 => k_is)
    (case T4 => k_is)
    (case su4_int => k_is)
    (case su4_bool => k_is)
    (case su4_str => k_is)
    (case su4_list => k_is)
    (case su4_tuple => k_is)
    (case su4_dict => k_is)
    (case sv4_int => k_is)
    (case sv4_bool => k_is)
    (case sv4_str => k_is)
    (case sv4_list => k_is)
    (case sv4_tuple => k_is)
    (case sv4_dict => k_is)
    (case sv4_NoneType => k_is)
    (case s0_4 => k_is)
    (case s1_4 => k_is)
    (case s2_4 => k_is)
    (case s3_4 => k_is)
    (case s4_4 => k_is)
    (case nf4_int => k_is)
    (case nf4_bool => k_is)
    (case nf4_str => k_is)
    (case nf4_list => k_is)
    (case nf4_tuple => k_is)
    (case nf4_dict => k_is)
    (case nf4_NoneType => k_is)
    (case ng4_0 => k_is)
    (case ng4_1 => k_is)
    (case ng4_2 => k_is)
    (case ng4_3 => k_is)
    (case ng4_4 => k_is)
    (case ne4 => k_is)
    (case so4 => k_is)
    (case na4_blocks => k_is)
    (case na4_contents => k_is)
    (case s0_0 => k_is)
    (case s0_1 => k_is)
    (case s0_2 => k_is)
    (case s0_3 => k_is)
    (case s1_0 => k_is)
    (case s1_1 => k_is)
    (case s1_2 => k_is)
    (case s1_3 => k_is)
    (case s2_0 => k_is)
    (case s2_1 => k_is)
    (case s2_2 => k_is)
    (case s2_3 => k_is)
    (case s3_0 => k_is)
    (case s3_1 => k_is)
    (case s3_2 => k_is)
    (case s3_3 => k_is)
