import PyProof.Rows.All
import Wide.All
import OpenK.AllK
import Wide.FinOn
import HandS.ForMost
import HandS.ForExc
import HandS.CallSlots
import HandS.IsInst
import HandS.SortOrd
import HandS.HeadHook4
import HandS.TupMul
import HandS.TupAny
import HandS.Deep
import HandS.Codes
import HandS.SortInts
import HandS.TupSets
import HandS.Style
import HandS.Defaults
import HandS.WordsExc
import HandS.Lambda
import KE.KUnpackStar
import HandS.DictComp
import KE.GoesEnum
import KE.KStateDown
import HandS.Base
import HandS.Call
import HandS.Ends
import HandS.More
import HandS.Words
import HandS.Head0
import HandS.Head1
import HandS.Head2
import HandS.HeadEnd
import HandS.HeadHook1
import HandS.HeadHook2
import HandS.HeadHook3
import PySem.Challenge.RW_lanemeet_k17_reasons_by_hand
set_option Elab.async false
section
set_option linter.all false
set_option maxRecDepth 100000
/-! MP1: a small computable semantics of the fragment of Python that the laws use: values are trees, local lists that change are held by value, shared ones by a small heap. -/
namespace MP
/-- a text as its codes; a name of an attribute likewise -/
abbrev Nm := List Nat
inductive W where
  | non | bl (b : Bool) | int (i : Int) | str (s : Nm) | tup (xs : List W) | lst (xs : List W) | dct (kvs : List (W × W)) | ref (n : Nat) | scr (ns : List Int)
instance : Inhabited W := ⟨.non⟩
/-- what stands in the small heap -/
inductive O where
  | lst (xs : List W) | dct (kvs : List (W × W)) | ins (c : Nat) (fs : List (Nm × W)) | opq
abbrev Hea := List O
/-- a slot: unbound, or (held by this frame alone, a value) -/
abbrev Env := List (Option (Bool × W))
inductive R (α : Type) where
  | ok (a : α) (h : Hea) | ex (c : Nat) (p : W) (h : Hea) | bad
inductive Out where
  | nx (e : Env) (h : Hea) | rt (w : W) (h : Hea) | br (e : Env) (h : Hea) | ct (e : Env) (h : Hea) | ex (c : Nat) (p : W) (e : Env) (h : Hea) | bad
abbrev SE := Env → Hea → R W
abbrev ST := Env → Hea → R Bool
abbrev SA := Env → Hea → R (List W)
abbrev SS := Env → Hea → Out
abbrev Calls := Nat → List W → Hea → R W
@[inline] def R.bind {α β : Type} (r : R α) (f : α → Hea → R β) : R β := match r with
  | .ok a h => f a h
  | .ex c p h => .ex c p h
  | .bad => .bad
@[inline] def R.out {α : Type} (e : Env) (r : R α) (f : α → Hea → Out) : Out := match r with
  | .ok a h => f a h
  | .ex c p h => .ex c p e h
  | .bad => .bad
def ofO {α : Type} (o : Option α) (h : Hea) : R α := match o with
  | some a => .ok a h
  | none => .bad

/-! ### values -/
mutual
/-- Python's == of plain values -/
def eqW : W → W → Bool
  | .non, .non => true
  | .bl a, .bl b => a == b
  | .bl a, .int i => (if a then 1 else 0) == i
  | .int i, .bl b => i == (if b then 1 else 0)
  | .int i, .int j => i == j
  | .str s, .str t => s == t
  | .tup xs, .tup ys => eqWs xs ys
  | .lst xs, .lst ys => eqWs xs ys
  | _, _ => false
def eqWs : List W → List W → Bool
  | [], [] => true
  | x :: xs, y :: ys => eqW x y && eqWs xs ys
  | _, _ => false
end
mutual
/-- plain data, no deeper than n -/
def okW : Nat → W → Bool
  | _, .non => true
  | _, .bl _ => true
  | _, .int _ => true
  | _, .str s => s.all fun c => Nat.blt c 1114112
  | 0, .tup _ => false
  | n + 1, .tup xs => okWs n xs
  | 0, .lst _ => false
  | n + 1, .lst xs => okWs n xs
  | _, .dct _ => false
  | _, .ref _ => false
  | _, .scr _ => false
def okWs : Nat → List W → Bool
  | _, [] => true
  | n, x :: xs => okW n x && okWs n xs
end
mutual
/-- no reference from n on -/
def cleanW (n : Nat) : W → Bool
  | .tup xs => cleanWs n xs
  | .lst xs => cleanWs n xs
  | .dct kvs => cleanKv n kvs
  | .ref m => Nat.blt m n
  | _ => true
def cleanWs (n : Nat) : List W → Bool
  | [] => true
  | x :: xs => cleanW n x && cleanWs n xs
def cleanKv (n : Nat) : List (W × W) → Bool
  | [] => true
  | (k, x) :: xs => cleanW n k && cleanW n x && cleanKv n xs
end
def cleanF (n : Nat) : List (Nm × W) → Bool
  | [] => true
  | (_, x) :: xs => cleanW n x && cleanF n xs
def cleanO (n : Nat) : O → Bool
  | .lst xs => cleanWs n xs
  | .dct kvs => cleanKv n kvs
  | .ins _ fs => cleanF n fs
  | .opq => true
def cleanH (n : Nat) : Hea → Bool
  | [] => true
  | o :: r => cleanO n o && cleanH n r
mutual
/-- shared lists from n on that a result names, told by value (their items have no such) -/
def settle (n : Nat) (h : Hea) : W → Option W
  | .tup xs => (settles n h xs).map .tup
  | .lst xs => (settles n h xs).map .lst
  | .ref m => if Nat.blt m n then some (.ref m) else match h[m]? with
    | some (.lst ws) => if cleanWs n ws then some (.lst ws) else none
    | _ => none
  | .dct kvs => if cleanKv n kvs then some (.dct kvs) else none
  | w => some w
def settles (n : Nat) (h : Hea) : List W → Option (List W)
  | [] => some []
  | x :: xs => match settle n h x with
    | some y => (settles n h xs).map (y :: ·)
    | none => none
end
def ltS (a b : Nm) : Bool := decide (a < b)
/-- < of ints, texts, tuples of such -/
def ltFlat : W → W → Option Bool
  | .int i, .int j => some (decide (i < j))
  | .str a, .str b => some (ltS a b)
  | _, _ => none

/-! ### looking into the heap -/
def seqOf (w : W) (h : Hea) : Option (List W) := match w with
  | .tup ws => some ws
  | .lst ws => some ws
  | .scr ns => some (ns.map .int)
  | .ref n => (match h[n]? with
    | some (.lst ws) => some ws
    | _ => none)
  | _ => none
def lstOf (w : W) (h : Hea) : Option (List W) := match w with
  | .tup _ => none
  | w => seqOf w h
def dctOf (w : W) (h : Hea) : Option (List (W × W)) := match w with
  | .dct kvs => some kvs
  | .ref n => (match h[n]? with
    | some (.dct kvs) => some kvs
    | _ => none)
  | _ => none
/-- a shared list seen by value -/
def seen (w : W) (h : Hea) : W := match w with
  | .ref n => (match h[n]? with
    | some (.lst ws) => .lst ws
    | _ => .ref n)
  | w => w
def lookN (f : Nm) : List (Nm × W) → Option W
  | [] => none
  | (g, w) :: r => if g == f then some w else lookN f r
def putN (f : Nm) (w : W) : List (Nm × W) → List (Nm × W)
  | [] => [(f, w)]
  | (g, x) :: r => if g == f then (g, w) :: r else (g, x) :: putN f w r
def keyOk : W → Bool
  | .int _ => true
  | .str _ => true
  | _ => false
def keysOk : List W → Bool
  | [] => true
  | x :: xs => keyOk x && keysOk xs
/-- a key of a dict: an int, a text -/
abbrev keyW : W → Bool := keyOk
def lookK (k : W) : List (W × W) → Option W
  | [] => none
  | (g, w) :: r => if eqW g k then some w else lookK k r
def replK (k w : W) : List (W × W) → List (W × W)
  | [] => []
  | (g, x) :: r => (if eqW g k then (g, w) else (g, x)) :: replK k w r
def putK (k w : W) (l : List (W × W)) : List (W × W) := if (lookK k l).isSome then replK k w l else l ++ [(k, w)]

/-! ### the operators, by values -/
abbrev G2 := W → W → Hea → R W
def line : Nat := 16777216
def small (i : Int) : Bool := decide (-18446744073709551616 < i) && decide (i < 18446744073709551616)
def gI (f : Int → Int → W) : G2 := fun x y h => match x, y with
  | .int i, .int j => .ok (f i j) h
  | _, _ => .bad
/-- a list, wherever it stands, not the script's -/
def dirL (w : W) (h : Hea) : Option (List W) := match w with
  | .lst ws => some ws
  | .ref n => (match h[n]? with
    | some (.lst ws) => some ws
    | _ => none)
  | _ => none
def addL (a b : Option (List W)) (h : Hea) : R W := match a with
  | some a => (match b with
    | some b => if Nat.ble (a.length + b.length) line then .ok (.lst (a ++ b)) h else .bad
    | none => .bad)
  | none => .bad
def gAdd : G2 := fun x y h => match x with
  | .int i => (match y with
    | .int j => .ok (.int (i + j)) h
    | _ => .bad)
  | .str a => (match y with
    | .str b => if Nat.ble (a.length + b.length) line then .ok (.str (a ++ b)) h else .bad
    | _ => .bad)
  | .tup a => (match y with
    | .tup b => if Nat.ble (a.length + b.length) line then .ok (.tup (a ++ b)) h else .bad
    | _ => .bad)
  | x => addL (dirL x h) (dirL y h) h
def gAddI : G2 := gI fun i j => .int (i + j)
def gSub : G2 := gI fun i j => .int (i - j)
def repL {α : Type} (a : List α) : Nat → List α
  | 0 => []
  | n + 1 => a ++ repL a n
def gMul : G2 := fun x y h => match x, y with
  | .int i, .int j => if small i || small j then .ok (.int (i * j)) h else .bad
  | .lst a, .int j => if small j && Nat.ble j.toNat 1000000 && decide (-1000000 ≤ j) && Nat.ble (a.length * j.toNat) line then .ok (.lst (repL a j.toNat)) h else .bad
  | .tup a, .int j => if !a.isEmpty && decide (-1000 ≤ j) && decide (j ≤ 1000) && Nat.ble a.length 1000 then .ok (.tup (repL a j.toNat)) h else .bad
  | _, _ => .bad
def gDiv : G2 := fun x y h => match x, y with
  | .int i, .int j => if decide (j ≠ 0) && Nat.blt j.natAbs 1073741824 then .ok (.int (i.fdiv j)) h else .bad
  | _, _ => .bad
def gMod : G2 := fun x y h => match x, y with
  | .int i, .int j => if decide (j ≠ 0) then .ok (.int (i.fmod j)) h else .bad
  | _, _ => .bad
def gPow : G2 := fun x y h => match x, y with
  | .int i, .int j => if decide (0 ≤ j) && decide (j ≤ 1000) && small i then .ok (.int (i ^ j.toNat)) h else .bad
  | _, _ => .bad
def gEq : G2 := fun x y h => if okW 64 (seen x h) && okW 64 (seen y h) then .ok (.bl (eqW (seen x h) (seen y h))) h else .bad
def gNe : G2 := fun x y h => if okW 64 (seen x h) && okW 64 (seen y h) then .ok (.bl (!eqW (seen x h) (seen y h))) h else .bad
def gLt : G2 := fun x y h => match x, y with
  | .int i, .int j => .ok (.bl (decide (i < j))) h
  | .str a, .str b => .ok (.bl (ltS a b)) h
  | _, _ => .bad
def gLe : G2 := gI fun i j => .bl (decide (i ≤ j))
def gGt : G2 := gI fun i j => .bl (decide (j < i))
def gGe : G2 := gI fun i j => .bl (decide (j ≤ i))
def inWs (x : W) : List W → Bool
  | [] => false
  | y :: r => eqW y x || inWs x r
def flatW : W → Bool
  | .non => true
  | .bl _ => true
  | .int _ => true
  | .str _ => true
  | _ => false
def flatWs : List W → Bool
  | [] => true
  | x :: r => flatW x && flatWs r
/-- x in ys: a sign in a text, flat data in a tuple, plain data in a list -/
def gInB (x y : W) (h : Hea) : Option Bool := match y with
  | .str b => (match x with
    | .str [c] => some (b.contains c)
    | _ => none)
  | .tup ws => if flatW x && flatWs ws then some (inWs x ws) else none
  | y => match seqOf y h with
    | some ws => if okW 64 x && okWs 63 ws then some (inWs x ws) else none
    | none => none
def gIn : G2 := fun x y h => match gInB x y h with
  | some b => .ok (.bl b) h
  | none => .bad
def gNotIn : G2 := fun x y h => match gInB x y h with
  | some b => .ok (.bl (!b)) h
  | none => .bad
/-- the place that an index tells -/
def place (n : Nat) (i : Int) : Option Nat := if 0 ≤ i then (if i < n then some i.toNat else none) else if -(n : Int) ≤ i then some (i + n).toNat else none
def atW (ws : List W) (i : Int) : Option W := match place ws.length i with
  | some k => ws[k]?
  | none => none
def ixSeq (ws : List W) (y : W) (h : Hea) : R W := match y with
  | .int i => ofO (atW ws i) h
  | _ => .bad
def ixStr (s : Nm) (i : Int) (h : Hea) : R W := match place s.length i with
  | some k => (match s[k]? with
    | some c => .ok (.str [c]) h
    | none => .bad)
  | none => .bad
def ixOpt (o : Option (List W)) (y : W) (h : Hea) : R W := match o with
  | some ws => ixSeq ws y h
  | none => .bad
def gIx : G2 := fun x y h => match x with
  | .str s => (match y with
    | .int i => if Nat.ble s.length line then ixStr s i h else .bad
    | _ => .bad)
  | x => ixOpt (seqOf x h) y h
/-- d[k] -/
def gIxD : G2 := fun x y h => match dctOf x h with
  | some kvs => if keyW y then ofO (lookK y kvs) h else .bad
  | none => .bad
/-- k in d -/
def gInD : G2 := fun x y h => match dctOf y h with
  | some kvs => if keyW x then .ok (.bl (lookK x kvs).isSome) h else .bad
  | none => .bad
def gNotInD : G2 := fun x y h => match dctOf y h with
  | some kvs => if keyW x then .ok (.bl (!(lookK x kvs).isSome)) h else .bad
  | none => .bad
/-- a slice's bound -/
def bnd (n d : Nat) : Option Int → Nat
  | none => d
  | some v => if v < 0 then (v + (n : Int)).toNat else min v.toNat n
def cutL {α : Type} (xs : List α) (lo hi : Option Int) : List α := (xs.drop (bnd xs.length 0 lo)).take (bnd xs.length xs.length hi - bnd xs.length 0 lo)

/-! ### expressions -/
def sBad : SE := fun _ _ => .bad
def sC (w : W) : SE := fun _ h => .ok w h
/-- a name that is read; not one that this frame alone holds -/
def sV (i : Nat) : SE := fun e h => match e[i]? with
  | some (some (false, w)) => .ok w h
  | _ => .bad
/-- a name that is looked at and not kept -/
def sVT (i : Nat) : SE := fun e h => match e[i]? with
  | some (some (_, w)) => .ok w h
  | _ => .bad
def sB (g : G2) (a b : SE) : SE := fun e h => (a e h).bind fun x h => (b e h).bind fun y h => g x y h
def sNeg (a : SE) : SE := fun e h => (a e h).bind fun x h => match x with
  | .int i => .ok (.int (-i)) h
  | _ => .bad
/-- a < b < c -/
def sChain (g g' : G2) (a b c : SE) : SE := fun e h => (a e h).bind fun x h => (b e h).bind fun y h => (g x y h).bind fun z h => match z with
  | .bl true => (c e h).bind fun u h => g' y u h
  | .bl false => .ok (.bl false) h
  | _ => .bad
def isNon : W → Bool
  | .non => true
  | _ => false
def sIsN (a : SE) : SE := fun e h => (a e h).bind fun x h => .ok (.bl (isNon x)) h
def sNotN (a : SE) : SE := fun e h => (a e h).bind fun x h => .ok (.bl (!isNon x)) h
/-- and, or, not of truths, as values -/
def sAnd (a b : SE) : SE := fun e h => (a e h).bind fun x h => match x with
  | .bl true => b e h
  | .bl false => .ok (.bl false) h
  | _ => .bad
def sOr (a b : SE) : SE := fun e h => (a e h).bind fun x h => match x with
  | .bl true => .ok (.bl true) h
  | .bl false => b e h
  | _ => .bad
def sNot (a : SE) : SE := fun e h => (a e h).bind fun x h => match x with
  | .bl b => .ok (.bl (!b)) h
  | _ => .bad
/-! tests -/
def tV (a : SE) : ST := fun e h => (a e h).bind fun x h => match x with
  | .bl b => .ok b h
  | _ => .bad
def tAnd (a b : ST) : ST := fun e h => (a e h).bind fun c h => if c = true then b e h else .ok false h
def tOr (a b : ST) : ST := fun e h => (a e h).bind fun c h => if c = true then .ok true h else b e h
def tNot (a : ST) : ST := fun e h => (a e h).bind fun c h => .ok (!c) h
def sIfE (t : ST) (a b : SE) : SE := fun e h => (t e h).bind fun c h => if c = true then a e h else b e h
/-! argument lists -/
def aNil : SA := fun _ h => .ok [] h
def aCons (a : SE) (r : SA) : SA := fun e h => (a e h).bind fun x h => (r e h).bind fun xs h => .ok (x :: xs) h
def sTup (r : SA) : SE := fun e h => (r e h).bind fun xs h => if Nat.ble xs.length line then .ok (.tup xs) h else .bad
def sLst (r : SA) : SE := fun e h => (r e h).bind fun xs h => if Nat.ble xs.length line then .ok (.lst xs) h else .bad
/-- a list that is shared: laid in the heap -/
def sLstH (r : SA) : SE := fun e h => (r e h).bind fun xs h => if Nat.ble xs.length line then .ok (.ref h.length) (h ++ [.lst xs]) else .bad
/-- a list just made, put in the heap -/
def sHeap (a : SE) : SE := fun e h => (a e h).bind fun x h => match x with
  | .lst xs => .ok (.ref h.length) (h ++ [.lst xs])
  | .dct kvs => .ok (.ref h.length) (h ++ [.dct kvs])
  | _ => .bad
def sDctN : SE := fun _ h => .ok (.dct []) h
/-- (a key, a worth) of a dict's display, from the left -/
def aKv : List (SE × SE) → Env → Hea → R (List (W × W))
  | [], _, h => .ok [] h
  | (k, v) :: r, e, h => (k e h).bind fun x h => (v e h).bind fun y h => (aKv r e h).bind fun l h => .ok ((x, y) :: l) h
def mergeW : List (W × W) → List (W × W) → List (W × W)
  | acc, [] => acc
  | acc, (k, v) :: r => mergeW (putK k v acc) r
def kvOk : List (W × W) → Bool
  | [] => true
  | (k, _) :: r => keyOk k && kvOk r
def kvOk15 (kvs : List (W × W)) : Bool := kvOk kvs && Nat.ble kvs.length 15
def sDct (l : List (SE × SE)) : SE := fun e h => (aKv l e h).bind fun kvs h => if kvOk15 kvs then .ok (.dct (mergeW [] kvs)) h else .bad
/-- a bound of a slice -/
def sBnd (o : Option SE) : Env → Hea → R (Option Int) := fun e h => match o with
  | none => .ok none h
  | some a => (a e h).bind fun x h => match x with
    | .int i => .ok (some i) h
    | _ => .bad
def gCut (x : W) (lo hi : Option Int) (h : Hea) : R W := match x with
  | .str s => if Nat.ble s.length line then .ok (.str (cutL s lo hi)) h else .bad
  | .tup ws => .ok (.tup (cutL ws lo hi)) h
  | x => match lstOf x h with
    | some ws => .ok (.lst (cutL ws lo hi)) h
    | none => .bad
def sCut (a : SE) (lo hi : Option SE) : SE := fun e h => (a e h).bind fun x h => (sBnd lo e h).bind fun l h => (sBnd hi e h).bind fun u h => gCut x l u h
/-- an attribute of an object of the class cl -/
def fldOf (cl : Nat) (f : Nm) (x : W) (h : Hea) : Option W := match x with
  | .ref n => (match h[n]? with
    | some (.ins c fs) => if c == cl then lookN f fs else none
    | _ => none)
  | _ => none
def sFld (cl : Nat) (a : SE) (f : Nm) : SE := fun e h => (a e h).bind fun x h => ofO (fldOf cl f x h) h
/-! calls -/
/-- n arguments -/
def cN (c : Calls) (f n : Nat) : Calls := fun _ xs h => if xs.length == n then c f xs h else .bad
def sCall (c : Calls) (f n : Nat) (r : SA) : SE := fun e h => (r e h).bind fun xs h => cN c f n f xs h
/-- o.m(..): o of the class cl, m its function f -/
def isIns (cl : Nat) (m : Nm) (x : W) (h : Hea) : Bool := match x with
  | .ref n => (match h[n]? with
    | some (.ins c fs) => c == cl && (lookN m fs).isNone
    | _ => false)
  | _ => false
def sMeth (c : Calls) (cl f n : Nat) (m : Nm) (o : SE) (r : SA) : SE := fun e h => (o e h).bind fun x h => if isIns cl m x h then (r e h).bind fun xs h => cN c f n f (x :: xs) h else .bad
/-- C(..): f its __init__ -/
def isNone (r : R W) (w : W) : R W := match r with
  | .ok .non h => .ok w h
  | _ => .bad
def sNew (c : Calls) (cl f n : Nat) (r : SA) : SE := fun e h => (r e h).bind fun xs h => isNone (cN c f n f (.ref h.length :: xs) (h ++ [.ins cl []])) (.ref h.length)
abbrev GB := List W → Hea → R W
def sBi (g : GB) (r : SA) : SE := fun e h => (r e h).bind fun xs h => g xs h
def bLen : GB := fun xs h => match xs with
  | [.str s] => if Nat.ble s.length line then .ok (.int s.length) h else .bad
  | [x] => (match seqOf x h with
    | some ws => .ok (.int ws.length) h
    | none => .bad)
  | _ => .bad
def intsOf : List W → Option (List Int)
  | [] => some []
  | .int i :: r => (intsOf r).map (i :: ·)
  | _ :: _ => none
def boolsOf : List W → Option (List Bool)
  | [] => some []
  | .bl i :: r => (boolsOf r).map (i :: ·)
  | _ :: _ => none
def allI (o : Option (List W)) : Option (List Int) := match o with
  | some ws => intsOf ws
  | none => none
def allB (o : Option (List W)) : Option (List Bool) := match o with
  | some ws => boolsOf ws
  | none => none
def bSum : GB := fun xs h => match xs with
  | [x] => ofO ((allI (lstOf x h)).map fun is => .int is.sum) h
  | _ => .bad
def bAny : GB := fun xs h => match xs with
  | [x] => ofO ((allB (lstOf x h)).map fun bs => .bl (bs.any id)) h
  | _ => .bad
def bAll : GB := fun xs h => match xs with
  | [x] => ofO ((allB (lstOf x h)).map fun bs => .bl (bs.all id)) h
  | _ => .bad
def bAbs : GB := fun xs h => match xs with
  | [.int i] => .ok (.int (if i < 0 then -i else i)) h
  | _ => .bad
def bMax2 : GB := fun xs h => match xs with
  | [.int i, .int j] => .ok (.int (if j > i then j else i)) h
  | _ => .bad
def bMin2 : GB := fun xs h => match xs with
  | [.int i, .int j] => .ok (.int (if j < i then j else i)) h
  | _ => .bad
def maxI : Int → List Int → Int
  | a, [] => a
  | a, i :: r => maxI (if i > a then i else a) r
def maxO : List Int → Option W
  | [] => none
  | i :: is => some (.int (maxI i is))
def minI : Int → List Int → Int
  | a, [] => a
  | a, i :: r => minI (if i < a then i else a) r
def minO : List Int → Option W
  | [] => none
  | i :: is => some (.int (minI i is))
def bMax1 : GB := fun xs h => match xs with
  | [x] => ofO ((allI (lstOf x h)).bind maxO) h
  | _ => .bad
def bMin1 : GB := fun xs h => match xs with
  | [x] => ofO ((allI (lstOf x h)).bind minO) h
  | _ => .bad
def bInt : GB := fun xs h => match xs with
  | [.int i] => .ok (.int i) h
  | [.bl b] => .ok (.int (if b then 1 else 0)) h
  | _ => .bad
def bList : GB := fun xs h => match xs with
  | [x] => ofO ((seqOf x h).map .lst) h
  | _ => .bad
def bTuple : GB := fun xs h => match xs with
  | [x] => ofO ((seqOf x h).map .tup) h
  | _ => .bad
def bDict : GB := fun xs h => match xs with
  | [x] => ofO ((dctOf x h).map .dct) h
  | _ => .bad
/-! sorted -/
/-- < of rows of ints -/
def ltIs : List Int → List Int → Bool
  | [], [] => false
  | [], _ :: _ => true
  | _ :: _, [] => false
  | x :: xs, y :: ys => if x = y then ltIs xs ys else decide (x < y)
def insB {α : Type} (lt : α → α → Bool) (x : α) : List α → List α
  | [] => [x]
  | y :: r => if lt x y then x :: y :: r else y :: insB lt x r
def sortB {α : Type} (lt : α → α → Bool) (l : List α) : List α := l.foldl (fun acc x => insB lt x acc) []
def rowsOf : List W → Option (List (List Int))
  | [] => some []
  | .tup xs :: r => (match intsOf xs with
    | some is => (rowsOf r).map (is :: ·)
    | none => none)
  | _ :: _ => none
def ltI (a b : Int) : Bool := decide (a < b)
/-- sorted of ints, of a list -/
def bSortI : GB := fun xs h => match xs with
  | [x] => ofO ((allI (lstOf x h)).map fun is => .lst ((sortB ltI is).map .int)) h
  | _ => .bad
def rowW (is : List Int) : W := .tup (is.map .int)
def rowsO (o : Option (List W)) : Option (List (List Int)) := match o with
  | some ws => rowsOf ws
  | none => none
/-- rows of the same length, not 0 -/
def evenB (d : Nat) : List (List Int) → Bool
  | [] => true
  | r :: rs => r.length == d && evenB d rs
def evenR : List (List Int) → Bool
  | [] => true
  | r :: rs => Nat.blt 0 r.length && evenB r.length rs
def bSortT : GB := fun xs h => match xs with
  | [x] => (match rowsO (seqOf x h) with
    | some rs => if evenR rs then .ok (.lst ((sortB ltIs rs).map rowW)) h else .bad
    | none => .bad)
  | _ => .bad
def strsOf : List W → Option (List Nm)
  | [] => some []
  | .str i :: r => (strsOf r).map (i :: ·)
  | _ :: _ => none
def allS (o : Option (List W)) : Option (List Nm) := match o with
  | some ws => strsOf ws
  | none => none
/-- sorted of texts, of a list -/
def bSortS : GB := fun xs h => match xs with
  | [x] => (match allS (lstOf x h) with
    | some ss => if Nat.blt ss.length 64 then .ok (.lst ((sortB ltS ss).map .str)) h else .bad
    | none => .bad)
  | _ => .bad
/-! isinstance -/
inductive Tn where
  | non | bool | int | str | tuple | list | dict
def subT : Tn → Tn → Bool
  | .non, .non => true
  | .bool, .bool => true
  | .bool, .int => true
  | .int, .int => true
  | .str, .str => true
  | .tuple, .tuple => true
  | .list, .list => true
  | .dict, .dict => true
  | _, _ => false
def tnOf (x : W) (h : Hea) : Option Tn := match x with
  | .non => some .non
  | .bl _ => some .bool
  | .int _ => some .int
  | .str _ => some .str
  | .tup _ => some .tuple
  | .lst _ => some .list
  | .dct _ => some .dict
  | .scr _ => none
  | .ref n => (match h[n]? with
    | some (.lst _) => some .list
    | some (.dct _) => some .dict
    | _ => none)
def sIsI (a : SE) (t : Tn) : SE := fun e h => (a e h).bind fun x h => match tnOf x h with
  | some s => .ok (.bl (subT s t)) h
  | none => .bad
/-- d.get(k, x) -/
def sGet (d k x : SE) : SE := fun e h => (d e h).bind fun dv h => match dctOf dv h with
  | some _ => (k e h).bind fun kv h => (x e h).bind fun xv h => (match dctOf dv h with
    | some kvs => if keyW kv then .ok ((lookK kv kvs).getD xv) h else .bad
    | none => .bad)
  | none => .bad
/-- a table of the module, keys texts: T.get(k, x) -/
def sTab (t : List (Nm × W)) (k x : SE) : SE := fun e h => (k e h).bind fun kv h => (x e h).bind fun xv h => match kv with
  | .str s => .ok ((lookN s t).getD xv) h
  | _ => .bad

/-! ### what is walked -/
abbrev SI := SA
def itemsOf (w : W) : Option (List W) := match w with
  | .tup ws => some ws
  | .lst ws => some ws
  | .scr ns => some (ns.map .int)
  | _ => none
def iSeq (a : SE) : SI := fun e h => (a e h).bind fun x h => ofO (itemsOf x) h
def signs (s : Nm) : List W := s.map fun c => .str [c]
def iStr (a : SE) : SI := fun e h => (a e h).bind fun x h => match x with
  | .str s => .ok (signs s) h
  | _ => .bad
def upI (lo : Int) : Nat → List W
  | 0 => []
  | n + 1 => .int lo :: upI (lo + 1) n
def rngOk (i : Int) : Bool := decide (-4611686018427387904 ≤ i) && decide (i < 4611686018427387904)
def iRg1 (r : SA) : SI := fun e h => (r e h).bind fun xs h => match xs with
  | [.int n] => if rngOk n then .ok (upI 0 n.toNat) h else .bad
  | _ => .bad
def iRg2 (r : SA) : SI := fun e h => (r e h).bind fun xs h => match xs with
  | [.int i, .int j] => if rngOk i && rngOk j then .ok (upI i (j - i).toNat) h else .bad
  | _ => .bad
/-! targets -/
abbrev Tg := W → Env → Option Env
def gNm (i : Nat) : Tg := fun w e => if Nat.blt i e.length then some (e.set i (some (false, w))) else none
abbrev Tgs := List W → Env → Option Env
def gsNil : Tgs := fun ws e => match ws with
  | [] => some e
  | _ => none
def gsCons (t : Tg) (u : Tgs) : Tgs := fun ws e => match ws with
  | w :: r => (match t w e with
    | some e' => u r e'
    | none => none)
  | [] => none
def gTu (n : Nat) (t : Tgs) : Tg := fun w e => match w with
  | .tup ws => if ws.length == n then t ws e else none
  | _ => none

/-! ### comprehensions -/
def wipeE (e : Env) : List Nat → Env
  | [] => e
  | v :: vs => (wipeE e vs).set v none
def tYes : ST := fun _ h => .ok true h
def lcL (e : Env) (tg : Tg) (t : ST) (s : SE) : List W → List W → Hea → R (List W)
  | [], acc, h => .ok acc h
  | w :: ws, acc, h => match tg w e with
    | none => .bad
    | some e' => match t e' h with
      | .ok true h => (match s e' h with
        | .ok x h => if Nat.blt acc.length line then lcL e tg t s ws (acc ++ [x]) h else .bad
        | _ => .bad)
      | .ok false h => lcL e tg t s ws acc h
      | _ => .bad
/-- none of some slots is held by this frame alone -/
def noOwn (e : Env) : List Nat → Bool
  | [] => true
  | v :: vs => (match e[v]? with
    | some (some (true, _)) => false
    | _ => true) && noOwn e vs
def mapR {α β : Type} (f : α → β) (r : R α) : R β := match r with
  | .ok a h => .ok (f a) h
  | _ => .bad
def sLc (it : SI) (vs : List Nat) (tg : Tg) (t : ST) (s : SE) : SE := fun e h => (it e h).bind fun ws h => if noOwn e vs then mapR W.lst (lcL (wipeE e vs) tg t s ws [] h) else .bad
def lcL2 (e : Env) (tg : Tg) (t : ST) (it1 : SI) (vs1 : List Nat) (tg1 : Tg) (t1 : ST) (s : SE) : List W → List W → Hea → R (List W)
  | [], acc, h => .ok acc h
  | w :: ws, acc, h => match tg w e with
    | none => .bad
    | some e' => match t e' h with
      | .ok true h => (match it1 e' h with
        | .ok ws1 h => (match lcL (wipeE e' vs1) tg1 t1 s ws1 acc h with
          | .ok acc h => lcL2 e tg t it1 vs1 tg1 t1 s ws acc h
          | _ => .bad)
        | _ => .bad)
      | .ok false h => lcL2 e tg t it1 vs1 tg1 t1 s ws acc h
      | _ => .bad
def sLc2 (it : SI) (vs : List Nat) (tg : Tg) (t : ST) (it1 : SI) (vs1 : List Nat) (tg1 : Tg) (t1 : ST) (s : SE) : SE := fun e h => (it e h).bind fun ws h => if noOwn e vs then mapR W.lst (lcL2 (wipeE e vs) tg t it1 vs1 tg1 t1 s ws [] h) else .bad

/-- a dict's comprehension -/
def dcL (e : Env) (tg : Tg) (t : ST) (sk sv : SE) : List W → List (W × W) → Hea → R (List (W × W))
  | [], acc, h => .ok acc h
  | w :: ws, acc, h => match tg w e with
    | none => .bad
    | some e' => match t e' h with
      | .ok true h => (match sk e' h with
        | .ok k h => (match sv e' h with
          | .ok x h => if keyW k && Nat.blt acc.length line then dcL e tg t sk sv ws (putK k x acc) h else .bad
          | _ => .bad)
        | _ => .bad)
      | .ok false h => dcL e tg t sk sv ws acc h
      | _ => .bad
def sDc (it : SI) (vs : List Nat) (tg : Tg) (t : ST) (sk sv : SE) : SE := fun e h => (it e h).bind fun ws h => if noOwn e vs then mapR W.dct (dcL (wipeE e vs) tg t sk sv ws [] h) else .bad
/-- a list's comprehension over d.items(), d a shared dict: none looks at it meanwhile -/
def pairsW (kvs : List (W × W)) : List W := kvs.map fun p => .tup [p.1, p.2]
def unopq (n : Nat) (kvs : List (W × W)) (r : R (List W)) : R W := match r with
  | .ok xs h => (match h[n]? with
    | some .opq => .ok (.lst xs) (h.set n (.dct kvs))
    | _ => .bad)
  | _ => .bad
def isAt (n : Nat) (x : W) : Bool := match x with
  | .ref m => m == n
  | _ => false
def lcItems (d : SE) (vs : List Nat) (tg : Tg) (t : ST) (s : SE) (n : Nat) (kvs : List (W × W)) (e : Env) (h : Hea) : R W := match d e h with
  | .ok x h => (match h[n]? with
    | some .opq => if isAt n x && noOwn e vs then unopq n kvs (lcL (wipeE e vs) tg t s (pairsW kvs) [] h) else .bad
    | _ => .bad)
  | _ => .bad
def sLcI (d : SE) (vs : List Nat) (tg : Tg) (t : ST) (s : SE) : SE := fun e h => match d e h with
  | .ok (.ref n) _ => (match h[n]? with
    | some (.dct kvs) => lcItems d vs tg t s n kvs e (h.set n .opq)
    | _ => .bad)
  | _ => .bad
/-- enumerate, zip -/
def numW : Nat → List W → List W
  | _, [] => []
  | n, w :: ws => .tup [.int n, w] :: numW (n + 1) ws
def iEnu (r : SA) : SI := fun e h => (r e h).bind fun xs h => match xs with
  | [x] => ofO ((itemsOf x).map (numW 0)) h
  | _ => .bad
def zipW : List W → List W → List W
  | a :: as, b :: bs => .tup [a, b] :: zipW as bs
  | _, _ => []
def lstV : W → Option (List W)
  | .lst ws => some ws
  | _ => none
def zipOf (xs : List W) (h : Hea) : R (List W) := match xs with
  | [.lst as, .lst bs] => .ok (zipW as bs) h
  | _ => .bad
def iZip2 (r : SA) : SI := fun e h => (r e h).bind zipOf

/-! ### statements -/
def kBad : SS := fun _ _ => .bad
def kNx : SS := fun e h => .nx e h
def kSeq (a b : SS) : SS := fun e h => match a e h with
  | .nx e h => b e h
  | o => o
def kIf (t : ST) (a b : SS) : SS := fun e h => (t e h).out e fun c h => if c = true then a e h else b e h
def kRet (a : SE) : SS := fun e h => (a e h).out e fun x h => .rt x h
/-- return of a name that this frame alone holds -/
def kRetO (i : Nat) : SS := fun e h => match e[i]? with
  | some (some (_, w)) => .rt w h
  | _ => .bad
def kRetN : SS := fun _ h => .rt .non h
def kBr : SS := fun e h => .br e h
def kCt : SS := fun e h => .ct e h
def kExp (a : SE) : SS := fun e h => (a e h).out e fun _ h => .nx e h
def kSet (i : Nat) (a : SE) : SS := fun e h => (a e h).out e fun x h => if Nat.blt i e.length then .nx (e.set i (some (false, x))) h else .bad
/-- name = a list or dict just made, that this frame alone holds -/
def kSetO (i : Nat) (a : SE) : SS := fun e h => (a e h).out e fun x h => if Nat.blt i e.length then (match x with
  | .lst _ => .nx (e.set i (some (true, x))) h
  | .dct _ => .nx (e.set i (some (true, x))) h
  | _ => .bad) else .bad
/-- a, *b = a tuple -/
def kStar (i j : Nat) (a : SE) : SS := fun e h => (a e h).out e fun x h => match x with
  | .tup (w :: ws) => if Nat.blt i e.length && Nat.blt j e.length then .nx ((e.set i (some (false, w))).set j (some (false, .lst ws))) h else .bad
  | _ => .bad
def kTg (tg : Tg) (a : SE) : SS := fun e h => (a e h).out e fun x h => match tg x e with
  | some e' => .nx e' h
  | none => .bad
/-- a, b = x, y -/
def kPar (i j : Nat) (r : SA) : SS := fun e h => (r e h).out e fun xs h => match xs with
  | [x, y] => if Nat.blt i e.length && Nat.blt j e.length then .nx ((e.set i (some (false, x))).set j (some (false, y))) h else .bad
  | _ => .bad
def kPar3 (i j l : Nat) (r : SA) : SS := fun e h => (r e h).out e fun xs h => match xs with
  | [x, y, z] => if Nat.blt i e.length && Nat.blt j e.length && Nat.blt l e.length then .nx (((e.set i (some (false, x))).set j (some (false, y))).set l (some (false, z))) h else .bad
  | _ => .bad
/-- what a frame alone held may be kept elsewhere from now on -/
def kFz (i : Nat) : SS := fun e h => match e[i]? with
  | some (some (_, w)) => .nx (e.set i (some (false, w))) h
  | _ => .bad
/-- the heap with an attribute stored -/
def putAt (cl : Nat) (f : Nm) (x y : W) (h : Hea) : Option Hea := match x with
  | .ref n => (match h[n]? with
    | some (.ins c fs) => if c == cl && Nat.blt fs.length 100 then some (h.set n (.ins c (putN f y fs))) else none
    | _ => none)
  | _ => none
/-! targets that may be attributes -/
abbrev TgH := W → Env → Hea → Option (Env × Hea)
abbrev TgHs := List W → Env → Hea → Option (Env × Hea)
def hNm (i : Nat) : TgH := fun w e h => match gNm i w e with
  | some e' => some (e', h)
  | none => none
def hPut (cl : Nat) (f : Nm) (w : W) (e : Env) (r : R W) : Option (Env × Hea) := match r with
  | .ok x h => (match putAt cl f x w h with
    | some h2 => some (e, h2)
    | none => none)
  | _ => none
def hAt (cl : Nat) (o : SE) (f : Nm) : TgH := fun w e h => hPut cl f w e (o e h)
def hsNil : TgHs := fun ws e h => match ws with
  | [] => some (e, h)
  | _ => none
def hsCons (t : TgH) (u : TgHs) : TgHs := fun ws e h => match ws with
  | w :: r => (match t w e h with
    | some p => u r p.1 p.2
    | none => none)
  | [] => none
def hTu (n : Nat) (t : TgHs) : TgH := fun w e h => match w with
  | .tup ws => if ws.length == n then t ws e h else none
  | _ => none
def kTgH (g : TgH) (a : SE) : SS := fun e h => (a e h).out e fun x h => match g x e h with
  | some p => .nx p.1 p.2
  | none => .bad
def oNx (e : Env) (o : Option Hea) : Out := match o with
  | some h => .nx e h
  | none => .bad
def kFld (cl : Nat) (o : SE) (f : Nm) (v : SE) : SS := fun e h => (v e h).out e fun y h => (o e h).out e fun x h => oNx e (putAt cl f x y h)
/-- o.f op= v -/
def kFldA (g : G2) (cl : Nat) (o : SE) (f : Nm) (v : SE) : SS := fun e h => (o e h).out e fun x h => (ofO (fldOf cl f x h) h).out e fun old h => (v e h).out e fun y h => (g old y h).out e fun z h => oNx e (putAt cl f x z h)
def slotL (i : Nat) (e : Env) : Option (List W) := match e[i]? with
  | some (some (true, .lst ws)) => some ws
  | _ => none
def slotD (i : Nat) (e : Env) : Option (List (W × W)) := match e[i]? with
  | some (some (true, .dct ws)) => some ws
  | _ => none
def heapL (x : W) (h : Hea) : Option (Nat × List W) := match x with
  | .ref n => (match h[n]? with
    | some (.lst ws) => some (n, ws)
    | _ => none)
  | _ => none
def heapD (x : W) (h : Hea) : Option (Nat × List (W × W)) := match x with
  | .ref n => (match h[n]? with
    | some (.dct ws) => some (n, ws)
    | _ => none)
  | _ => none
/-- x.append(a), x held by this frame alone -/
def kAppO (i : Nat) (a : SE) : SS := fun e h => match slotL i e with
  | some ws => (a e h).out e fun y h => if Nat.blt ws.length line then .nx (e.set i (some (true, .lst (ws ++ [y])))) h else .bad
  | none => .bad
def appAt (x y : W) (e : Env) (h : Hea) : Out := match heapL x h with
  | some (n, ws) => if Nat.blt ws.length line then .nx e (h.set n (.lst (ws ++ [y]))) else .bad
  | none => .bad
def kApp (o a : SE) : SS := fun e h => (o e h).out e fun x h => match heapL x h with
  | some _ => (a e h).out e fun y h => appAt x y e h
  | none => .bad
def extAt (x y : W) (e : Env) (h : Hea) : Out := match heapL x h with
  | some (n, ws) => (match y with
    | .lst zs => if Nat.ble (ws.length + zs.length) line then .nx e (h.set n (.lst (ws ++ zs))) else .bad
    | _ => .bad)
  | none => .bad
def kExt (o a : SE) : SS := fun e h => (o e h).out e fun x h => match heapL x h with
  | some _ => (a e h).out e fun y h => extAt x y e h
  | none => .bad
def intP (n : Nat) (k : W) : Option Nat := match k with
  | .int j => place n j
  | _ => none
/-- x[k] = v, x a list, a dict that this frame alone holds -/
def kIxOL (i : Nat) (k v : SE) : SS := fun e h => match slotL i e with
  | some ws => (v e h).out e fun y h => (k e h).out e fun kv h => (match intP ws.length kv with
    | some p => .nx (e.set i (some (true, .lst (ws.set p y)))) h
    | none => .bad)
  | none => .bad
def kIxOD (i : Nat) (k v : SE) : SS := fun e h => match slotD i e with
  | some kvs => (v e h).out e fun y h => (k e h).out e fun kv h => if keyW kv && Nat.blt kvs.length line then .nx (e.set i (some (true, .dct (putK kv y kvs)))) h else .bad
  | none => .bad
/-- o[k] = v, o shared -/
def setAtL (x kv y : W) (e : Env) (h : Hea) : Out := match heapL x h with
  | some (n, ws) => (match intP ws.length kv with
    | some p => .nx e (h.set n (.lst (ws.set p y)))
    | none => .bad)
  | none => .bad
def kIxL (o k v : SE) : SS := fun e h => (v e h).out e fun y h => (o e h).out e fun x h => (k e h).out e fun kv h => setAtL x kv y e h
def setAtD (x kv y : W) (e : Env) (h : Hea) : Out := match heapD x h with
  | some (n, kvs) => if keyW kv && Nat.blt kvs.length line then .nx e (h.set n (.dct (putK kv y kvs))) else .bad
  | none => .bad
def kIxD (o k v : SE) : SS := fun e h => (v e h).out e fun y h => (o e h).out e fun x h => (k e h).out e fun kv h => setAtD x kv y e h
def dropW (k : W) : List (W × W) → List (W × W)
  | [] => []
  | (g, x) :: r => if eqW g k then dropW k r else (g, x) :: dropW k r
/-- d.pop(k), d shared; what comes is not kept -/
def popAt (x kv : W) (e : Env) (h : Hea) : Out := match heapD x h with
  | some (n, kvs) => if keyW kv && (lookK kv kvs).isSome then .nx e (h.set n (.dct (dropW kv kvs))) else .bad
  | none => .bad
def kPop (o k : SE) : SS := fun e h => (o e h).out e fun x h => match heapD x h with
  | some _ => (k e h).out e fun kv h => popAt x kv e h
  | none => .bad
def kRaise (c : Nat) (a : SE) : SS := fun e h => (a e h).out e fun x h => .ex c x e h
def forL (tg : Tg) (b : SS) : List W → Env → Hea → Out
  | [], e, h => .nx e h
  | w :: ws, e, h => match tg w e with
    | none => .bad
    | some e => match b e h with
      | .nx e h => forL tg b ws e h
      | .ct e h => forL tg b ws e h
      | .br e h => .nx e h
      | o => o
def kFor (it : SI) (tg : Tg) (b : SS) : SS := fun e h => (it e h).out e fun ws h => forL tg b ws e h
def whileL (t : ST) (b : SS) : Nat → Env → Hea → Out
  | 0, _, _ => .bad
  | n + 1, e, h => (t e h).out e fun c h => if c = true then (match b e h with
    | .nx e h => whileL t b n e h
    | .ct e h => whileL t b n e h
    | .br e h => .nx e h
    | o => o) else .nx e h
def kWhile (fuel : Nat) (t : ST) (b : SS) : SS := fun e h => whileL t b fuel e h

/-! ### defs -/
/-- a def: how many names, how many of them are parameters; whether what it lays stays; its body -/
structure Df where
  slots : Nat
  ps : Nat
  keep : Bool
  body : Calls → SS
def starts (n : Nat) (ws : List W) : Env := ws.map (fun w => some (false, w)) ++ List.replicate (n - ws.length) none
def ends (keep : Bool) (n : Nat) (w : W) (h : Hea) : R W := if keep then .ok w h else match settle n h w with
  | some v => if cleanH n (h.take n) then .ok v (h.take n) else .bad
  | none => .bad
def Df.run (d : Df) (c : Calls) (ws : List W) (h : Hea) : R W := if ws.length == d.ps then (match d.body c (starts d.slots ws) h with
  | .nx _ h' => ends d.keep h.length .non h'
  | .rt w h' => ends d.keep h.length w h'
  | .ex c p _ h' => if d.keep then .ex c p h' else (if cleanW h.length p && cleanH h.length (h'.take h.length) then .ex c p (h'.take h.length) else .bad)
  | _ => .bad) else .bad
def callF (P : Nat → Option Df) : Nat → Calls
  | 0 => fun _ _ _ => .bad
  | k + 1 => fun f ws h => match P f with
    | some d => d.run (callF P k) ws h
    | none => .bad
end MP
end

section
set_option Elab.async false
set_option linter.all false
set_option maxRecDepth 100000
set_option autoImplicit false
/-! MP2: how the small semantics' values, heap and names lie in HandS's. -/
namespace MP
open PySem PySem.Spec PyProof.Rows L2
abbrev Sg := L2.St
abbrev toS (l : Nm) : Str := ⟨l.toArray⟩
theorem toS_inj {a b : Nm} (h : toS a = toS b) : a = b := by
  have e : a.toArray.toList = b.toArray.toList := congrArg (fun s : Str => s.cps.toList) h
  simpa using e
theorem toS_eq {a b : Nm} : (toS a = toS b) ↔ a = b := ⟨toS_inj, fun h => by rw [h]⟩
/-! ### the names of classes -/
def cnames : List Str := ["LaneError", "BadProgram", "BadText", "BadCount", "BadInputs", "BadCells", "BadOrder", "NotFree", "BadPaper", "BadPlace", "Looker", "Flat", "Maker", "Sight", "Words", "Reader", "Lane", "Hall"]
def cname (c : Nat) : Str := cnames.getD c "?"
/-- where a class stands -/
def ca (K : PySem.W.Frag) (c : Nat) : Addr := He.ga K (cname c)
/-! ### values -/
def KTup (K : PySem.W.Frag) (a : Addr) (xs : List V) : Prop :=
  ∃ (o : Obj) (its : Array Value) (n : Nat), K.lookup a = some o ∧ o.cls = .type "tuple" ∧ o.data = .seq its n ∧ its.size ≤ sizeLine ∧ Vals xs its.toList
def TupAt (K : PySem.W.Frag) (N : Addr → Prop) (H : Hp) (a : Addr) (xs : List V) : Prop := (Rd H a (.tup xs) ∧ ¬ N a) ∨ KTup K a xs
def LstAt (N : Addr → Prop) (H : Hp) (a : Addr) (xs : List V) : Prop := H a = some (.lst xs) ∧ ¬ N a
def KLst (K : PySem.W.Frag) (a : Addr) (xs : List V) : Prop :=
  ∃ (o : Obj) (its : Array Value) (n : Nat), K.lookup a = some o ∧ o.cls = .type "list" ∧ o.dict = none ∧ o.data = .seq its n ∧ its.size ≤ sizeLine ∧ Vals xs its.toList
def SclAt (K : PySem.W.Frag) (N : Addr → Prop) (H : Hp) (a : Addr) (xs : List V) : Prop := (Rd H a (.lst xs) ∧ ¬ N a) ∨ KLst K a xs
theorem SclAt.sq {K : PySem.W.Frag} {N : Addr → Prop} {H : Hp} {a : Addr} {xs : List V} (h : SclAt K N H a xs) : SqL K H a xs := h.elim (fun x => .inl x.1) .inr
theorem TupAt.sq {K : PySem.W.Frag} {N : Addr → Prop} {H : Hp} {a : Addr} {xs : List V} (h : TupAt K N H a xs) : SqT K H a xs := h.elim (fun x => .inl x.1) .inr
def wKey : Key → W
  | .inl i => .int i
  | .inr s => .str s.cps.toList

mutual
inductive RW (K : PySem.W.Frag) (mu : List Addr) (N : Addr → Prop) (H : Hp) : W → V → Prop
  | non : RW K mu N H .non .non
  | bl (b : Bool) : RW K mu N H (.bl b) (.bl b)
  | int (i : Int) : RW K mu N H (.int i) (.int i)
  | str (s : Nm) : RW K mu N H (.str s) (.str (toS s))
  | tup {a : Addr} {xs : List V} {ws : List W} : TupAt K N H a xs → RWs K mu N H ws xs → RW K mu N H (.tup ws) (.ref a)
  | lst {a : Addr} {xs : List V} {ws : List W} : LstAt N H a xs → RWs K mu N H ws xs → RW K mu N H (.lst ws) (.ref a)
  | scr {a : Addr} {ns : List Int} : SclAt K N H a (ns.map V.int) → RW K mu N H (.scr ns) (.ref a)
  | dK {a : Addr} {kvs : List (Key × V)} {ws : List W} : H a = some (.dK kvs) → ¬ N a → RWs K mu N H ws (kvs.map (·.2)) → RW K mu N H (.dct ((kvs.map fun p => wKey p.1).zip ws)) (.ref a)
  | ref {n : Nat} {a : Addr} : mu[n]? = some a → RW K mu N H (.ref n) (.ref a)
inductive RWs (K : PySem.W.Frag) (mu : List Addr) (N : Addr → Prop) (H : Hp) : List W → List V → Prop
  | nil : RWs K mu N H [] []
  | cons {w : W} {v : V} {ws : List W} {vs : List V} : RW K mu N H w v → RWs K mu N H ws vs → RWs K mu N H (w :: ws) (v :: vs)
end
section
variable {K : PySem.W.Frag} {mu mu' : List Addr} {N N' : Addr → Prop} {H H' : Hp}
/-- what stands outside N stays -/
def Keeps (N : Addr → Prop) (H : Hp) (N' : Addr → Prop) (H' : Hp) : Prop := ∀ a o, H a = some o → ¬ N a → H' a = some o ∧ ¬ N' a
def Longer (mu mu' : List Addr) : Prop := ∀ (n : Nat) (a : Addr), mu[n]? = some a → mu'[n]? = some a
theorem Keeps.refl (N : Addr → Prop) (H : Hp) : Keeps N H N H := fun _ _ h n => ⟨h, n⟩
theorem Keeps.rd (k : Keeps N H N' H') {a : Addr} {o : HO} (r : Rd H a o) (n : ¬ N a) : Rd H' a o ∧ ¬ N' a := by
  rcases r with r | ⟨ob, r⟩
  · exact ⟨.inl (k a _ r n).1, (k a _ r n).2⟩
  · exact ⟨.inr ⟨ob, (k a _ r n).1⟩, (k a _ r n).2⟩
theorem SclAt.keep (k : Keeps N H N' H') {a : Addr} {xs : List V} (t : SclAt K N H a xs) : SclAt K N' H' a xs := by
  rcases t with ⟨r, n⟩ | t
  · exact .inl (k.rd r n)
  · exact .inr t
theorem TupAt.keep (k : Keeps N H N' H') {a : Addr} {xs : List V} (t : TupAt K N H a xs) : TupAt K N' H' a xs := by
  rcases t with ⟨r, n⟩ | t
  · exact .inl (k.rd r n)
  · exact .inr t
mutual
theorem RW.keep (k : Keeps N H N' H') (l : Longer mu mu') : ∀ {w : W} {v : V}, RW K mu N H w v → RW K mu' N' H' w v
  | _, _, .non => .non
  | _, _, .bl b => .bl b
  | _, _, .int i => .int i
  | _, _, .str s => .str s
  | _, _, .tup t r => .tup (t.keep k) (RWs.keep k l r)
  | _, _, .lst t r => .lst (k _ _ t.1 t.2) (RWs.keep k l r)
  | _, _, .scr t => .scr (t.keep k)
  | _, _, .dK h n r => .dK (k _ _ h n).1 (k _ _ h n).2 (RWs.keep k l r)
  | _, _, .ref h => .ref (l _ _ h)
theorem RWs.keep (k : Keeps N H N' H') (l : Longer mu mu') : ∀ {ws : List W} {vs : List V}, RWs K mu N H ws vs → RWs K mu' N' H' ws vs
  | _, _, .nil => .nil
  | _, _, .cons r t => .cons (RW.keep k l r) (RWs.keep k l t)
end
theorem ints_rw {K : PySem.W.Frag} {mu : List Addr} {N : Addr → Prop} {H : Hp} : ∀ (l : List Int), RWs K mu N H (l.map .int) (l.map .int)
  | [] => .nil
  | i :: l => .cons (.int i) (ints_rw l)
theorem RWs.length : ∀ {ws : List W} {vs : List V}, RWs K mu N H ws vs → ws.length = vs.length
  | _, _, .nil => rfl
  | _, _, .cons _ t => congrArg Nat.succ (RWs.length t)
theorem RWs.get : ∀ {ws : List W} {vs : List V} {i : Nat} {w : W}, RWs K mu N H ws vs → ws[i]? = some w → ∃ v, vs[i]? = some v ∧ RW K mu N H w v
  | _, _, _, _, .nil, e => by simp at e
  | _, _, 0, _, .cons r _, e => by simp at e; subst e; exact ⟨_, rfl, r⟩
  | _, _, i + 1, w, .cons _ t, e => by
    obtain ⟨v, h1, h2⟩ := RWs.get (i := i) (w := w) t (by simpa using e)
    exact ⟨v, by simpa using h1, h2⟩
theorem RWs.append : ∀ {ws us : List W} {vs xs : List V}, RWs K mu N H ws vs → RWs K mu N H us xs → RWs K mu N H (ws ++ us) (vs ++ xs)
  | _, _, _, _, .nil, s => s
  | _, _, _, _, .cons r t, s => .cons r (RWs.append t s)
theorem RWs.take : ∀ {ws : List W} {vs : List V} (n : Nat), RWs K mu N H ws vs → RWs K mu N H (ws.take n) (vs.take n)
  | _, _, 0, _ => .nil
  | _, _, _ + 1, .nil => .nil
  | _, _, n + 1, .cons r t => .cons r (RWs.take n t)
theorem RWs.drop : ∀ {ws : List W} {vs : List V} (n : Nat), RWs K mu N H ws vs → RWs K mu N H (ws.drop n) (vs.drop n)
  | _, _, 0, r => r
  | _, _, _ + 1, .nil => .nil
  | _, _, n + 1, .cons _ t => RWs.drop n t
theorem RWs.set {w : W} {v : V} (r : RW K mu N H w v) : ∀ {ws : List W} {vs : List V} (i : Nat), RWs K mu N H ws vs → RWs K mu N H (ws.set i w) (vs.set i v)
  | _, _, _, .nil => .nil
  | _, _, 0, .cons _ t => .cons r t
  | _, _, i + 1, .cons q t => .cons q (RWs.set r i t)
theorem RWs.inv_nil {vs : List V} (h : RWs K mu N H [] vs) : vs = [] := by cases h; rfl
theorem RWs.inv_cons {w : W} {ws : List W} {vs : List V} (h : RWs K mu N H (w :: ws) vs) : ∃ v r, vs = v :: r ∧ RW K mu N H w v ∧ RWs K mu N H ws r := by
  cases h with
  | cons a b => exact ⟨_, _, rfl, a, b⟩
theorem RW.inv_int {i : Int} {v : V} (h : RW K mu N H (.int i) v) : v = .int i := by cases h; rfl
theorem RW.inv_bl {b : Bool} {v : V} (h : RW K mu N H (.bl b) v) : v = .bl b := by cases h; rfl
theorem RW.inv_str {s : Nm} {v : V} (h : RW K mu N H (.str s) v) : v = .str (toS s) := by cases h; rfl
theorem RW.inv_non {v : V} (h : RW K mu N H .non v) : v = .non := by cases h; rfl
theorem RW.inv_ref {n : Nat} {v : V} (h : RW K mu N H (.ref n) v) : ∃ a, v = .ref a ∧ mu[n]? = some a := by cases h with | ref h => exact ⟨_, rfl, h⟩
theorem RW.inv_tup {ws : List W} {v : V} (h : RW K mu N H (.tup ws) v) : ∃ a xs, v = .ref a ∧ TupAt K N H a xs ∧ RWs K mu N H ws xs := by cases h with | tup t r => exact ⟨_, _, rfl, t, r⟩
theorem RW.inv_lst {ws : List W} {v : V} (h : RW K mu N H (.lst ws) v) : ∃ a xs, v = .ref a ∧ LstAt N H a xs ∧ RWs K mu N H ws xs := by cases h with | lst t r => exact ⟨_, _, rfl, t, r⟩
end
/-! ### what an object holds -/
/-- a list's, a dict's content, wherever it stands -/
inductive RC (K : PySem.W.Frag) (mu : List Addr) (N : Addr → Prop) (H : Hp) (a : Addr) : W → Prop
  | lst {xs : List V} {ws : List W} : H a = some (.lst xs) → RWs K mu N H ws xs → RC K mu N H a (.lst ws)
  | dK {kvs : List (Key × V)} {ws : List W} : H a = some (.dK kvs) → RWs K mu N H ws (kvs.map (·.2)) → RC K mu N H a (.dct ((kvs.map fun p => wKey p.1).zip ws))
inductive RFs (K : PySem.W.Frag) (mu : List Addr) (N : Addr → Prop) (H : Hp) : List (Nm × W) → List (Str × V) → Prop
  | nil : RFs K mu N H [] []
  | cons {f : Nm} {w : W} {v : V} {fs : List (Nm × W)} {gs : List (Str × V)} : RW K mu N H w v → RFs K mu N H fs gs → RFs K mu N H ((f, w) :: fs) ((toS f, v) :: gs)
inductive RO (K : PySem.W.Frag) (mu : List Addr) (N : Addr → Prop) (H : Hp) (a : Addr) : O → Prop
  | lst {ws : List W} : RC K mu N H a (.lst ws) → RO K mu N H a (.lst ws)
  | dct {kvs : List (W × W)} : RC K mu N H a (.dct kvs) → RO K mu N H a (.dct kvs)
  | ins {c : Nat} {dx : Addr} {fs : List (Nm × W)} {gs : List (Str × V)} : H a = some (.ins (ca K c) dx gs) → RFs K mu N H fs gs → RO K mu N H a (.ins c fs)
  | opq {od : Obj} {u : HO} : H a = some (.frz od u) → RO K mu N H a .opq
section
variable {K : PySem.W.Frag} {mu mu' : List Addr} {N N' : Addr → Prop} {H H' : Hp} {a : Addr}
theorem RC.there {w : W} (h : RC K mu N H a w) : (H a).isSome = true := by
  cases h with
  | lst h _ => rw [h]; rfl
  | dK h _ => rw [h]; rfl
theorem RO.there {o : O} (h : RO K mu N H a o) : (H a).isSome = true := by
  cases h with
  | lst h => exact h.there
  | dct h => exact h.there
  | ins h _ => rw [h]; rfl
  | opq h => rw [h]; rfl
theorem RC.keep (k : Keeps N H N' H') (l : Longer mu mu') (e : H' a = H a) {w : W} (h : RC K mu N H a w) : RC K mu' N' H' a w := by
  cases h with
  | lst h r => exact .lst (e.trans h) (r.keep k l)
  | dK h r => exact .dK (e.trans h) (r.keep k l)
theorem RFs.keep (k : Keeps N H N' H') (l : Longer mu mu') : ∀ {fs : List (Nm × W)} {gs : List (Str × V)}, RFs K mu N H fs gs → RFs K mu' N' H' fs gs
  | _, _, .nil => .nil
  | _, _, .cons r t => .cons (r.keep k l) (RFs.keep k l t)
theorem RO.keep (k : Keeps N H N' H') (l : Longer mu mu') (e : H' a = H a) {o : O} (h : RO K mu N H a o) : RO K mu' N' H' a o := by
  cases h with
  | lst h => exact .lst (h.keep k l e)
  | dct h => exact .dct (h.keep k l e)
  | ins h r => exact .ins (e.trans h) (r.keep k l)
  | opq h => exact .opq (e.trans h)
/-- a value that stands outside N -/
theorem RC.val {w : W} (h : RC K mu N H a w) (n : ¬ N a) : RW K mu N H w (.ref a) := by
  cases h with
  | lst h r => exact .lst ⟨h, n⟩ r
  | dK h r => exact .dK h n r
theorem RFs.look {f : Nm} {w : W} : ∀ {fs : List (Nm × W)} {gs : List (Str × V)}, RFs K mu N H fs gs → lookN f fs = some w → ∃ v, gs.lookup (toS f) = some v ∧ RW K mu N H w v
  | _, _, .nil, e => by simp [lookN] at e
  | _, _, .cons (f := g) (w := x) (fs := fs) r t, e => by
    unfold lookN at e
    rw [List.lookup_cons]
    by_cases q : (g == f) = true
    · rw [if_pos q] at e
      cases e
      have e1 : g = f := by simpa using q
      have e2 : (toS f == toS g) = true := by rw [e1]; simp
      rw [e2]
      exact ⟨_, rfl, r⟩
    · rw [if_neg q] at e
      have e1 : ¬ g = f := by simpa using q
      have e2 : (toS f == toS g) = false := by
        rw [beq_eq_false_iff_ne]
        exact fun z => e1 (toS_inj z).symm
      rw [e2]
      exact RFs.look t e
theorem RFs.put {f : Nm} {w : W} {v : V} (r : RW K mu N H w v) : ∀ {fs : List (Nm × W)} {gs : List (Str × V)}, RFs K mu N H fs gs → RFs K mu N H (putN f w fs) (L2.putF (toS f) v gs)
  | _, _, .nil => .cons r .nil
  | _, _, .cons (f := g) (w := x) (v := y) q t => by
    unfold putN L2.putF
    by_cases z : (g == f) = true
    · have e1 : g = f := by simpa using z
      rw [if_pos z, if_pos (by rw [e1])]
      exact .cons r t
    · have e1 : ¬ g = f := by simpa using z
      rw [if_neg z, if_neg (fun q => e1 (toS_inj q))]
      exact .cons q (RFs.put r t)
theorem RFs.length : ∀ {fs : List (Nm × W)} {gs : List (Str × V)}, RFs K mu N H fs gs → gs.length = fs.length
  | _, _, .nil => rfl
  | _, _, .cons _ t => congrArg Nat.succ (RFs.length t)
end
/-! ### the ghost: what others hold, where the small heap's objects stand, what this frame's names alone hold -/
structure Gh where
  n0 : Addr → Prop
  mu : List Addr
  own : Nat → Option Addr
def Gh.M (G : Gh) (a : Addr) : Prop := a ∈ G.mu ∨ ∃ i, G.own i = some a
def Gh.N (G : Gh) (a : Addr) : Prop := G.n0 a ∨ G.M a
abbrev Gh.at (G : Gh) (mu : List Addr) : Gh := { G with mu := mu }
/-- the small heap lies in H -/
structure RH (K : PySem.W.Frag) (mu : List Addr) (N : Addr → Prop) (h : Hea) (H : Hp) : Prop where
  len : h.length = mu.length
  obj : ∀ (n : Nat) (o : O) (a : Addr), h[n]? = some o → mu[n]? = some a → RO K mu N H a o
  nd : mu.Nodup
/-- a frame's state -/
structure Rel (K : PySem.W.Frag) (G : Gh) (env : Env) (h : Hea) (σ : Sg) (H : Hp) : Prop where
  len : env.length = σ.length
  val : ∀ (i : Nat) (w : W), env[i]? = some (some (false, w)) → ∃ v, σ[i]? = some (some v) ∧ RW K G.mu G.N H w v
  own : ∀ (i : Nat) (w : W), env[i]? = some (some (true, w)) → ∃ a, G.own i = some a ∧ σ[i]? = some (some (V.ref a)) ∧ RC K G.mu G.N H a w
  hp : RH K G.mu G.N h H
  oi : ∀ (i j : Nat) (a : Addr), G.own i = some a → G.own j = some a → i = j
  om : ∀ (i : Nat) (a : Addr), G.own i = some a → a ∉ G.mu ∧ ¬ G.n0 a ∧ (H a).isSome = true
  mn : ∀ a ∈ G.mu, ¬ G.n0 a
  nn : ∀ a, G.n0 a → (H a).isSome = true
/-- what is frozen stays -/
def Fz (H H' : Hp) : Prop := ∀ (a : Addr) (od : Obj) (u : HO), H a = some (.frz od u) → H' a = some (.frz od u)
/-- from one state to a later one, over statements -/
structure StepS (G : Gh) (H : Hp) (G' : Gh) (H' : Hp) : Prop where
  keep : Keeps G.M H G'.M H'
  mu : Longer G.mu G'.mu
  n0 : G'.n0 = G.n0
  fz : Fz H H'
/-- .. within an expression: what this frame's names alone hold is as it was -/
structure Step (G : Gh) (H : Hp) (G' : Gh) (H' : Hp) : Prop extends StepS G H G' H' where
  ow : G'.own = G.own
  oc : ∀ (i : Nat) (a : Addr), G.own i = some a → H' a = H a
section
variable {K : PySem.W.Frag} {G G1 G2 : Gh} {env : Env} {h h1 : Hea} {σ : Sg} {H H1 H2 : Hp}
theorem Longer.refl (mu : List Addr) : Longer mu mu := fun _ _ h => h
theorem StepS.refl (G : Gh) (H : Hp) : StepS G H G H := ⟨Keeps.refl _ _, Longer.refl _, rfl, fun _ _ _ e => e⟩
theorem Step.refl (G : Gh) (H : Hp) : Step G H G H := ⟨StepS.refl G H, rfl, fun _ _ _ => rfl⟩
theorem StepS.trans (a : StepS G H G1 H1) (b : StepS G1 H1 G2 H2) : StepS G H G2 H2 :=
  ⟨fun x o e n => let ⟨e1, n1⟩ := a.keep x o e n; b.keep x o e1 n1, fun n x e => b.mu n x (a.mu n x e), b.n0.trans a.n0, fun x od u e => b.fz x od u (a.fz x od u e)⟩
theorem Step.trans (a : Step G H G1 H1) (b : Step G1 H1 G2 H2) : Step G H G2 H2 :=
  ⟨a.toStepS.trans b.toStepS, b.ow.trans a.ow, fun i x e => (b.oc i x (by rw [a.ow]; exact e)).trans (a.oc i x e)⟩
theorem StepS.keepN (a : StepS G H G1 H1) : Keeps G.N H G1.N H1 := fun x o e n => by
  obtain ⟨e1, n1⟩ := a.keep x o e fun m => n (.inr m)
  refine ⟨e1, fun z => ?_⟩
  rcases z with z | z
  · rw [a.n0] at z; exact n (.inl z)
  · exact n1 z
theorem RW.step (s : StepS G H G1 H1) {w : W} {v : V} (r : RW K G.mu G.N H w v) : RW K G1.mu G1.N H1 w v := r.keep s.keepN s.mu
theorem RWs.step (s : StepS G H G1 H1) {w : List W} {v : List V} (r : RWs K G.mu G.N H w v) : RWs K G1.mu G1.N H1 w v := r.keep s.keepN s.mu
theorem RH.there {mu : List Addr} {N : Addr → Prop} (r : RH K mu N h H) {a : Addr} (m : a ∈ mu) : (H a).isSome = true := by
  obtain ⟨n, hn, e⟩ := List.mem_iff_getElem.mp m
  have hl : n < h.length := by rw [r.len]; exact hn
  exact (r.obj n h[n] a (List.getElem?_eq_getElem hl) (by rw [List.getElem?_eq_getElem hn, e])).there
theorem Rel.there (R : Rel K G env h σ H) {a : Addr} (n : G.N a) : (H a).isSome = true := by
  rcases n with n | n | ⟨i, n⟩
  · exact R.nn a n
  · exact R.hp.there n
  · exact (R.om i a n).2.2
theorem Rel.fresh (R : Rel K G env h σ H) {a : Addr} (e : H a = none) : ¬ G.N a := fun n => by
  have := R.there n
  rw [e] at this; cases this
theorem Rel.freshM (R : Rel K G env h σ H) {a : Addr} (e : H a = none) : ¬ G.M a := fun n => R.fresh e (.inr n)
/-- a new object that nobody may change -/
theorem keeps_upd {N : Addr → Prop} {p : Addr} {o : HO} (e : H p = none) : Keeps N H N (upd H p o) := fun a u h n => ⟨by rw [upd_ne (ne_of_none h e)]; exact h, n⟩
theorem some_ne {a p : Addr} (h : (H a).isSome = true) (e : H p = none) : a ≠ p := by
  intro z; subst z; rw [e] at h; cases h
theorem RH.upd {mu : List Addr} {N : Addr → Prop} {p : Addr} {o : HO} (r : RH K mu N h H) (e : H p = none) : RH K mu N h (upd H p o) :=
  ⟨r.len, fun n ob a e1 e2 => (r.obj n ob a e1 e2).keep (keeps_upd e) (Longer.refl _) (upd_ne (some_ne (r.obj n ob a e1 e2).there e)), r.nd⟩
theorem Rel.upd {p : Addr} {o : HO} (R : Rel K G env h σ H) (e : H p = none) : Rel K G env h σ (upd H p o) where
  len := R.len
  val := fun i w x => let ⟨v, e1, r⟩ := R.val i w x; ⟨v, e1, r.keep (keeps_upd e) (Longer.refl _)⟩
  own := fun i w x => let ⟨a, e1, e2, r⟩ := R.own i w x; ⟨a, e1, e2, r.keep (keeps_upd e) (Longer.refl _) (upd_ne (some_ne r.there e))⟩
  hp := R.hp.upd e
  oi := R.oi
  om := fun i a x => let ⟨n1, n2, n3⟩ := R.om i a x; ⟨n1, n2, by rw [upd_ne (some_ne n3 e)]; exact n3⟩
  mn := R.mn
  nn := fun a x => by rw [upd_ne (some_ne (R.nn a x) e)]; exact R.nn a x
theorem Step.upd {p : Addr} {o : HO} (R : Rel K G env h σ H) (e : H p = none) : Step G H G (upd H p o) := ⟨⟨keeps_upd e, Longer.refl _, rfl, fun x od u q => by rw [upd_ne (ne_of_none q e)]; exact q⟩, rfl, fun i a x => upd_ne (some_ne (R.om i a x).2.2 e)⟩
/-- all that is tracked stays, more may be -/
def Ext (H H' : Hp) : Prop := ∀ a o, H a = some o → H' a = some o
theorem Ext.refl (H : Hp) : Ext H H := fun _ _ h => h
theorem Ext.upd {p : Addr} {o : HO} (e : H p = none) : Ext H (upd H p o) := fun a u q => by rw [upd_ne (ne_of_none q e)]; exact q
theorem Ext.keeps {N : Addr → Prop} (x : Ext H H1) : Keeps N H N H1 := fun a o e n => ⟨x a o e, n⟩
theorem Ext.eq {a : Addr} (x : Ext H H1) (e : (H a).isSome = true) : H1 a = H a := by
  cases q : H a with
  | none => rw [q] at e; cases e
  | some o => exact x a o q
theorem Rel.ext (R : Rel K G env h σ H) (x : Ext H H1) : Rel K G env h σ H1 where
  len := R.len
  val := fun i w y => let ⟨v, e1, r⟩ := R.val i w y; ⟨v, e1, r.keep x.keeps (Longer.refl _)⟩
  own := fun i w y => let ⟨a, e1, e2, r⟩ := R.own i w y; ⟨a, e1, e2, r.keep x.keeps (Longer.refl _) (x.eq r.there)⟩
  hp := ⟨R.hp.len, fun n o a e1 e2 => (R.hp.obj n o a e1 e2).keep x.keeps (Longer.refl _) (x.eq (R.hp.obj n o a e1 e2).there), R.hp.nd⟩
  oi := R.oi
  om := fun i a y => let ⟨n1, n2, n3⟩ := R.om i a y; ⟨n1, n2, by rw [x.eq n3]; exact n3⟩
  mn := R.mn
  nn := fun a y => by rw [x.eq (R.nn a y)]; exact R.nn a y
theorem Step.ext (R : Rel K G env h σ H) (x : Ext H H1) : Step G H G H1 := ⟨⟨x.keeps, Longer.refl _, rfl, fun y od u q => x y _ q⟩, rfl, fun i a y => x.eq (R.om i a y).2.2⟩
/-- names as they were, behind what only changed the heap -/
theorem Rel.back {env2 : Env} {σ2 : Sg} {G1 : Gh} (R : Rel K G env h σ H) (S : Step G H G1 H1) (R1 : Rel K G1 env2 h1 σ2 H1) : Rel K G1 env h1 σ H1 where
  len := R.len
  val := fun i w y => let ⟨v, e1, r⟩ := R.val i w y; ⟨v, e1, r.step S.toStepS⟩
  own := fun i w y => let ⟨a, e1, e2, r⟩ := R.own i w y; ⟨a, by rw [S.ow]; exact e1, e2, r.keep S.keepN S.mu (S.oc i a e1)⟩
  hp := R1.hp
  oi := R1.oi
  om := R1.om
  mn := R1.mn
  nn := R1.nn
/-- a name is stored -/
theorem Rel.set {i : Nat} {w : W} {v : V} (R : Rel K G env h σ H) (r : RW K G.mu G.N H w v) (hi : i < env.length) : Rel K G (env.set i (some (false, w))) h (σ.set i (some v)) H where
  len := by rw [List.length_set, List.length_set]; exact R.len
  val := fun j u y => by
    by_cases e : j = i
    · subst e
      rw [List.getElem?_set_self hi] at y
      cases y
      exact ⟨v, by rw [List.getElem?_set_self (by rw [← R.len]; exact hi)], r⟩
    · rw [List.getElem?_set_ne (Ne.symm e)] at y
      obtain ⟨z, e1, q⟩ := R.val j u y
      exact ⟨z, by rw [List.getElem?_set_ne (Ne.symm e)]; exact e1, q⟩
  own := fun j u y => by
    by_cases e : j = i
    · subst e
      rw [List.getElem?_set_self hi] at y
      cases y
    · rw [List.getElem?_set_ne (Ne.symm e)] at y
      obtain ⟨a, e0, e1, q⟩ := R.own j u y
      exact ⟨a, e0, by rw [List.getElem?_set_ne (Ne.symm e)]; exact e1, q⟩
  hp := R.hp
  oi := R.oi
  om := R.om
  mn := R.mn
  nn := R.nn
/-- the slots too may hold less -/
theorem Rel.weak {env' : Env} {σ' : Sg} (R : Rel K G env h σ H) (hl : env'.length = σ'.length) (hv : ∀ (i : Nat) (b : Bool) (w : W), env'[i]? = some (some (b, w)) → env[i]? = some (some (b, w)) ∧ σ'[i]? = σ[i]?) : Rel K G env' h σ' H where
  len := hl
  val := fun i w x => let ⟨e1, e2⟩ := hv i _ w x; let ⟨v, e3, r⟩ := R.val i w e1; ⟨v, e2.trans e3, r⟩
  own := fun i w x => let ⟨e1, e2⟩ := hv i _ w x; let ⟨a, e3, e4, r⟩ := R.own i w e1; ⟨a, e3, e2.trans e4, r⟩
  hp := R.hp
  oi := R.oi
  om := R.om
  mn := R.mn
  nn := R.nn
end
end MP
end

section
set_option Elab.async false
set_option linter.all false
set_option maxRecDepth 100000
set_option autoImplicit false
/-! MP3: the judgements: an expression, a test, an argument list is worth what the small semantics says. -/
namespace MP
open PySem PySem.Spec PyProof.Rows L2
/-- a value that is looked at: an own one of this frame too -/
def RT (K : PySem.W.Frag) (G : Gh) (env : MP.Env) (H : Hp) (w : W) (v : V) : Prop := RW K G.mu G.N H w v ∨ ∃ i a, env[i]? = some (some (true, w)) ∧ G.own i = some a ∧ v = .ref a
abbrev RL (α β : Type) := Gh → MP.Env → Hp → α → β → Prop
abbrev rW (K : PySem.W.Frag) : RL W V := fun G _ H w v => RW K G.mu G.N H w v
abbrev rT (K : PySem.W.Frag) : RL W V := fun G env H w v => RT K G env H w v
abbrev rWs (K : PySem.W.Frag) : RL (List W) (List V) := fun G _ H w v => RWs K G.mu G.N H w v
abbrev rB : RL Bool Bool := fun _ _ _ a b => a = b
/-- where the value of an exception of the class c stands -/
def xfld (c : Nat) : Str := if c = 1 then "place" else "row"
/-- an exception of the class c with the value p -/
def EX (K : PySem.W.Frag) (G : Gh) (H : Hp) (c : Nat) (p : W) (cls : Value) (d : Option Addr) : Prop :=
  cls = .ref (ca K c) ∧ ((p = .non ∧ d = none) ∨ ∃ (dd : Addr) (v : V), d = some dd ∧ H dd = some (.xd [(xfld c, v)]) ∧ RW K G.mu G.N H p v)
def PostR (K : PySem.W.Frag) (G : Gh) (env : MP.Env) (σ : Sg) (H : Hp) (Wx : WX) {α β : Type} (rel : RL α β) (Q : β → Hp → Prop) : R α → Prop
  | .ok w h' => ∀ (v : β) (mu' : List Addr) (H' : Hp), Rel K (G.at mu') env h' σ H' → Step G H (G.at mu') H' → rel (G.at mu') env H' w v → Q v H'
  | .ex c p h' => ∀ (cls : Value) (d : Option Addr) (mu' : List Addr) (H' : Hp), Rel K (G.at mu') env h' σ H' → Step G H (G.at mu') H' → EX K (G.at mu') H' c p cls d → Wx cls d σ H'
  | .bad => False
def tR (K : PySem.W.Frag) (Wx : WX) {α β : Type} (rel : RL α β) (s : MP.Env → Hea → R α) : Sg → Hp → (β → Hp → Prop) → Prop := fun σ H Q =>
  ∃ G env h, Rel K G env h σ H ∧ PostR K G env σ H Wx rel Q (s env h)
section
variable {K : PySem.W.Frag} {G : Gh} {env : MP.Env} {h h1 : Hea} {σ : Sg} {H H1 : Hp} {Wx : WX} {mu mu1 : List Addr}
theorem PostR.later {α β : Type} {rel : RL α β} {Q : β → Hp → Prop} {r : R α} (p : PostR K G env σ H Wx rel Q r) (S : Step G H (G.at mu1) H1) : PostR K (G.at mu1) env σ H1 Wx rel Q r := by
  cases r with
  | ok w h => exact fun v mu' H' R S' rr => p v mu' H' R (S.trans S') rr
  | ex c q h => exact fun cls d mu' H' R S' e => p cls d mu' H' R (S.trans S') e
  | bad => exact p
theorem PostR.mono {α β : Type} {rel : RL α β} {Q Q' : β → Hp → Prop} {r : R α} (p : PostR K G env σ H Wx rel Q r) (hq : ∀ v H, Q v H → Q' v H) : PostR K G env σ H Wx rel Q' r := by
  cases r with
  | ok w h => exact fun v mu' H' R S' rr => hq _ _ (p v mu' H' R S' rr)
  | ex c q h => exact p
  | bad => exact p
theorem PostR.bind {α β α' β' : Type} {rel : RL α β} {rel' : RL α' β'} {Q : β' → Hp → Prop} {r : R α} {f : α → Hea → R α'} (p : PostR K G env σ H Wx rel' Q (r.bind f)) :
    PostR K G env σ H Wx rel (fun v H1 => ∃ w h1 mu1, Rel K (G.at mu1) env h1 σ H1 ∧ Step G H (G.at mu1) H1 ∧ rel (G.at mu1) env H1 w v ∧ PostR K (G.at mu1) env σ H1 Wx rel' Q (f w h1)) r := by
  cases r with
  | ok w h => exact fun v mu' H' R S rr => ⟨w, h, mu', R, S, rr, PostR.later p S⟩
  | ex c q h => exact p
  | bad => exact p
/-- what comes with the state as it is -/
theorem PostR.here {α β : Type} {rel : RL α β} {Q : β → Hp → Prop} {w : α} {v : β} (p : PostR K G env σ H Wx rel Q (.ok w h)) (R : Rel K G env h σ H) (rr : rel G env H w v) : Q v H := p v G.mu H R (Step.refl _ _) rr
/-- .. behind a new object -/
theorem PostR.new {α β : Type} {rel : RL α β} {Q : β → Hp → Prop} {w : α} {v : β} {q : Addr} {o : HO} (p : PostR K G env σ H Wx rel Q (.ok w h)) (R : Rel K G env h σ H) (e : H q = none) (rr : rel G env (L2.upd H q o) w v) : Q v (L2.upd H q o) := p v G.mu _ (R.upd e) (Step.upd R e) rr
theorem PostR.hW {Q : VK} {w : W} {v : V} (p : PostR K G env σ H Wx (rW K) Q (.ok w h)) (R : Rel K G env h σ H) (rr : RW K G.mu G.N H w v) : Q v H := p v G.mu H R (Step.refl _ _) rr
theorem PostR.nW {Q : VK} {w : W} {v : V} {q : Addr} {o : HO} (p : PostR K G env σ H Wx (rW K) Q (.ok w h)) (R : Rel K G env h σ H) (e : H q = none) (rr : RW K G.mu G.N (L2.upd H q o) w v) : Q v (L2.upd H q o) := p v G.mu _ (R.upd e) (Step.upd R e) rr
theorem RT.of {w : W} {v : V} (r : RW K G.mu G.N H w v) : RT K G env H w v := .inl r
theorem RT.step {w : W} {v : V} (S : Step G H (G.at mu1) H1) (R1 : Rel K (G.at mu1) env h1 σ H1) (r : RT K G env H w v) : RT K (G.at mu1) env H1 w v := by
  rcases r with r | r
  · exact .inl (r.step S.toStepS)
  · exact .inr r
theorem rd_lst {a : Addr} {xs : List V} (h : Rd H a (.lst xs)) : SqL K H a xs := .inl h
theorem RT.inv_int {i : Int} {v : V} (R : Rel K G env h σ H) (r : RT K G env H (.int i) v) : v = .int i := by
  rcases r with r | ⟨i, a, e, o, rfl⟩
  · exact r.inv_int
  · obtain ⟨a', e1, _, c⟩ := R.own _ _ e
    cases c
theorem RT.inv_bl {i : Bool} {v : V} (R : Rel K G env h σ H) (r : RT K G env H (.bl i) v) : v = .bl i := by
  rcases r with r | ⟨i, a, e, o, rfl⟩
  · exact r.inv_bl
  · obtain ⟨a', e1, _, c⟩ := R.own _ _ e
    cases c
theorem RT.inv_str {s : Nm} {v : V} (R : Rel K G env h σ H) (r : RT K G env H (.str s) v) : v = .str (toS s) := by
  rcases r with r | ⟨i, a, e, o, rfl⟩
  · exact r.inv_str
  · obtain ⟨a', e1, _, c⟩ := R.own _ _ e
    cases c
theorem RT.inv_non {v : V} (R : Rel K G env h σ H) (r : RT K G env H .non v) : v = .non := by
  rcases r with r | ⟨i, a, e, o, rfl⟩
  · exact r.inv_non
  · obtain ⟨a', e1, _, c⟩ := R.own _ _ e
    cases c
theorem RT.inv_ref {n : Nat} {v : V} (R : Rel K G env h σ H) (r : RT K G env H (.ref n) v) : ∃ a, v = .ref a ∧ G.mu[n]? = some a := by
  rcases r with r | ⟨i, a, e, o, rfl⟩
  · exact r.inv_ref
  · obtain ⟨a', e1, _, c⟩ := R.own _ _ e
    cases c
theorem RT.inv_tup {ws : List W} {v : V} (R : Rel K G env h σ H) (r : RT K G env H (.tup ws) v) : ∃ a xs, v = .ref a ∧ TupAt K G.N H a xs ∧ RWs K G.mu G.N H ws xs := by
  rcases r with r | ⟨i, a, e, o, rfl⟩
  · exact r.inv_tup
  · obtain ⟨a', e1, _, c⟩ := R.own _ _ e
    cases c
theorem RT.inv_lst {ws : List W} {v : V} (R : Rel K G env h σ H) (r : RT K G env H (.lst ws) v) : ∃ a xs, v = .ref a ∧ H a = some (.lst xs) ∧ RWs K G.mu G.N H ws xs := by
  rcases r with r | ⟨i, a, e, o, rfl⟩
  · obtain ⟨a, xs, e, l, q⟩ := r.inv_lst
    exact ⟨a, xs, e, l.1, q⟩
  · obtain ⟨a', e1, _, c⟩ := R.own _ _ e
    rw [o] at e1
    cases e1
    cases c with
    | lst e q => exact ⟨a, _, rfl, e, q⟩
/-- a dict's content, wherever it stands -/
inductive DAt (K : PySem.W.Frag) (G : Gh) (H : Hp) (a : Addr) : List (W × W) → Prop
  | dK {kvs : List (L2.Key × V)} {ws : List W} : H a = some (.dK kvs) → RWs K G.mu G.N H ws (kvs.map (·.2)) → DAt K G H a ((kvs.map fun p => wKey p.1).zip ws)
theorem RC.dat {a : Addr} {kvs : List (W × W)} (c : RC K G.mu G.N H a (.dct kvs)) : DAt K G H a kvs := by
  cases c with
  | dK e r => exact .dK e r
theorem RT.inv_dct {kvs : List (W × W)} {v : V} (R : Rel K G env h σ H) (r : RT K G env H (.dct kvs) v) : ∃ a, v = .ref a ∧ DAt K G H a kvs := by
  rcases r with r | ⟨i, a, e, o, rfl⟩
  · cases r with
    | dK e n r => exact ⟨_, rfl, .dK e r⟩
  · obtain ⟨a', e1, _, c⟩ := R.own _ _ e
    rw [o] at e1
    cases e1
    exact ⟨a, rfl, c.dat⟩
/-- what is walked, indexed: a tuple or a list -/
theorem RT.seq {w : W} {ws : List W} {v : V} (R : Rel K G env h σ H) (r : RT K G env H w v) (e : seqOf w h = some ws) :
    ∃ a xs, v = .ref a ∧ RWs K G.mu G.N H ws xs ∧ ((SqT K H a xs ∧ w = .tup ws) ∨ (SqL K H a xs ∧ ((w = .lst ws ∧ H a = some (.lst xs)) ∨ (∃ ns, w = .scr ns) ∨ ∃ n, w = .ref n ∧ h[n]? = some (.lst ws) ∧ G.mu[n]? = some a ∧ H a = some (.lst xs)))) := by
  cases w with
  | tup us =>
    cases e
    obtain ⟨a, xs, e1, t, q⟩ := RT.inv_tup R r
    exact ⟨a, xs, e1, q, .inl ⟨t.sq, rfl⟩⟩
  | lst us =>
    cases e
    obtain ⟨a, xs, e1, t, q⟩ := RT.inv_lst R r
    exact ⟨a, xs, e1, q, .inr ⟨SqL.of t, .inl ⟨rfl, t⟩⟩⟩
  | scr us =>
    cases e
    rcases r with r | ⟨i, a, e, o, rfl⟩
    · cases r with
      | scr t => exact ⟨_, _, rfl, ints_rw us, .inr ⟨t.sq, .inr (.inl ⟨us, rfl⟩)⟩⟩
    · obtain ⟨a', e1, _, c⟩ := R.own _ _ e
      cases c
  | ref n =>
    obtain ⟨a, e1, m⟩ := RT.inv_ref R r
    have e' : (match h[n]? with
      | some (O.lst ws) => some ws
      | _ => none) = some ws := e
    cases q : h[n]? with
    | none => rw [q] at e'; cases e'
    | some o =>
      rw [q] at e'
      cases o with
      | lst us =>
        cases e'
        cases R.hp.obj n _ a q m with
        | lst c => cases c with
          | lst eh rr => exact ⟨a, _, e1, rr, .inr ⟨SqL.of eh, .inr (.inr ⟨n, rfl, q, m, eh⟩)⟩⟩
      | dct _ => cases e'
      | ins _ _ => cases e'
      | opq => cases e'
  | _ => cases e
theorem RT.dat {w : W} {kvs : List (W × W)} {v : V} (R : Rel K G env h σ H) (r : RT K G env H w v) (e : dctOf w h = some kvs) : ∃ a, v = .ref a ∧ DAt K G H a kvs := by
  cases w with
  | dct us =>
    cases e
    exact RT.inv_dct R r
  | ref n =>
    obtain ⟨a, e1, m⟩ := RT.inv_ref R r
    have e' : (match h[n]? with
      | some (O.dct kvs) => some kvs
      | _ => none) = some kvs := e
    cases q : h[n]? with
    | none => rw [q] at e'; cases e'
    | some o =>
      rw [q] at e'
      cases o with
      | dct us =>
        cases e'
        cases R.hp.obj n _ a q m with
        | dct c => exact ⟨a, e1, c.dat⟩
      | lst _ => cases e'
      | ins _ _ => cases e'
      | opq => cases e'
  | _ => cases e
end

/-! ### the judgements -/
abbrev PEW (X : Cx) (Wx : WX) (e : Expr) (s : SE) : Prop := PE X e (tR X.K Wx (rW X.K) s)
abbrev PET (X : Cx) (Wx : WX) (e : Expr) (s : SE) : Prop := PE X e (tR X.K Wx (rT X.K) s)
abbrev PTW (X : Cx) (Wx : WX) (e : Expr) (s : MP.ST) : Prop := PT X e (tR X.K Wx rB s)
abbrev PAW (X : Cx) (Wx : WX) (es : List Expr) (s : SA) : Prop := PA X es (tR X.K Wx (rWs X.K) s)
section
variable {X : Cx} {Wx : WX} {e : Expr} {s : SE}
theorem PE.weak {t t' : TE} (p : PE X e t) (h : ∀ σ H Q, t' σ H Q → t σ H Q) : PE X e t' := ⟨fun pins s σ H Q I q => p.run pins s σ H Q I (h σ H Q q)⟩
theorem PT.weak {t t' : TT} (p : PT X e t) (h : ∀ σ H Q, t' σ H Q → t σ H Q) : PT X e t' := ⟨fun pins s σ H Q I q => p.run pins s σ H Q I (h σ H Q q)⟩
theorem PA.weak {es : List Expr} {t t' : TA} (p : PA X es t) (h : ∀ σ H Q, t' σ H Q → t σ H Q) : PA X es t' := ⟨fun pos pins s σ H Q I q => p.run pos pins s σ H Q I (h σ H Q q)⟩
theorem PEW.t (p : PEW X Wx e s) : PET X Wx e s := PE.weak p fun σ H Q ⟨G, env, h, R, q⟩ => ⟨G, env, h, R, by
  generalize s env h = r at q ⊢
  cases r with
  | ok w h' => exact fun v mu' H' R' S rr => q v mu' H' R' S (.inl rr)
  | ex c p h' => exact q
  | bad => exact q⟩
/-- code that is never come to -/
theorem pw_bad : PEW X Wx e sBad := ⟨fun _ _ _ _ _ _ ⟨_, _, _, _, q⟩ => q.elim⟩
theorem pt_bad : PTW X Wx e (fun _ _ => .bad) := ⟨fun _ _ _ _ _ _ ⟨_, _, _, _, q⟩ => q.elim⟩
/-! constants -/
theorem pw_int {i : Int} {j : Nat} {pos : Pos} : PEW X Wx (.Constant (.int i) j pos) (sC (.int i)) := PE.weak pe_int fun σ H Q ⟨G, env, h, R, q⟩ => q.here R (.int i)
theorem pw_bl {i : Bool} {j : Nat} {pos : Pos} : PEW X Wx (.Constant (.bool i) j pos) (sC (.bl i)) := PE.weak pe_bl fun σ H Q ⟨G, env, h, R, q⟩ => q.here R (.bl i)
theorem pw_non {j : Nat} {pos : Pos} : PEW X Wx (.Constant .none j pos) (sC .non) := PE.weak pe_non fun σ H Q ⟨G, env, h, R, q⟩ => q.here R .non
theorem pw_str {x : Str} {l : Nm} {j : Nat} {pos : Pos} (hx : x = toS l) : PEW X Wx (.Constant (.str x) j pos) (sC (.str l)) := PE.weak pe_str fun σ H Q ⟨G, env, h, R, q⟩ => q.here (v := V.str x) R (hx ▸ RW.str l)
/-- a constant of the module -/
theorem pw_gi {x : Str} {u : Value} {i : Int} {pos : Pos} (hg : Gl X x) (hm : X.mg x = some u) (r : RelV (.int i) u) (hd : (x == ("__debug__" : Str)) = false) : PEW X Wx (.Name x pos) (sC (.int i)) := PE.weak (pe_glob hg hm r hd) fun σ H Q ⟨G, env, h, R, q⟩ => q.here R (.int i)
theorem pw_gs {x : Str} {l : Nm} {u : Value} {pos : Pos} (hg : Gl X x) (hm : X.mg x = some u) (r : RelV (.str (toS l)) u) (hd : (x == ("__debug__" : Str)) = false) : PEW X Wx (.Name x pos) (sC (.str l)) := PE.weak (pe_glob hg hm r hd) fun σ H Q ⟨G, env, h, R, q⟩ => q.here R (.str l)
/-- a module's tuple: whatever stands for it at every state -/
theorem pw_gt {x : Str} {a : Addr} {w : W} {u : Value} {pos : Pos} (hg : Gl X x) (hm : X.mg x = some u) (r : RelV (.ref a) u) (hd : (x == ("__debug__" : Str)) = false) (hw : ∀ mu N H, RW X.K mu N H w (.ref a)) : PEW X Wx (.Name x pos) (sC w) := PE.weak (pe_glob hg hm r hd) fun σ H Q ⟨G, env, h, R, q⟩ => q.here R (hw _ _ _)
/-! names -/
theorem pw_v {i : Nat} {x : Str} {pos : Pos} (hN : X.N[i]? = some x) (hv : Vis X.env.scope x) (hd : (x == ("__debug__" : Str)) = false) (hcd : (x == ("__classdict__" : Str)) = false) : PEW X Wx (.Name x pos) (sV i) :=
  PE.weak (pe_var hN hv hd hcd) fun σ H Q ⟨G, env, h, R, q⟩ => by
    have q' : PostR X.K G env σ H Wx (rW X.K) Q (match env[i]? with
      | some (some (false, w)) => MP.R.ok w h
      | _ => MP.R.bad) := q
    cases e : env[i]? with
    | none => rw [e] at q'; exact q'.elim
    | some o =>
      rw [e] at q'
      cases o with
      | none => exact q'.elim
      | some p =>
        obtain ⟨b, w⟩ := p
        cases b with
        | true => exact q'.elim
        | false =>
          obtain ⟨v, e1, r⟩ := R.val i w e
          exact ⟨v, e1, PostR.here q' R r⟩
theorem pt_v {i : Nat} {x : Str} {pos : Pos} (hN : X.N[i]? = some x) (hv : Vis X.env.scope x) (hd : (x == ("__debug__" : Str)) = false) (hcd : (x == ("__classdict__" : Str)) = false) : PET X Wx (.Name x pos) (sVT i) :=
  PE.weak (pe_var hN hv hd hcd) fun σ H Q ⟨G, env, h, R, q⟩ => by
    have q' : PostR X.K G env σ H Wx (rT X.K) Q (match env[i]? with
      | some (some (_, w)) => MP.R.ok w h
      | _ => MP.R.bad) := q
    cases e : env[i]? with
    | none => rw [e] at q'; exact q'.elim
    | some o =>
      rw [e] at q'
      cases o with
      | none => exact q'.elim
      | some p =>
        obtain ⟨b, w⟩ := p
        cases b with
        | true =>
          obtain ⟨a, e1, e2, r⟩ := R.own i w e
          exact ⟨.ref a, e2, PostR.here q' R (.inr ⟨i, a, e, e1, rfl⟩)⟩
        | false =>
          obtain ⟨v, e1, r⟩ := R.val i w e
          exact ⟨v, e1, PostR.here q' R (.inl r)⟩
end
/-! ### two operands -/
/-- g is what r asks -/
def OpC (X : Cx) (g : G2) (r : R2) : Prop := ∀ (G : Gh) (env : MP.Env) (h : Hea) (σ : Sg) (H : Hp) (Wx : WX) (Q : VK) (x y : W) (v u : V), Rel X.K G env h σ H → RT X.K G env H x v → RT X.K G env H y u → PostR X.K G env σ H Wx (rW X.K) Q (g x y h) → r v u H Q
section
variable {X : Cx} {Wx : WX} {a b c : Expr} {sa sb sc : SE} {pos : Pos}
theorem tOp_of {g : G2} {r : R2} (o : OpC X g r) {σ : Sg} {H : Hp} {Q : VK} (t : tR X.K Wx (rW X.K) (sB g sa sb) σ H Q) : tOp r (tR X.K Wx (rT X.K) sa) (tR X.K Wx (rT X.K) sb) σ H Q := by
  obtain ⟨G, env, h, R, q⟩ := t
  refine ⟨G, env, h, R, (PostR.bind (rel := rT X.K) q).mono fun v H1 ⟨w, h1, mu1, R1, S1, r1, q1⟩ => ?_⟩
  refine ⟨_, env, h1, R1, (PostR.bind (rel := rT X.K) q1).mono fun u H2 ⟨z, h2, mu2, R2, S2, r2, q2⟩ => ?_⟩
  exact o _ env h2 σ H2 Wx Q w z v u R2 (r1.step S2 R2) r2 q2
theorem pw_op {op : Operator} {g : G2} {r : R2} (ho : OpR X (binaryOp op) r) (o : OpC X g r) (ha : PET X Wx a sa) (hb : PET X Wx b sb) : PEW X Wx (.BinOp a op b pos) (sB g sa sb) := PE.weak (pe_op ho ha hb) fun σ H Q t => tOp_of o t
theorem pw_cmp {op : CmpOp} {g : G2} {r : R2} (ho : OpR X (compareOp op) r) (o : OpC X g r) (ha : PET X Wx a sa) (hb : PET X Wx b sb) (hm : behindInMarks op b = false) : PEW X Wx (.Compare a [op] [b] pos) (sB g sa sb) := PE.weak (pe_cmpR ho ha hb hm) fun σ H Q t => tOp_of o t
/-- a value that is a truth, as a test -/
theorem tV_of {K : PySem.W.Frag} {σ : Sg} {H : Hp} {Q : Bool → Hp → Prop} (t : tR K Wx rB (tV sa) σ H Q) : tR K Wx (rT K) sa σ H fun x H1 => ∃ k, x = .bl k ∧ Q k H1 := by
  obtain ⟨G, env, h, R, q⟩ := t
  refine ⟨G, env, h, R, (PostR.bind (rel := rT K) q).mono fun v H1 ⟨w, h1, mu1, R1, S1, r1, q1⟩ => ?_⟩
  cases w with
  | bl b => exact ⟨b, RT.inv_bl R1 r1, PostR.here (v := b) q1 R1 rfl⟩
  | _ => exact q1.elim
theorem ptw_val (ha : PET X Wx a sa) (he : ∀ whole, isTrue a X.env whole = (do let v ← whole; standAt a.pos; holding [v] (truthy v))) : PTW X Wx a (tV sa) := PT.weak (pt_val ha he) fun σ H Q t => tV_of t
theorem ptw_cmp {op : CmpOp} {g : G2} {r : R2} (ho : OpR X (compareOp op) r) (o : OpC X g r) (ha : PET X Wx a sa) (hb : PET X Wx b sb) (hm : behindInMarks op b = false) : PTW X Wx (.Compare a [op] [b] pos) (tV (sB g sa sb)) :=
  PT.weak (pt_cmpR ho ha hb hm) fun σ H Q t => tOp_of o (by
    obtain ⟨G, env, h, R, q⟩ := tV_of t
    refine ⟨G, env, h, R, ?_⟩
    generalize sB g sa sb env h = rr at q ⊢
    cases rr with
    | ok w h' => exact fun v mu' H' R' S r => q v mu' H' R' S (.inl r)
    | ex c p h' => exact q
    | bad => exact q)
end
end MP
end

section
set_option Elab.async false
set_option linter.all false
set_option maxRecDepth 100000
set_option maxHeartbeats 4000000
set_option autoImplicit false
/-! MPT: tuple * int for small ints. -/
namespace MP
open PySem PySem.Spec PyProof.Rows L2
theorem tup_mul1 (l : Addr) (its : Array Value) (n : Nat) (dd : Option Addr) (sl : Array (Option Value)) (u : Tok) :
    Meets (Builtin.«tuple.__mul__» ⟨[.ref l, .int 1 u], []⟩) (fun _ R st => st.heap.get? l = some { cls := .type "tuple", dict := dd, data := .seq its n, slots := sl } ∧ R (.ok (.ret (Value.ref l))) st) :=
  .of_wp fun prog w A R s h => by
    obtain ⟨hp, g, d, tk, os⟩ := s
    obtain ⟨hl, h⟩ := h
    have f1 := AutoSeq1.idx_int
    wp_walk using wpAny_loadPart' hl
    repeat (first
      | (refine wpAny_ite_false (by decide) ?_; wp_walk using wpAny_loadPart' hl)
      | (refine wpAny_ite_true (by simp) ?_; wp_walk using wpAny_loadPart' hl))
    all_goals first | exact ⟨_, rfl, h⟩ | skip
theorem tup_mul0 (l : Addr) (its : Array Value) (n : Nat) (dd : Option Addr) (sl : Array (Option Value)) (x : Int) (u : Tok) (c0 : (decide (x < -(2 ^ 63)) || decide (x ≥ 2 ^ 63)) = false) (c1 : (its.isEmpty || x == 1) = false) (c2 : (decide (x ≤ 0) || its.isEmpty) = true) :
    Meets (Builtin.«tuple.__mul__» ⟨[.ref l, .int x u], []⟩) (fun _ R st => st.heap.get? l = some { cls := .type "tuple", dict := dd, data := .seq its n, slots := sl } ∧
      R (.ok (.ret (Value.ref st.heap.objs.size))) { st with heap := st.heap.push { cls := Value.type "tuple", data := Data.seq #[] }, toks := st.toks }) :=
  .of_wp fun prog w A R s h => by
    obtain ⟨hp, g, d, tk, os⟩ := s
    obtain ⟨hl, h⟩ := h
    have f1 := AutoSeq1.idx_int
    wp_walk using wpAny_loadPart' hl
    repeat (first
      | (refine wpAny_ite_false (decide_eq_false (by rw [c0]; exact Bool.false_ne_true)) ?_; wp_walk using wpAny_loadPart' hl)
      | (refine wpAny_ite_false (decide_eq_false (by rw [c1]; exact Bool.false_ne_true)) ?_; wp_walk using wpAny_loadPart' hl)
      | (refine wpAny_ite_true (decide_eq_true c2) ?_; wp_walk using wpAny_loadPart' hl))
    all_goals first | exact ⟨_, rfl, h⟩ | skip
def rRepT1 (K : PySem.W.Frag) : R2 := fun x y H Q => ∃ l xs, x = .ref l ∧ y = .int 1 ∧ SqT K H l xs ∧ Q (.ref l) H
def rRepT0 (K : PySem.W.Frag) : R2 := fun x y H Q => ∃ l k xs, x = .ref l ∧ y = .int k ∧ SqT K H l xs ∧ xs ≠ [] ∧ -1000 ≤ k ∧ k ≤ 0 ∧ ∀ p, H p = none → Q (.ref p) (L2.upd H p (.tup []))
section
variable {X : Cx}
theorem op_repT1 : OpR X (binaryOp .Mult) (rRepT1 X.K) := by
  intro pins s σ H x y v u Q I rx ry h
  obtain ⟨l, xs, rfl, rfl, hT, q⟩ := h
  cases rx
  obtain ⟨t, rfl⟩ := ry
  obtain ⟨its, r, ⟨⟨cls, dd, data, sl⟩, ho, hc, n, hd⟩, hs⟩ := I.tuple hT
  simp only at hc hd
  subst hc hd
  refine wpAny_binaryOp_repeat_ref (T := "tuple") (U := "int") (by decide) ⟨_, ho, rfl⟩ (fun s' => typeIs_int s' 1 t) noFill_tuple_mul F.fills_int_mul F.slot_int_rmul repeat_tuple F.slot_int_index.lookup
    (call_meets F.slot_int_rmul (typeIs_int s 1 t) F.entry_int_rmul (F.args_int_rmul_2 _ _) (int_rmul_tuple 1 t l its.toArray n dd sl)
      ⟨ho, rfl, ⟨_, ho, rfl⟩, call_meets F.slot_tuple_mul ⟨_, ho, rfl⟩ F.entry_tuple_mul (F.args_tuple_mul_2 _ _) (tup_mul1 l its.toArray n dd sl t) ⟨ho, ?_⟩⟩)
  exact ⟨.ref l, H, I, rfl, q⟩
theorem op_repT0 : OpR X (binaryOp .Mult) (rRepT0 X.K) := by
  intro pins s σ H x y v u Q I rx ry h
  obtain ⟨l, k, xs, rfl, rfl, hT, hne, h1, h2, q⟩ := h
  cases rx
  obtain ⟨t, rfl⟩ := ry
  obtain ⟨its, r, ⟨⟨cls, dd, data, sl⟩, ho, hc, n, hd⟩, hs⟩ := I.tuple hT
  simp only at hc hd
  subst hc hd
  have hle : its.length = xs.length := r.length.symm
  have hi : its.toArray.isEmpty = false := by
    cases its with
    | nil => exact absurd (List.eq_nil_of_length_eq_zero hle.symm) hne
    | cons a b => rfl
  have c0 : (decide (k < -(2 ^ 63)) || decide (k ≥ 2 ^ 63)) = false := by
    rw [decide_eq_false (by omega), decide_eq_false (by omega)] <;> rfl
  have c1 : (its.toArray.isEmpty || k == 1) = false := by
    rw [hi, Bool.false_or]
    exact beq_eq_false_iff_ne.mpr (by omega)
  have c2 : (decide (k ≤ 0) || its.toArray.isEmpty) = true := by
    rw [decide_eq_true h2]
    rfl
  refine wpAny_binaryOp_repeat_ref (T := "tuple") (U := "int") (by decide) ⟨_, ho, rfl⟩ (fun s' => typeIs_int s' k t) noFill_tuple_mul F.fills_int_mul F.slot_int_rmul repeat_tuple F.slot_int_index.lookup
    (call_meets F.slot_int_rmul (typeIs_int s k t) F.entry_int_rmul (F.args_int_rmul_2 _ _) (int_rmul_tuple k t l its.toArray n dd sl)
      ⟨ho, rfl, ⟨_, ho, rfl⟩, call_meets F.slot_tuple_mul ⟨_, ho, rfl⟩ F.entry_tuple_mul (F.args_tuple_mul_2 _ _) (tup_mul0 l its.toArray n dd sl k t c0 c1 c2) ⟨ho, ?_⟩⟩)
  refine ⟨.ref s.heap.objs.size, _, I.laid (t' := s.toks) (o := .tup []) (fun b ob q => Heap.get?_push_of_some _ q) (Nat.le_refl _) ?_, rfl, q _ (I.hok.fresh (Nat.le_refl _))⟩
  exact ⟨Nat.zero_le _, [], .nil, IsTup.new _ _⟩
end
end MP
end

section
set_option Elab.async false
set_option linter.all false
set_option maxRecDepth 100000
set_option autoImplicit false
/-! MP4: the operators. -/
namespace MP
open PySem PySem.Spec PyProof.Rows L2
section
variable {X : Cx}
theorem oc_or {g : G2} {r r' : R2} (o : OpC X g r) : OpC X g (fun x y H Q => r x y H Q ∨ r' x y H Q) := fun G env h σ H Wx Q x y v u R rx ry p => .inl (o G env h σ H Wx Q x y v u R rx ry p)
theorem line_eq : line = sizeLine := by decide
theorem le_line {n : Nat} (h : Nat.ble n line = true) : n ≤ sizeLine := by rw [← line_eq]; exact Nat.le_of_ble_eq_true h
theorem lt_line {n : Nat} (h : Nat.blt n line = true) : n < sizeLine := by rw [← line_eq]; exact Nat.le_of_ble_eq_true h
/-- two ints -/
theorem oc_gI {f : Int → Int → W} {g : Int → Int → V} (e : ∀ i j K mu N H, RW K mu N H (f i j) (g i j)) : OpC X (gI f) (rI0 g) := by
  intro G env h σ H Wx Q x y v u R rx ry p
  cases x with
  | int i =>
    cases y with
    | int j => exact ⟨i, j, RT.inv_int R rx, RT.inv_int R ry, PostR.hW (w := f i j) p R (e i j _ _ _ _)⟩
    | _ => exact False.elim p
  | _ => exact False.elim p
theorem oc_sub : OpC X gSub (rI0 fun i j => .int (i - j)) := oc_gI fun i j _ _ _ _ => .int _
theorem oc_le : OpC X gLe (rI0 fun i j => .bl (decide (i ≤ j))) := oc_gI fun i j _ _ _ _ => .bl _
theorem oc_gt : OpC X gGt (rI0 fun i j => .bl (decide (j < i))) := oc_gI fun i j _ _ _ _ => .bl _
theorem oc_ge : OpC X gGe (rI0 fun i j => .bl (decide (j ≤ i))) := oc_gI fun i j _ _ _ _ => .bl _
def rLt4 : R2 := fun x y H Q => rI0 (fun i j => .bl (decide (i < j))) x y H Q ∨ (fun x y H Q => ∃ i j, x = V.str i ∧ y = .str j ∧ Q (.bl (decide (i.cps.toList < j.cps.toList))) H) x y H Q
theorem op_lt4 : OpR X (compareOp .Lt) rLt4 := op_lt.or op_lt_str
theorem oc_lt : OpC X gLt rLt4 := by
  intro G env h σ H Wx Q x y v u R rx ry p
  cases x with
  | int i =>
    cases y with
    | int j => exact .inl ⟨i, j, RT.inv_int R rx, RT.inv_int R ry, PostR.hW (w := .bl (decide (i < j))) p R (.bl _)⟩
    | _ => exact False.elim p
  | str i =>
    cases y with
    | str j => exact .inr ⟨toS i, toS j, RT.inv_str R rx, RT.inv_str R ry, PostR.hW (w := .bl (ltS i j)) p R (.bl _)⟩
    | _ => exact False.elim p
  | _ => exact False.elim p
theorem str_app (a b : Nm) : toS a ++ toS b = toS (a ++ b) := by
  have h := SX.S_cat a b
  exact h
theorem str_len (a : Nm) : (toS a).length = a.length := by simp [Str.length]
def rAdd4 (K : PySem.W.Frag) : R2 := fun x y H Q => rI0 (fun i j => .int (i + j)) x y H Q ∨ ((fun x y H Q => ∃ i j, x = V.str i ∧ y = .str j ∧ i.length + j.length ≤ sizeLine ∧ Q (.str (i ++ j)) H) x y H Q ∨ (rCat x y H Q ∨ rCatA K x y H Q))
theorem op_add4 : OpR X (binaryOp .Add) (rAdd4 X.K) := op_add.or (op_add_str.or (op_cat.or op_catA))
theorem RT.dirL {K : PySem.W.Frag} {G : Gh} {env : MP.Env} {h : Hea} {σ : Sg} {H : Hp} {x : W} {v : V} {ws : List W} (R : Rel K G env h σ H) (r : RT K G env H x v) (e : MP.dirL x h = some ws) : ∃ a xs, v = .ref a ∧ H a = some (.lst xs) ∧ RWs K G.mu G.N H ws xs := by
  cases x with
  | lst us =>
    cases e
    exact RT.inv_lst R r
  | ref n =>
    obtain ⟨a, e1, m⟩ := RT.inv_ref R r
    have e' : (match h[n]? with
      | some (O.lst ws) => some ws
      | _ => none) = some ws := e
    cases q : h[n]? with
    | none => rw [q] at e'; cases e'
    | some o =>
      rw [q] at e'
      cases o with
      | lst us =>
        cases e'
        cases R.hp.obj n _ a q m with
        | lst c => cases c with
          | lst eh rr => exact ⟨a, _, e1, eh, rr⟩
      | dct _ => cases e'
      | ins _ _ => cases e'
      | opq => cases e'
  | _ => cases e
theorem addL_ok {X : Cx} {G : Gh} {env : MP.Env} {h : Hea} {σ : Sg} {H : Hp} {Wx : WX} {Q : VK} {x y : W} {v u : V} (R : Rel X.K G env h σ H) (rx : RT X.K G env H x v) (ry : RT X.K G env H y u) (p : PostR X.K G env σ H Wx (rW X.K) Q (addL (dirL x h) (dirL y h) h)) : rCat v u H Q := by
  cases ex : dirL x h with
  | none => rw [ex] at p; exact p.elim
  | some a =>
    cases ey : dirL y h with
    | none => rw [ex, ey] at p; exact p.elim
    | some b =>
      rw [ex, ey] at p
      have p' : PostR X.K G env σ H Wx (rW X.K) Q (if Nat.ble (a.length + b.length) line = true then .ok (.lst (a ++ b)) h else .bad) := p
      split at p'
      · rename_i hz
        obtain ⟨l, xs, e1, h1, r1⟩ := RT.dirL R rx ex
        obtain ⟨m, ys, e2, h2, r2⟩ := RT.dirL R ry ey
        refine ⟨l, m, xs, ys, e1, e2, h1, h2, by rw [← r1.length, ← r2.length]; exact le_line hz, fun q hq => ?_⟩
        refine PostR.nW p' R hq (.lst ⟨upd_same, R.fresh hq⟩ ?_)
        exact (r1.append r2).keep (keeps_upd hq) (Longer.refl _)
      · exact p'.elim
theorem oc_add : OpC X gAdd (rAdd4 X.K) := by
  intro G env h σ H Wx Q x y v u R rx ry p
  cases x with
  | int i =>
    cases y with
    | int j => exact .inl ⟨i, j, RT.inv_int R rx, RT.inv_int R ry, PostR.hW (w := .int (i + j)) p R (.int _)⟩
    | _ => exact False.elim p
  | str a =>
    cases y with
    | str b =>
      have p' : PostR X.K G env σ H Wx (rW X.K) Q (if Nat.ble (a.length + b.length) line = true then .ok (.str (a ++ b)) h else .bad) := p
      split at p'
      · rename_i hz
        refine .inr (.inl ⟨toS a, toS b, RT.inv_str R rx, RT.inv_str R ry, by rw [str_len, str_len]; exact le_line hz, ?_⟩)
        exact PostR.hW (v := V.str (toS a ++ toS b)) p' R (by rw [str_app]; exact .str _)
      · exact p'.elim
    | _ => exact False.elim p
  | tup a =>
    cases y with
    | tup b =>
      have p' : PostR X.K G env σ H Wx (rW X.K) Q (if Nat.ble (a.length + b.length) line = true then .ok (.tup (a ++ b)) h else .bad) := p
      split at p'
      · rename_i hz
        obtain ⟨l, xs, e1, h1, r1⟩ := RT.inv_tup R rx
        obtain ⟨m, ys, e2, h2, r2⟩ := RT.inv_tup R ry
        refine .inr (.inr (.inr ⟨l, m, xs, ys, e1, e2, h1.sq, h2.sq, by rw [← r1.length, ← r2.length]; exact le_line hz, fun e => ?_, fun e e' => ?_, fun e e' q hq => ?_⟩))
        · subst e
          cases r1
          exact PostR.hW p' R (.tup h2 r2)
        · subst e'
          cases r2
          rw [List.append_nil] at p'
          exact PostR.hW p' R (.tup h1 r1)
        · refine PostR.nW p' R hq (.tup (.inl ⟨.inl upd_same, R.fresh hq⟩) ?_)
          exact (r1.append r2).keep (keeps_upd hq) (Longer.refl _)
      · exact p'.elim
    | _ => exact False.elim p
  | _ => exact .inr (.inr (.inl (addL_ok R rx ry p)))
theorem small_ok {i : Int} (h : small i = true) : -(2 ^ 64) < i ∧ i < 2 ^ 64 := by
  unfold small at h
  rw [Bool.and_eq_true] at h
  have h1 := of_decide_eq_true h.1
  have h2 := of_decide_eq_true h.2
  omega
theorem rep_flat {α : Type} (a : List α) : ∀ n : Nat, repL a n = (List.replicate n a).flatten
  | 0 => rfl
  | n + 1 => by rw [List.replicate_succ, List.flatten_cons, ← rep_flat a n]; rfl
theorem RWs.rep {K : PySem.W.Frag} {mu : List Addr} {N : Addr → Prop} {H : Hp} {ws : List W} {vs : List V} (r : RWs K mu N H ws vs) : ∀ n : Nat, RWs K mu N H (repL ws n) (List.replicate n vs).flatten
  | 0 => .nil
  | n + 1 => by
    rw [List.replicate_succ, List.flatten_cons]
    exact r.append (RWs.rep r n)
def rMul4 (K : PySem.W.Frag) : R2 := fun x y H Q => rI CMul (fun i j => .int (i * j)) x y H Q ∨ (rRep x y H Q ∨ (rRepT K x y H Q ∨ (rRepT1 K x y H Q ∨ rRepT0 K x y H Q)))
theorem op_mul4 : OpR X (binaryOp .Mult) (rMul4 X.K) := op_mul.or (op_rep.or (op_repT.or (op_repT1.or op_repT0)))
theorem oc_mul : OpC X gMul (rMul4 X.K) := by
  intro G env h σ H Wx Q x y v u R rx ry p
  cases x with
  | int i =>
    cases y with
    | int j =>
      have p' : PostR X.K G env σ H Wx (rW X.K) Q (if (small i || small j) = true then .ok (.int (i * j)) h else .bad) := p
      split at p'
      · rename_i hz
        refine .inl ⟨i, j, RT.inv_int R rx, RT.inv_int R ry, ?_, PostR.hW p' R (.int _)⟩
        rcases Bool.or_eq_true_iff.mp hz with z | z
        · exact .inl (small_ok z)
        · exact .inr (small_ok z)
      · exact p'.elim
    | _ => exact False.elim p
  | lst a =>
    cases y with
    | int j =>
      have p' : PostR X.K G env σ H Wx (rW X.K) Q (if (small j && Nat.ble j.toNat 1000000 && decide (-1000000 ≤ j) && Nat.ble (a.length * j.toNat) line) = true then .ok (.lst (repL a j.toNat)) h else .bad) := p
      split at p'
      · rename_i hz
        simp only [Bool.and_eq_true] at hz
        obtain ⟨⟨⟨z1, z2⟩, z3⟩, z4⟩ := hz
        have z2 := Nat.le_of_ble_eq_true z2
        have z3 := of_decide_eq_true z3
        obtain ⟨l, xs, e1, h1, r1⟩ := RT.inv_lst R rx
        refine .inr (.inl ⟨l, j, xs, e1, RT.inv_int R ry, h1, by omega, by omega, by rw [← r1.length]; exact le_line z4, fun q hq => ?_⟩)
        exact PostR.nW p' R hq (.lst ⟨upd_same, R.fresh hq⟩ ((r1.rep _).keep (keeps_upd hq) (Longer.refl _)))
      · exact p'.elim
    | _ => exact False.elim p
  | tup a =>
    cases y with
    | int j =>
      have p' : PostR X.K G env σ H Wx (rW X.K) Q (if (!a.isEmpty && decide (-1000 ≤ j) && decide (j ≤ 1000) && Nat.ble a.length 1000) = true then .ok (.tup (repL a j.toNat)) h else .bad) := p
      split at p'
      · rename_i hz
        simp only [Bool.and_eq_true] at hz
        obtain ⟨⟨⟨z1, z2⟩, z3⟩, z4⟩ := hz
        have z2 := of_decide_eq_true z2
        have z3 := of_decide_eq_true z3
        obtain ⟨l, xs, e1, h1, r1⟩ := RT.inv_tup R rx
        have ne : xs ≠ [] := by
          rintro rfl
          cases r1
          simp at z1
        by_cases q1 : j = 1
        · subst q1
          have e2 : repL a (1 : Int).toNat = a := by simp [repL]
          rw [e2] at p'
          exact .inr (.inr (.inr (.inl ⟨l, xs, e1, RT.inv_int R ry, h1.sq, PostR.hW p' R (.tup h1 r1)⟩)))
        · by_cases q2 : j ≤ 0
          · have e2 : repL a j.toNat = [] := by
              rw [Int.toNat_eq_zero.mpr q2]
              rfl
            rw [e2] at p'
            exact .inr (.inr (.inr (.inr ⟨l, j, xs, e1, RT.inv_int R ry, h1.sq, ne, z2, q2, fun q hq => PostR.nW p' R hq (.tup (.inl ⟨.inl upd_same, R.fresh hq⟩) .nil)⟩)))
          · refine .inr (.inr (.inl ⟨l, j, xs, e1, RT.inv_int R ry, h1.sq, ne, by omega, z3, by rw [← r1.length]; exact Nat.le_of_ble_eq_true z4, fun q hq => ?_⟩))
            exact PostR.nW p' R hq (.tup (.inl ⟨.inl upd_same, R.fresh hq⟩) ((r1.rep _).keep (keeps_upd hq) (Longer.refl _)))
      · exact p'.elim
    | _ => exact False.elim p
  | _ => exact False.elim p
theorem oc_div : OpC X gDiv (rI CDivN fun i j => .int (i.fdiv j)) := by
  intro G env h σ H Wx Q x y v u R rx ry p
  cases x with
  | int i =>
    cases y with
    | int j =>
      have p' : PostR X.K G env σ H Wx (rW X.K) Q (if (decide (j ≠ 0) && Nat.blt j.natAbs 1073741824) = true then .ok (.int (i.fdiv j)) h else .bad) := p
      split at p'
      · rename_i hz
        rw [Bool.and_eq_true] at hz
        exact ⟨i, j, RT.inv_int R rx, RT.inv_int R ry, ⟨of_decide_eq_true hz.1, Nat.le_of_ble_eq_true hz.2⟩, PostR.hW p' R (.int _)⟩
      · exact p'.elim
    | _ => exact False.elim p
  | _ => exact False.elim p
theorem oc_mod : OpC X gMod (rI (fun _ j => j ≠ 0) fun i j => .int (i.fmod j)) := by
  intro G env h σ H Wx Q x y v u R rx ry p
  cases x with
  | int i =>
    cases y with
    | int j =>
      have p' : PostR X.K G env σ H Wx (rW X.K) Q (if decide (j ≠ 0) = true then .ok (.int (i.fmod j)) h else .bad) := p
      split at p'
      · rename_i hz
        exact ⟨i, j, RT.inv_int R rx, RT.inv_int R ry, of_decide_eq_true hz, PostR.hW p' R (.int _)⟩
      · exact p'.elim
    | _ => exact False.elim p
  | _ => exact False.elim p
theorem oc_pow : OpC X gPow (rI CPow fun i j => .int (i ^ j.toNat)) := by
  intro G env h σ H Wx Q x y v u R rx ry p
  cases x with
  | int i =>
    cases y with
    | int j =>
      have p' : PostR X.K G env σ H Wx (rW X.K) Q (if (decide (0 ≤ j) && decide (j ≤ 1000) && small i) = true then .ok (.int (i ^ j.toNat)) h else .bad) := p
      split at p'
      · rename_i hz
        simp only [Bool.and_eq_true] at hz
        obtain ⟨⟨z1, z2⟩, z3⟩ := hz
        have z1 := of_decide_eq_true z1
        have z2 := of_decide_eq_true z2
        have z3 := small_ok z3
        exact ⟨i, j, RT.inv_int R rx, RT.inv_int R ry, ⟨z1, by omega, by omega⟩, PostR.hW p' R (.int _)⟩
      · exact p'.elim
    | _ => exact False.elim p
  | _ => exact False.elim p
/-! ### == of plain data -/
mutual
def toPy : W → PyData
  | .non => .none
  | .bl b => .bool b
  | .int i => .int i
  | .str s => .str (toS s)
  | .tup xs => .tuple (toPys xs)
  | .lst xs => .list (toPys xs)
  | _ => .none
def toPys : List W → List PyData
  | [] => []
  | x :: xs => toPy x :: toPys xs
end
theorem toPys_map : ∀ ws : List W, toPys ws = ws.map toPy
  | [] => rfl
  | w :: ws => by rw [toPys, toPys_map ws]; rfl
theorem str_beq (a b : Nm) : (toS a == toS b) = (a == b) := SX.S_beq a b
mutual
theorem eqv_py : ∀ (a b : W) {n m : Nat}, okW n a = true → okW m b = true → PyData.eqv (toPy a) (toPy b) = eqW a b
  | a, b, n, m, h1, h2 => by
    cases a <;> cases b <;> first
      | rfl
      | (simp only [toPy, PyData.eqv, eqW, str_beq]; done)
      | (cases n <;> first | exact absurd h1 Bool.false_ne_true | skip
         cases m <;> first | exact absurd h2 Bool.false_ne_true | skip
         rename_i xs ys n m
         simp only [toPy, PyData.eqv, eqW]
         exact eqv_pys xs ys h1 h2)
      | (cases n <;> exact absurd h1 Bool.false_ne_true)
      | (cases m <;> exact absurd h2 Bool.false_ne_true)
theorem eqv_pys : ∀ (a b : List W) {n m : Nat}, okWs n a = true → okWs m b = true → PyData.eqvAll (toPys a) (toPys b) = eqWs a b
  | [], [], _, _, _, _ => rfl
  | [], _ :: _, _, _, _, _ => rfl
  | _ :: _, [], _, _, _, _ => rfl
  | x :: xs, y :: ys, n, m, h1, h2 => by
    simp only [okWs, Bool.and_eq_true] at h1 h2
    simp only [toPys, PyData.eqvAll, eqWs]
    rw [eqv_py x y h1.1 h2.1, eqv_pys xs ys h1.2 h2.2]
end
theorem strOk_of {s : Nm} (h : (s.all fun c => Nat.blt c 1114112) = true) : PyData.strOk (toS s) = true := by
  unfold PyData.strOk
  rw [show ((toS s).cps.all (· < 0x110000)) = s.all (fun c => decide (c < 0x110000)) by simp]
  rw [List.all_eq_true] at h ⊢
  intro c hc
  exact decide_eq_true (Nat.le_of_ble_eq_true (h c hc))
mutual
theorem lay_py : ∀ (a : W) {n : Nat}, okW n a = true → (toPy a).canLay0 = true ∧ (toPy a).depth ≤ n
  | .non, n, h => ⟨rfl, Nat.zero_le _⟩
  | .bl _, n, h => ⟨rfl, Nat.zero_le _⟩
  | .int _, n, h => ⟨rfl, Nat.zero_le _⟩
  | .str s, n, h => ⟨by simp only [toPy, PyData.canLay0]; exact strOk_of (by cases n <;> exact h), Nat.zero_le _⟩
  | .tup xs, 0, h => absurd h Bool.false_ne_true
  | .tup xs, n + 1, h => by
    obtain ⟨h1, h2⟩ := lay_pys xs (show okWs n xs = true from h)
    simp only [toPy, PyData.canLay0, PyData.depth]
    exact ⟨h1, Nat.succ_le_succ h2⟩
  | .lst xs, 0, h => absurd h Bool.false_ne_true
  | .lst xs, n + 1, h => by
    obtain ⟨h1, h2⟩ := lay_pys xs (show okWs n xs = true from h)
    simp only [toPy, PyData.canLay0, PyData.depth]
    exact ⟨h1, Nat.succ_le_succ h2⟩
  | .dct _, n, h => by cases n <;> exact absurd h Bool.false_ne_true
  | .ref _, n, h => by cases n <;> exact absurd h Bool.false_ne_true
  | .scr _, n, h => by cases n <;> exact absurd h Bool.false_ne_true
theorem lay_pys : ∀ (a : List W) {n : Nat}, okWs n a = true → PyData.canLayAll0 (toPys a) = true ∧ PyData.depthAll (toPys a) ≤ n
  | [], n, h => ⟨rfl, Nat.zero_le _⟩
  | x :: xs, n, h => by
    simp only [okWs, Bool.and_eq_true] at h
    obtain ⟨h1, h2⟩ := lay_py x h.1
    obtain ⟨h3, h4⟩ := lay_pys xs h.2
    simp only [toPys, PyData.canLayAll0, PyData.depthAll, Bool.and_eq_true]
    exact ⟨⟨h1, h3⟩, Nat.max_le.mpr ⟨h2, h4⟩⟩
end
theorem shaped_of {a : W} (h : okW 64 a = true) : SeqAt.shaped (toPy a) = true := by
  obtain ⟨h1, h2⟩ := lay_py a h
  unfold SeqAt.shaped
  rw [h1, decide_eq_true h2]
  rfl
section
variable {K : PySem.W.Frag} {mu : List Addr} {N : Addr → Prop} {H : Hp}
mutual
theorem RW.dp : ∀ {w : W} {v : V} {n : Nat}, RW K mu N H w v → okW n w = true → Dp K H v (toPy w)
  | _, _, _, .non, _ => .non
  | _, _, _, .bl b, _ => .bl b
  | _, _, _, .int i, _ => .int i
  | _, _, _, .str s, _ => .str _
  | _, _, 0, .tup t r, h => absurd h Bool.false_ne_true
  | _, _, n + 1, .tup t r, h => .tup t.sq (RWs.dp r h)
  | _, _, 0, .lst t r, h => absurd h Bool.false_ne_true
  | _, _, n + 1, .lst t r, h => .lst (SqL.of t.1) (RWs.dp r h)
  | _, _, n, .scr t, h => by cases n <;> exact absurd h Bool.false_ne_true
  | _, _, n, .dK _ _ _, h => by cases n <;> exact absurd h Bool.false_ne_true
  | _, _, n, .ref _, h => by cases n <;> exact absurd h Bool.false_ne_true
theorem RWs.dp : ∀ {ws : List W} {vs : List V} {n : Nat}, RWs K mu N H ws vs → okWs n ws = true → DpAll K H vs (toPys ws)
  | _, _, _, .nil, _ => .nil
  | _, _, n, .cons r t, h => by
    simp only [okWs, Bool.and_eq_true] at h
    exact .cons (RW.dp r h.1) (RWs.dp t h.2)
end
end
theorem RT.dp {K : PySem.W.Frag} {G : Gh} {env : MP.Env} {h : Hea} {σ : Sg} {H : Hp} {w : W} {v : V} {n : Nat} (R : Rel K G env h σ H) (r : RT K G env H w v) (o : okW n (seen w h) = true) : Dp K H v (toPy (seen w h)) := by
  cases w with
  | ref m =>
    have e : seen (.ref m) h = (match h[m]? with
      | some (O.lst ws) => W.lst ws
      | _ => .ref m) := rfl
    cases q : h[m]? with
    | none =>
      rw [e, q] at o
      cases n <;> exact absurd o Bool.false_ne_true
    | some ob =>
      rw [e, q] at o ⊢
      cases ob with
      | lst ws =>
        obtain ⟨a, xs, e1, r1, z⟩ := RT.seq (ws := ws) R r (by show (match h[m]? with | some (O.lst ws) => some ws | _ => none) = _; rw [q])
        cases n with
        | zero => exact absurd o Bool.false_ne_true
        | succ n =>
          rcases z with ⟨_, z⟩ | ⟨z, _⟩
          · cases z
          · rw [e1]
            exact .lst z (r1.dp o)
      | dct _ => cases n <;> exact absurd o Bool.false_ne_true
      | ins _ _ => cases n <;> exact absurd o Bool.false_ne_true
      | opq => cases n <;> exact absurd o Bool.false_ne_true
  | lst ws =>
    obtain ⟨a, xs, e1, h1, r1⟩ := RT.inv_lst R r
    cases n with
    | zero => exact absurd o Bool.false_ne_true
    | succ n => rw [e1]; exact .lst (SqL.of h1) (r1.dp o)
  | tup ws =>
    obtain ⟨a, xs, e1, h1, r1⟩ := RT.inv_tup R r
    cases n with
    | zero => exact absurd o Bool.false_ne_true
    | succ n => rw [e1]; exact .tup h1.sq (r1.dp o)
  | non => rw [RT.inv_non R r]; exact .non
  | bl b => rw [RT.inv_bl R r]; exact .bl b
  | int b => rw [RT.inv_int R r]; exact .int b
  | str b => rw [RT.inv_str R r]; exact .str _
  | dct _ => cases n <;> exact absurd o Bool.false_ne_true
  | scr _ => cases n <;> exact absurd o Bool.false_ne_true
theorem oc_eq : OpC X gEq (rEqD X.K) := by
  intro G env h σ H Wx Q x y v u R rx ry p
  have p' : PostR X.K G env σ H Wx (rW X.K) Q (if (okW 64 (seen x h) && okW 64 (seen y h)) = true then .ok (.bl (eqW (seen x h) (seen y h))) h else .bad) := p
  split at p'
  · rename_i hz
    rw [Bool.and_eq_true] at hz
    refine ⟨_, _, RT.dp R rx hz.1, RT.dp R ry hz.2, shaped_of hz.1, shaped_of hz.2, ?_⟩
    rw [eqv_py _ _ hz.1 hz.2]
    exact PostR.hW p' R (.bl _)
  · exact p'.elim
theorem oc_ne : OpC X gNe (rNeD X.K) := by
  intro G env h σ H Wx Q x y v u R rx ry p
  have p' : PostR X.K G env σ H Wx (rW X.K) Q (if (okW 64 (seen x h) && okW 64 (seen y h)) = true then .ok (.bl (!eqW (seen x h) (seen y h))) h else .bad) := p
  split at p'
  · rename_i hz
    rw [Bool.and_eq_true] at hz
    refine ⟨_, _, RT.dp R rx hz.1, RT.dp R ry hz.2, shaped_of hz.1, shaped_of hz.2, ?_⟩
    rw [eqv_py _ _ hz.1 hz.2]
    exact PostR.hW p' R (.bl _)
  · exact p'.elim
end
end MP
end

section
set_option Elab.async false
set_option linter.all false
set_option maxRecDepth 100000
set_option autoImplicit false
/-! MP5: expressions. -/
namespace MP
open PySem PySem.Spec PyProof.Rows L2
abbrev PWW (X : Cx) (Wx : WX) (e : Expr) (s : MP.ST) : Prop := PW X e (tR X.K Wx rB s)
abbrev PATW (X : Cx) (Wx : WX) (es : List Expr) (s : SA) : Prop := PA X es (tR X.K Wx (rWs X.K) s)
section
variable {X : Cx} {Wx : WX} {a b c : Expr} {es rest : List Expr} {sa sb sc : SE} {ta tb : MP.ST} {ss : SA} {pos p2 : Pos}
/-! in, not in, an index -/
theorem flat_of {K : PySem.W.Frag} {mu : List Addr} {N : Addr → Prop} {H : Hp} {w : W} {v : V} (r : RW K mu N H w v) (f : flatW w = true) : flatV v = true := by
  cases r <;> first | rfl | exact absurd f Bool.false_ne_true
theorem flats_of {K : PySem.W.Frag} {mu : List Addr} {N : Addr → Prop} {H : Hp} : ∀ {w : List W} {v : List V}, RWs K mu N H w v → flatWs w = true → v.all flatV = true
  | _, _, .nil, _ => rfl
  | _, _, .cons r t, f => by
    simp only [flatWs, Bool.and_eq_true] at f
    rw [List.all_cons, flat_of r f.1, flats_of t f.2]
    rfl
theorem str_beq' (a b : Nm) : (toS a == toS b) = (a == b) := SX.S_beq a b
theorem eq_flat {K : PySem.W.Frag} {mu : List Addr} {N : Addr → Prop} {H : Hp} {w z : W} {v u : V} (r : RW K mu N H w v) (q : RW K mu N H z u) (f : flatW w = true) (g : flatW z = true) : eqV v u = eqW w z := by
  cases r <;> first | (exact absurd f Bool.false_ne_true) | (cases q <;> first | (exact absurd g Bool.false_ne_true) | rfl | (simp only [eqV, eqW]; done) | (simp only [eqV, eqW, str_beq']; done))
theorem in_flat {K : PySem.W.Frag} {mu : List Addr} {N : Addr → Prop} {H : Hp} {z : W} {u : V} (q : RW K mu N H z u) (g : flatW z = true) : ∀ {w : List W} {v : List V}, RWs K mu N H w v → flatWs w = true → inV u v = inWs z w
  | _, _, .nil, _ => rfl
  | _, _, .cons r t, f => by
    simp only [flatWs, Bool.and_eq_true] at f
    have ih := in_flat q g t f.2
    unfold inV at ih ⊢
    rw [List.any_cons, ih, eq_flat r q f.1 g]
    rfl
theorem in_py {x : W} {n m : Nat} (hx : okW n x = true) : ∀ (ws : List W), okWs m ws = true → ((toPys ws).any fun z => PyData.eqv z (toPy x)) = inWs x ws
  | [], _ => rfl
  | w :: ws, h => by
    simp only [okWs, Bool.and_eq_true] at h
    rw [toPys, List.any_cons, eqv_py w x h.1 hx, in_py hx ws h.2]
    rfl
def rIn3 (K : PySem.W.Frag) : R2 := fun x y H Q => rIn K false x y H Q ∨ (rInD K x y H Q ∨ (fun x y H Q => ∃ i j, x = V.str i ∧ y = .str j ∧ Q (.bl (!(Builtin.Str.occurrences j i 0 j.length 1).isEmpty)) H) x y H Q)
def rNotIn3 (K : PySem.W.Frag) : R2 := fun x y H Q => rIn K true x y H Q ∨ (rNotInD K x y H Q ∨ (fun x y H Q => ∃ i j, x = V.str i ∧ y = .str j ∧ Q (.bl (!(!(Builtin.Str.occurrences j i 0 j.length 1).isEmpty))) H) x y H Q)
theorem op_in3 (hu : X.A.units + 65 < cLine) : OpR X (compareOp .In) (rIn3 X.K) := op_in_seq.or ((op_inD hu).or op_in_str)
theorem op_notin3 (hu : X.A.units + 65 < cLine) : OpR X (compareOp .NotIn) (rNotIn3 X.K) := op_notIn_seq.or ((op_notInD hu).or op_notIn_str)
theorem occ_one (b : Nm) (c : Nat) : (!(Builtin.Str.occurrences (toS b) (toS [c]) 0 (toS b).length 1).isEmpty) = b.contains c := by
  have h := SX.in_one b c
  have e : (b.contains c) = decide (c ∈ b) := by simp
  rw [e]
  exact h
theorem shaped_list {ws : List W} (h : okWs 63 ws = true) : SeqAt.shaped (.list (toPys ws)) = true := shaped_of (a := .lst ws) h
theorem oc_in : OpC X gIn (rIn3 X.K) := by
  intro G env h σ H Wx Q x y v u R rx ry p
  have p' : PostR X.K G env σ H Wx (rW X.K) Q (match gInB x y h with
    | some b => MP.R.ok (.bl b) h
    | none => .bad) := p
  cases e : gInB x y h with
  | none => rw [e] at p'; exact p'.elim
  | some k =>
    rw [e] at p'
    have q : Q (.bl k) H := PostR.hW (w := .bl k) p' R (.bl k)
    have ls : ∀ ws, seqOf y h = some ws → (∀ ws, y ≠ .tup ws) → (if (okW 64 x && okWs 63 ws) = true then some (inWs x ws) else none) = some k → rIn3 X.K v u H Q := fun ws es nt ek => by
      split at ek
      · rename_i hz
        rw [Bool.and_eq_true] at hz
        cases ek
        obtain ⟨a, xs, e1, r1, z⟩ := RT.seq R ry es
        rcases z with ⟨_, z⟩ | ⟨z, _⟩
        · exact absurd z (nt ws)
        · have hx := hz.1
          have hs : seen x h = x := by cases x <;> first | rfl | (exact absurd hx Bool.false_ne_true)
          refine .inr (.inl ⟨toPy x, toPys ws, by have := RT.dp R rx (n := 64) (by rw [hs]; exact hx); rw [hs] at this; exact this, by rw [e1]; exact .lst z (r1.dp hz.2), shaped_of hx, shaped_list hz.2, ?_⟩)
          rw [in_py hx ws hz.2]
          exact q
      · cases ek
    cases y with
    | str b =>
      cases x with
      | str s =>
        cases s with
        | nil => cases e
        | cons c s =>
          cases s with
          | nil =>
            cases e
            refine .inr (.inr ⟨toS [c], toS b, RT.inv_str R rx, RT.inv_str R ry, ?_⟩)
            rw [occ_one]
            exact q
          | cons _ _ => cases e
      | _ => cases e
    | tup ws =>
      have e' : (if (flatW x && flatWs ws) = true then some (inWs x ws) else none) = some k := e
      split at e'
      · rename_i hz
        rw [Bool.and_eq_true] at hz
        cases e'
        obtain ⟨a, xs, e1, h1, r1⟩ := RT.inv_tup R ry
        rcases rx with rx | ⟨i, a', ex, _, _⟩
        · refine .inl ⟨a, xs, e1, .inr h1.sq, flat_of rx hz.1, flats_of r1 hz.2, ?_⟩
          rw [in_flat rx hz.1 r1 hz.2]
          exact q
        · obtain ⟨_, _, _, cc⟩ := R.own _ _ ex
          cases cc <;> exact absurd hz.1 Bool.false_ne_true
      · cases e'
    | lst ws => exact ls ws rfl (fun _ z => nomatch z) e
    | scr ws => exact ls _ rfl (fun _ z => nomatch z) e
    | ref n =>
      cases es : seqOf (.ref n) h with
      | none =>
        have e' : (match seqOf (.ref n) h with
          | some ws => if (okW 64 x && okWs 63 ws) = true then some (inWs x ws) else none
          | none => none) = some k := e
        rw [es] at e'
        cases e'
      | some ws =>
        have e' : (match seqOf (.ref n) h with
          | some ws => if (okW 64 x && okWs 63 ws) = true then some (inWs x ws) else none
          | none => none) = some k := e
        rw [es] at e'
        exact ls ws es (fun _ z => nomatch z) e'
    | _ => cases e
theorem oc_notin : OpC X gNotIn (rNotIn3 X.K) := by
  intro G env h σ H Wx Q x y v u R rx ry p
  have p' : PostR X.K G env σ H Wx (rW X.K) Q (match gInB x y h with
    | some b => MP.R.ok (.bl (!b)) h
    | none => .bad) := p
  cases e : gInB x y h with
  | none => rw [e] at p'; exact p'.elim
  | some k =>
    rw [e] at p'
    have q : Q (.bl (!k)) H := PostR.hW (w := .bl (!k)) p' R (.bl _)
    have ls : ∀ ws, seqOf y h = some ws → (∀ ws, y ≠ .tup ws) → (if (okW 64 x && okWs 63 ws) = true then some (inWs x ws) else none) = some k → rNotIn3 X.K v u H Q := fun ws es nt ek => by
      split at ek
      · rename_i hz
        rw [Bool.and_eq_true] at hz
        cases ek
        obtain ⟨a, xs, e1, r1, z⟩ := RT.seq R ry es
        rcases z with ⟨_, z⟩ | ⟨z, _⟩
        · exact absurd z (nt ws)
        · have hx := hz.1
          have hs : seen x h = x := by cases x <;> first | rfl | (exact absurd hx Bool.false_ne_true)
          refine .inr (.inl ⟨toPy x, toPys ws, by have := RT.dp R rx (n := 64) (by rw [hs]; exact hx); rw [hs] at this; exact this, by rw [e1]; exact .lst z (r1.dp hz.2), shaped_of hx, shaped_list hz.2, ?_⟩)
          rw [in_py hx ws hz.2]
          exact q
      · cases ek
    cases y with
    | str b =>
      cases x with
      | str s =>
        cases s with
        | nil => cases e
        | cons c s =>
          cases s with
          | nil =>
            cases e
            refine .inr (.inr ⟨toS [c], toS b, RT.inv_str R rx, RT.inv_str R ry, ?_⟩)
            rw [occ_one]
            exact q
          | cons _ _ => cases e
      | _ => cases e
    | tup ws =>
      have e' : (if (flatW x && flatWs ws) = true then some (inWs x ws) else none) = some k := e
      split at e'
      · rename_i hz
        rw [Bool.and_eq_true] at hz
        cases e'
        obtain ⟨a, xs, e1, h1, r1⟩ := RT.inv_tup R ry
        rcases rx with rx | ⟨i, a', ex, _, _⟩
        · refine .inl ⟨a, xs, e1, .inr h1.sq, flat_of rx hz.1, flats_of r1 hz.2, ?_⟩
          rw [in_flat rx hz.1 r1 hz.2]
          exact q
        · obtain ⟨_, _, _, cc⟩ := R.own _ _ ex
          cases cc <;> exact absurd hz.1 Bool.false_ne_true
      · cases e'
    | lst ws => exact ls ws rfl (fun _ z => nomatch z) e
    | scr ws => exact ls _ rfl (fun _ z => nomatch z) e
    | ref n =>
      cases es : seqOf (.ref n) h with
      | none =>
        have e' : (match seqOf (.ref n) h with
          | some ws => if (okW 64 x && okWs 63 ws) = true then some (inWs x ws) else none
          | none => none) = some k := e
        rw [es] at e'
        cases e'
      | some ws =>
        have e' : (match seqOf (.ref n) h with
          | some ws => if (okW 64 x && okWs 63 ws) = true then some (inWs x ws) else none
          | none => none) = some k := e
        rw [es] at e'
        exact ls ws es (fun _ z => nomatch z) e'
    | _ => cases e
theorem at_rel {K : PySem.W.Frag} {mu : List Addr} {N : Addr → Prop} {H : Hp} {ws : List W} {vs : List V} {i : Int} {w : W} (r : RWs K mu N H ws vs) (e : atW ws i = some w) : ∃ v, atI vs i = some v ∧ RW K mu N H w v := by
  unfold atW at e
  have hp : ixN vs.length i = place ws.length i := by rw [← r.length]; rfl
  unfold atI
  rw [hp]
  cases q : place ws.length i with
  | none => rw [q] at e; cases e
  | some k =>
    rw [q] at e
    exact r.get e
theorem oc_ix : OpC X gIx (rIx X.K) := by
  intro G env h σ H Wx Q x y v u R rx ry p
  have sq : ∀ ws, seqOf x h = some ws → PostR X.K G env σ H Wx (rW X.K) Q (ixSeq ws y h) → rIx X.K v u H Q := fun ws es p' => by
    cases y with
    | int i =>
      have p2 : PostR X.K G env σ H Wx (rW X.K) Q (ofO (atW ws i) h) := p'
      cases e : atW ws i with
      | none =>
        rw [e] at p2
        exact p2.elim
      | some w =>
        rw [e] at p2
        obtain ⟨a, xs, e1, r1, z⟩ := RT.seq R rx es
        obtain ⟨z', e2, r2⟩ := at_rel r1 e
        have q : Q z' H := PostR.hW (w := w) p2 R r2
        rcases z with ⟨z, _⟩ | ⟨z, _⟩
        · exact .inr (.inl ⟨a, xs, i, z', e1, RT.inv_int R ry, z, e2, q⟩)
        · exact .inl ⟨a, xs, i, z', e1, RT.inv_int R ry, z, e2, q⟩
    | _ => exact False.elim p'
  have all : PostR X.K G env σ H Wx (rW X.K) Q (ixOpt (seqOf x h) y h) → rIx X.K v u H Q := fun p' => by
    cases es : seqOf x h with
    | none => rw [es] at p'; exact p'.elim
    | some ws => rw [es] at p'; exact sq ws es p'
  cases x with
  | str s =>
    cases y with
    | int i =>
      have p' : PostR X.K G env σ H Wx (rW X.K) Q (if Nat.ble s.length line = true then ixStr s i h else .bad) := p
      split at p'
      · rename_i hz
        unfold ixStr at p'
        cases e : place s.length i with
        | none => rw [e] at p'; exact p'.elim
        | some k =>
          rw [e] at p'
          dsimp only at p'
          cases e2 : s[k]? with
          | none => rw [e2] at p'; exact p'.elim
          | some c =>
            rw [e2] at p'
            refine .inr (.inr ⟨toS s, i, c, RT.inv_str R rx, RT.inv_int R ry, by rw [str_len]; exact le_line hz, ?_, PostR.hW (w := .str [c]) p' R (.str [c])⟩)
            have e3 : ixN (toS s).cps.toList.length i = place s.length i := rfl
            unfold atI
            rw [e3, e]
            exact e2
      · exact p'.elim
    | _ => exact False.elim p
  | tup ws => exact all p
  | lst ws => exact all p
  | scr ws => exact all p
  | ref n => exact all p
  | _ => exact False.elim p
theorem pw_ix (ha : PET X Wx a sa) (hb : PET X Wx b sb) (hs : PlainIx b) : PEW X Wx (.Subscript a b pos) (sB gIx sa sb) := PE.weak (pe_ix ix_seq ha hb hs) fun σ H Q t => tOp_of oc_ix t
theorem pw_neg (ha : PET X Wx a sa) : PEW X Wx (.UnaryOp .USub a pos) (sNeg sa) := PE.weak (pe_un un_neg ha) fun σ H Q ⟨G, env, h, R, q⟩ => ⟨G, env, h, R, (PostR.bind (rel := rT X.K) q).mono fun v H1 ⟨w, h1, mu1, R1, S1, r1, q1⟩ => by
  cases w with
  | int i => exact ⟨i, RT.inv_int R1 r1, PostR.hW (w := .int (-i)) q1 R1 (.int _)⟩
  | _ => exact False.elim q1⟩
/-! comparisons with None, chains -/
theorem isNon_rel {K : PySem.W.Frag} {G : Gh} {env : MP.Env} {h : Hea} {σ : Sg} {H : Hp} {w : W} {v : V} (R : Rel K G env h σ H) (r : RT K G env H w v) : isNon w = decide (v = .non) := by
  rcases r with r | ⟨i, a, e, _, rfl⟩
  · cases r <;> rfl
  · obtain ⟨_, _, _, cc⟩ := R.own _ _ e
    cases cc <;> rfl
theorem pw_isN {j : Nat} (ha : PET X Wx a sa) : PEW X Wx (.Compare a [.Is] [.Constant .none j p2] pos) (sIsN sa) :=
  PE.weak (pe_cmp (pc_isN ha)) fun σ H Q ⟨G, env, h, R, q⟩ => ⟨G, env, h, R, (PostR.bind (rel := rT X.K) q).mono fun v H1 ⟨w, h1, mu1, R1, S1, r1, q1⟩ => by
    refine PostR.hW (w := .bl (isNon w)) q1 R1 ?_
    rw [isNon_rel R1 r1]
    exact .bl _⟩
theorem pw_notN {j : Nat} (ha : PET X Wx a sa) : PEW X Wx (.Compare a [.IsNot] [.Constant .none j p2] pos) (sNotN sa) :=
  PE.weak (pe_cmp (pc_notN ha)) fun σ H Q ⟨G, env, h, R, q⟩ => ⟨G, env, h, R, (PostR.bind (rel := rT X.K) q).mono fun v H1 ⟨w, h1, mu1, R1, S1, r1, q1⟩ => by
    refine PostR.hW (w := .bl (!isNon w)) q1 R1 ?_
    rw [isNon_rel R1 r1]
    exact .bl _⟩
/-- a comparison as a test -/
theorem ptw_pc {op : CmpOp} {t : TE} {s : SE} (h : PC X op a b t) (h1 : behindInMarks op b = false) (hw : ∀ σ H Q, tR X.K Wx (rW X.K) s σ H Q → t σ H Q) : PTW X Wx (.Compare a [op] [b] pos) (tV s) :=
  PT.weak (pt_cmp h h1) fun σ H Q ⟨G, env, h, R, q⟩ => hw σ H _ ⟨G, env, h, R, (PostR.bind (rel := rW X.K) q).mono fun v H1 ⟨w, h1, mu1, R1, S1, r1, q1⟩ => by
    cases w with
    | bl k => exact ⟨k, r1.inv_bl, PostR.here (v := k) q1 R1 rfl⟩
    | _ => exact False.elim q1⟩
theorem pw_chain {op op' : CmpOp} {g g' : G2} {r r' : R2} (ho : OpR X (compareOp op) r) (ho' : OpR X (compareOp op') r') (o : OpC X g r) (o' : OpC X g' r') (ha : PET X Wx a sa) (hb : PET X Wx b sb) (hc : PET X Wx c sc)
    (h1 : lastMarks [op, op'] [b, c] = false) : PEW X Wx (.Compare a [op, op'] [b, c] pos) (sChain g g' sa sb sc) :=
  PE.weak (pe_chain ho ho' ha hb hc h1) fun σ H Q t => by
    obtain ⟨G, env, h, R, q⟩ := t
    refine ⟨G, env, h, R, (PostR.bind (rel := rT X.K) q).mono fun v H1 ⟨w, h1, mu1, R1, S1, r1, q1⟩ => ?_⟩
    refine ⟨_, env, h1, R1, (PostR.bind (rel := rT X.K) q1).mono fun u H2 ⟨z, h2, mu2, R2, S2, r2, q2⟩ => ?_⟩
    refine o _ env h2 σ H2 Wx _ w z v u R2 (r1.step S2 R2) r2 ((PostR.bind (rel := rW X.K) q2).mono fun t H3 ⟨y, h3, mu3, R3, S3, r3, q3⟩ => ?_)
    cases y with
    | bl k =>
      refine ⟨k, r3.inv_bl, ?_⟩
      cases k with
      | false => exact PostR.hW (w := .bl false) q3 R3 (.bl _)
      | true =>
        refine ⟨_, env, h3, R3, (PostR.bind (rel := rT X.K) q3).mono fun s H4 ⟨x, h4, mu4, R4, S4, r4, q4⟩ => ?_⟩
        exact o' _ env h4 σ H4 Wx Q z x u s R4 ((r2.step S3 R3).step S4 R4) r4 q4
    | _ => exact False.elim q3
/-! truths as values -/
theorem pw_one {op : BoolOp} (ha : PEW X Wx a sa) : PEW X Wx (.BoolOp op [a] pos) sa := pe_one ha
theorem pw_and (ha : PET X Wx a sa) (hb : PEW X Wx (.BoolOp .And (b :: rest) pos) sb) : PEW X Wx (.BoolOp .And (a :: b :: rest) pos) (sAnd sa sb) :=
  PE.weak (pe_and ha hb) fun σ H Q ⟨G, env, h, R, q⟩ => ⟨G, env, h, R, (PostR.bind (rel := rT X.K) q).mono fun v H1 ⟨w, h1, mu1, R1, S1, r1, q1⟩ => by
    cases w with
    | bl k =>
      refine ⟨k, RT.inv_bl R1 r1, ?_⟩
      cases k with
      | false => exact PostR.hW (w := .bl false) q1 R1 (.bl _)
      | true => exact ⟨_, env, h1, R1, q1⟩
    | _ => exact False.elim q1⟩
theorem pw_or (ha : PET X Wx a sa) (hb : PEW X Wx (.BoolOp .Or (b :: rest) pos) sb) : PEW X Wx (.BoolOp .Or (a :: b :: rest) pos) (sOr sa sb) :=
  PE.weak (pe_or ha hb) fun σ H Q ⟨G, env, h, R, q⟩ => ⟨G, env, h, R, (PostR.bind (rel := rT X.K) q).mono fun v H1 ⟨w, h1, mu1, R1, S1, r1, q1⟩ => by
    cases w with
    | bl k =>
      refine ⟨k, RT.inv_bl R1 r1, ?_⟩
      cases k with
      | true => exact PostR.hW (w := .bl true) q1 R1 (.bl _)
      | false => exact ⟨_, env, h1, R1, q1⟩
    | _ => exact False.elim q1⟩
theorem pw_not (ha : PET X Wx a sa) : PEW X Wx (.UnaryOp .Not a pos) (sNot sa) :=
  PE.weak (pe_not ha) fun σ H Q ⟨G, env, h, R, q⟩ => ⟨G, env, h, R, (PostR.bind (rel := rT X.K) q).mono fun v H1 ⟨w, h1, mu1, R1, S1, r1, q1⟩ => by
    cases w with
    | bl k => exact ⟨k, RT.inv_bl R1 r1, PostR.hW (w := .bl (!k)) q1 R1 (.bl _)⟩
    | _ => exact False.elim q1⟩
/-! tests -/
theorem PWW.t (h : PWW X Wx a ta) : PTW X Wx a ta := h.pt
theorem PW.weak {e : Expr} {t t' : TT} (p : PW X e t) (h : ∀ σ H Q, t' σ H Q → t σ H Q) : PW X e t' := ⟨fun wh pins s σ H Q I q => p.run wh pins s σ H Q I (h σ H Q q)⟩
theorem ptw_and1 (ha : PTW X Wx a ta) : PWW X Wx (.BoolOp .And [a] pos) ta := pw_and1 ha
theorem ptw_or1 (ha : PTW X Wx a ta) : PWW X Wx (.BoolOp .Or [a] pos) ta := pw_or1 ha
theorem ptw_and (ha : PTW X Wx a ta) (hb : PWW X Wx (.BoolOp .And (b :: rest) pos) tb) : PWW X Wx (.BoolOp .And (a :: b :: rest) pos) (MP.tAnd ta tb) :=
  PW.weak (L2.pw_and ha hb) fun σ H Q ⟨G, env, h, R, q⟩ => ⟨G, env, h, R, (PostR.bind (rel := rB) q).mono fun v H1 ⟨w, h1, mu1, R1, S1, r1, q1⟩ => by
    have r2 : w = v := r1
    subst r2
    cases w with
    | false => exact PostR.here (v := false) q1 R1 rfl
    | true => exact ⟨_, env, h1, R1, q1⟩⟩
theorem ptw_or (ha : PTW X Wx a ta) (hb : PWW X Wx (.BoolOp .Or (b :: rest) pos) tb) : PWW X Wx (.BoolOp .Or (a :: b :: rest) pos) (MP.tOr ta tb) :=
  PW.weak (L2.pw_or ha hb) fun σ H Q ⟨G, env, h, R, q⟩ => ⟨G, env, h, R, (PostR.bind (rel := rB) q).mono fun v H1 ⟨w, h1, mu1, R1, S1, r1, q1⟩ => by
    have r2 : w = v := r1
    subst r2
    cases w with
    | true => exact PostR.here (v := true) q1 R1 rfl
    | false => exact ⟨_, env, h1, R1, q1⟩⟩
theorem ptw_not (ha : PTW X Wx a ta) : PTW X Wx (.UnaryOp .Not a pos) (MP.tNot ta) :=
  PT.weak (pt_not ha) fun σ H Q ⟨G, env, h, R, q⟩ => ⟨G, env, h, R, (PostR.bind (rel := rB) q).mono fun v H1 ⟨w, h1, mu1, R1, S1, r1, q1⟩ => by
    have r2 : w = v := r1
    subst r2
    exact PostR.here (v := !w) q1 R1 rfl⟩
theorem ptw_isN {j : Nat} (ha : PET X Wx a sa) : PTW X Wx (.Compare a [.Is] [.Constant .none j p2] pos) (tV (sIsN sa)) :=
  ptw_pc (pc_isN ha) rfl fun σ H Q ⟨G, env, h, R, q⟩ => ⟨G, env, h, R, (PostR.bind (rel := rT X.K) q).mono fun v H1 ⟨w, h1, mu1, R1, S1, r1, q1⟩ => by
    refine PostR.hW (w := .bl (isNon w)) q1 R1 ?_
    rw [isNon_rel R1 r1]
    exact .bl _⟩
theorem ptw_notN {j : Nat} (ha : PET X Wx a sa) : PTW X Wx (.Compare a [.IsNot] [.Constant .none j p2] pos) (tV (sNotN sa)) :=
  ptw_pc (pc_notN ha) rfl fun σ H Q ⟨G, env, h, R, q⟩ => ⟨G, env, h, R, (PostR.bind (rel := rT X.K) q).mono fun v H1 ⟨w, h1, mu1, R1, S1, r1, q1⟩ => by
    refine PostR.hW (w := .bl (!isNon w)) q1 R1 ?_
    rw [isNon_rel R1 r1]
    exact .bl _⟩
theorem pw_if (hc : PTW X Wx c ta) (ha : PEW X Wx a sa) (hb : PEW X Wx b sb) : PEW X Wx (.IfExp c a b pos) (sIfE ta sa sb) :=
  PE.weak (pe_ifExp hc ha hb) fun σ H Q ⟨G, env, h, R, q⟩ => ⟨G, env, h, R, (PostR.bind (rel := rB) q).mono fun v H1 ⟨w, h1, mu1, R1, S1, r1, q1⟩ => by
    have r2 : w = v := r1
    subst r2
    cases w with
    | true => exact ⟨_, env, h1, R1, q1⟩
    | false => exact ⟨_, env, h1, R1, q1⟩⟩
/-! lists of expressions, tuples -/
theorem pw_nil : PAW X Wx [] aNil := PA.weak pa_nil fun σ H Q ⟨G, env, h, R, q⟩ => PostR.here (w := ([] : List W)) q R .nil
theorem pw_cons (ha : PEW X Wx a sa) (hr : PAW X Wx es ss) (hs : starEach (a :: es) X.env = (false, eval a X.env) :: starEach es X.env) : PAW X Wx (a :: es) (aCons sa ss) :=
  PA.weak (pa_cons ha hr hs) fun σ H Q ⟨G, env, h, R, q⟩ => ⟨G, env, h, R, (PostR.bind (rel := rW X.K) q).mono fun v H1 ⟨w, h1, mu1, R1, S1, r1, q1⟩ =>
    ⟨_, env, h1, R1, (PostR.bind (rel := rWs X.K) q1).mono fun vs H2 ⟨ws, h2, mu2, R2, S2, r2, q2⟩ => PostR.here (v := v :: vs) q2 R2 (.cons (r1.step S2.toStepS) r2)⟩⟩
theorem pw_tup {k : Nat} (hr : PAW X Wx es ss) : PEW X Wx (.Tuple es k pos) (sTup ss) :=
  PE.weak (pe_tup hr) fun σ H Q ⟨G, env, h, R, q⟩ => ⟨G, env, h, R, (PostR.bind (rel := rWs X.K) q).mono fun vs H1 ⟨ws, h1, mu1, R1, S1, r1, q1⟩ => by
    have q2 : PostR X.K (G.at mu1) env σ H1 Wx (rW X.K) Q (if Nat.ble ws.length line = true then .ok (.tup ws) h1 else .bad) := q1
    split at q2
    · rename_i hz
      refine ⟨by rw [← r1.length]; exact le_line hz, fun p hp => ?_⟩
      exact PostR.nW q2 R1 hp (.tup (.inl ⟨.inl upd_same, R1.fresh hp⟩) (r1.keep (keeps_upd hp) (Longer.refl _)))
    · exact q2.elim⟩
theorem fldOf_some {cl : Nat} {f : Nm} {x : W} {h : Hea} {w : W} (e : fldOf cl f x h = some w) : ∃ n fs, x = .ref n ∧ h[n]? = some (.ins cl fs) ∧ lookN f fs = some w := by
  unfold fldOf at e
  cases x with
  | ref n =>
    dsimp only at e
    cases q : h[n]? with
    | none => rw [q] at e; cases e
    | some o =>
      rw [q] at e
      cases o with
      | ins c fs =>
        dsimp only at e
        split at e
        · rename_i hc
          have hc : c = cl := by simpa using hc
          subst hc
          exact ⟨n, fs, rfl, q, e⟩
        · cases e
      | _ => cases e
  | _ => cases e
theorem Rel.ins {K : PySem.W.Frag} {G : Gh} {env : MP.Env} {h : Hea} {σ : Sg} {H : Hp} {n : Nat} {a : Addr} {c : Nat} {fs : List (Nm × W)} (R : Rel K G env h σ H) (e : h[n]? = some (.ins c fs)) (m : G.mu[n]? = some a) :
    ∃ dx gs, H a = some (.ins (ca K c) dx gs) ∧ RFs K G.mu G.N H fs gs := by
  cases R.hp.obj n _ a e m with
  | ins e r => exact ⟨_, _, e, r⟩
theorem pw_fld {cl : Nat} {f : Nm} {fS : Str} (hf : fS = toS f) (hC : Cls X.K (ca X.K cl)) (hA : NoAttr X.K (ca X.K cl) fS) (ha : PET X Wx a sa) (hb : attributeBase a fS X.env (eval a X.env) = eval a X.env) : PEW X Wx (.Attribute a fS pos) (sFld cl sa f) := by
  subst hf
  refine PE.weak (pe_fld ha hb) fun σ H Q ⟨G, env, h, R, q⟩ => ⟨G, env, h, R, (PostR.bind (rel := rT X.K) q).mono fun v H1 ⟨w, h1, mu1, R1, S1, r1, q1⟩ => ?_⟩
  cases e : fldOf cl f w h1 with
  | none => rw [e] at q1; exact q1.elim
  | some z =>
    rw [e] at q1
    obtain ⟨n, fs, rfl, e1, e2⟩ := fldOf_some e
    obtain ⟨a, rfl, m⟩ := RT.inv_ref R1 r1
    obtain ⟨dx, gs, e3, rf⟩ := R1.ins e1 m
    obtain ⟨v', e4, rv⟩ := rf.look e2
    exact ⟨a, _, dx, gs, v', rfl, e3, hC, hA, e4, PostR.hW (w := z) q1 R1 rv⟩
end
end MP
end

section
set_option Elab.async false
set_option linter.all false
set_option maxRecDepth 100000
set_option autoImplicit false
/-! MP6: lists just made, what is walked, targets, comprehensions. -/
namespace MP
open PySem PySem.Spec PyProof.Rows L2
/-! ### just made -/
abbrev Gh.plus (G : Gh) (a : Addr) (mu : List Addr) : Gh := { G with n0 := fun b => G.n0 b ∨ b = a, mu := mu }
def PostF (K : PySem.W.Frag) (G : Gh) (env : MP.Env) (σ : Sg) (H : Hp) (Wx : WX) (Q : VK) : R W → Prop
  | .ok w h' => ∀ (a : Addr) (mu' : List Addr) (H' : Hp), Rel K (G.plus a mu') env h' σ H' → Step G H (G.at mu') H' → H a = none → RC K mu' (G.plus a mu').N H' a w → Q (.ref a) H'
  | .ex c p h' => ∀ (cls : Value) (d : Option Addr) (mu' : List Addr) (H' : Hp), Rel K (G.at mu') env h' σ H' → Step G H (G.at mu') H' → EX K (G.at mu') H' c p cls d → Wx cls d σ H'
  | .bad => False
def tF (K : PySem.W.Frag) (Wx : WX) (s : SE) : TE := fun σ H Q => ∃ G env h, Rel K G env h σ H ∧ PostF K G env σ H Wx Q (s env h)
abbrev PEF (X : Cx) (Wx : WX) (e : Expr) (s : SE) : Prop := PE X e (tF X.K Wx s)
section
variable {K : PySem.W.Frag} {G : Gh} {env : MP.Env} {h h1 : Hea} {σ : Sg} {H H1 : Hp} {Wx : WX} {mu mu1 : List Addr} {a : Addr}
/-- fewer are held by others -/
theorem Rel.fewer {G' : Gh} (R : Rel K G env h σ H) (e1 : G'.mu = G.mu) (e2 : G'.own = G.own) (hn : ∀ b, G'.n0 b → G.n0 b) : Rel K G' env h σ H := by
  have kp : Keeps G.N H G'.N H := fun b o eb nb => ⟨eb, fun z => nb (by
    rcases z with z | z | ⟨i, z⟩
    · exact .inl (hn b z)
    · exact .inr (.inl (e1 ▸ z))
    · exact .inr (.inr ⟨i, e2 ▸ z⟩))⟩
  have lg : Longer G.mu G'.mu := by rw [e1]; exact Longer.refl _
  exact {
    len := R.len
    val := fun i w y => let ⟨v, q, r⟩ := R.val i w y; ⟨v, q, r.keep kp lg⟩
    own := fun i w y => let ⟨b, q, z, r⟩ := R.own i w y; ⟨b, by rw [e2]; exact q, z, r.keep kp lg rfl⟩
    hp := ⟨by rw [e1]; exact R.hp.len, fun n o b q z => (R.hp.obj n o b q (e1 ▸ z)).keep kp lg rfl, by rw [e1]; exact R.hp.nd⟩
    oi := by rw [e2]; exact R.oi
    om := by
      rw [e1, e2]
      exact fun i b q => ⟨(R.om i b q).1, fun z => (R.om i b q).2.1 (hn b z), (R.om i b q).2.2⟩
    mn := by rw [e1]; exact fun b q z => R.mn b q (hn b z)
    nn := fun b q => R.nn b (hn b q) }
theorem Rel.forget (R : Rel K (G.plus a mu) env h σ H) : Rel K (G.at mu) env h σ H := R.fewer rfl rfl fun _ z => .inl z
theorem Rel.plus {o : HO} (R : Rel K G env h σ H) (e : H a = none) : Rel K (G.plus a G.mu) env h σ (L2.upd H a o) := by
  have R1 : Rel K G env h σ (L2.upd H a o) := R.upd e
  have kp : Keeps G.N H (G.plus a G.mu).N (L2.upd H a o) := fun b u eb nb => by
    have ne : b ≠ a := ne_of_none eb e
    refine ⟨by rw [upd_ne ne]; exact eb, fun z => ?_⟩
    rcases z with (z | z) | z
    · exact nb (.inl z)
    · exact ne z
    · exact nb (.inr z)
  have at_ : ∀ {b : Addr}, (H b).isSome = true → L2.upd H a o b = H b := fun q => upd_ne (some_ne q e)
  exact {
    len := R.len
    val := fun i w y => let ⟨v, q, r⟩ := R.val i w y; ⟨v, q, r.keep kp (Longer.refl _)⟩
    own := fun i w y => let ⟨b, q, z, r⟩ := R.own i w y; ⟨b, q, z, r.keep kp (Longer.refl _) (at_ r.there)⟩
    hp := ⟨R.hp.len, fun n ob b q z => (R.hp.obj n ob b q z).keep kp (Longer.refl _) (at_ (R.hp.obj n ob b q z).there), R.hp.nd⟩
    oi := R.oi
    om := fun i b q => ⟨(R.om i b q).1, fun z => z.elim (R.om i b q).2.1 (some_ne (R.om i b q).2.2 e), (R1.om i b q).2.2⟩
    mn := fun b q z => z.elim (R.mn b q) (some_ne (R.hp.there q) e)
    nn := fun b q => q.elim (R1.nn b) fun z => by rw [z, upd_same]; rfl }
theorem plus_in {b : Addr} (n : ¬ (G.plus a mu).N b) : ¬ (G.at mu).N b := fun z => n (z.elim (fun z => .inl (.inl z)) .inr)
theorem not_at (R : Rel K (G.plus a mu) env h σ H) (n : ¬ G.n0 a) : ¬ (G.at mu).N a := fun z => by
  rcases z with z | z | ⟨i, z⟩
  · exact n z
  · exact R.mn a z (.inr rfl)
  · exact (R.om i a z).2.1 (.inr rfl)
theorem keeps_plus : Keeps (G.plus a mu).N H (G.at mu).N H := fun b o e n => ⟨e, plus_in n⟩
theorem n0_none (R : Rel K G env h σ H) (e : H a = none) : ¬ G.n0 a := fun z => by
  have q := R.nn a z
  rw [e] at q
  cases q
theorem PostF.w {Q : VK} {r : R W} (R0 : Rel K G env h σ H) (p : PostR K G env σ H Wx (rW K) Q r) : PostF K G env σ H Wx Q r := by
  cases r with
  | ok w h' => exact fun a mu' H' R S n c => p (.ref a) mu' H' R.forget S ((c.keep keeps_plus (Longer.refl _) rfl).val (not_at R (n0_none R0 n)))
  | ex c q h' => exact p
  | bad => exact p
theorem none_back (R1 : Rel K (G.at mu1) env h1 σ H1) (S : Step G H (G.at mu1) H1) (e : H1 a = none) : H a = none := by
  cases q : H a with
  | none => rfl
  | some o =>
    have fin : ¬ (H1 a).isSome = true := by rw [e]; exact Bool.false_ne_true
    by_cases m : G.M a
    · rcases m with m | ⟨i, m⟩
      · obtain ⟨n, hn, en⟩ := List.mem_iff_getElem.mp m
        exact absurd (R1.hp.there (List.mem_of_getElem? (S.mu n a (by rw [List.getElem?_eq_getElem hn, en])))) fin
      · rw [S.oc i a m, q] at e
        cases e
    · rw [(S.keep a o q m).1] at e
      cases e
theorem PostF.later {Q : VK} {r : R W} (p : PostF K G env σ H Wx Q r) (R1 : Rel K (G.at mu1) env h1 σ H1) (S : Step G H (G.at mu1) H1) : PostF K (G.at mu1) env σ H1 Wx Q r := by
  cases r with
  | ok w h => exact fun a mu' H' R S' n c => p a mu' H' R (S.trans S') (none_back R1 S n) c
  | ex c q h => exact fun cls d mu' H' R S' e => p cls d mu' H' R (S.trans S') e
  | bad => exact p
theorem PostF.mono {Q Q' : VK} {r : R W} (p : PostF K G env σ H Wx Q r) (hq : ∀ v H, Q v H → Q' v H) : PostF K G env σ H Wx Q' r := by
  cases r with
  | ok w h => exact fun a mu' H' R S n c => hq _ _ (p a mu' H' R S n c)
  | ex c q h => exact p
  | bad => exact p
theorem PostF.bind {α β : Type} {rel : RL α β} {Q : VK} {r : R α} {f : α → Hea → R W} (p : PostF K G env σ H Wx Q (r.bind f)) :
    PostR K G env σ H Wx rel (fun v H1 => ∃ w h1 mu1, Rel K (G.at mu1) env h1 σ H1 ∧ Step G H (G.at mu1) H1 ∧ rel (G.at mu1) env H1 w v ∧ PostF K (G.at mu1) env σ H1 Wx Q (f w h1)) r := by
  cases r with
  | ok w h => exact fun v mu' H' R S rr => ⟨w, h, mu', R, S, rr, PostF.later p R S⟩
  | ex c q h => exact p
  | bad => exact p
/-- a list, a dict, just laid -/
theorem PostF.new {Q : VK} {w : W} {o : HO} (p : PostF K G env σ H Wx Q (.ok w h)) (R : Rel K G env h σ H) (e : H a = none) (c : RC K G.mu (G.plus a G.mu).N (L2.upd H a o) a w) : Q (.ref a) (L2.upd H a o) :=
  p a G.mu _ (R.plus e) (Step.upd R e) e c
theorem keeps_new {o : HO} (R : Rel K G env h σ H) (e : H a = none) : Keeps G.N H (G.plus a G.mu).N (L2.upd H a o) := fun b u eb nb => by
  have ne : b ≠ a := ne_of_none eb e
  refine ⟨by rw [upd_ne ne]; exact eb, fun z => ?_⟩
  rcases z with (z | z) | z
  · exact nb (.inl z)
  · exact ne z
  · exact nb (.inr z)
end
section
variable {X : Cx} {Wx : WX} {e : Expr} {es : List Expr} {s : SE} {ss : SA} {pos : Pos}
theorem PEF.w (p : PEF X Wx e s) : PEW X Wx e s := PE.weak p fun σ H Q ⟨G, env, h, R, q⟩ => ⟨G, env, h, R, PostF.w R q⟩
theorem pf_lst (hr : PAW X Wx es ss) : PEF X Wx (.List es pos) (sLst ss) :=
  PE.weak (pe_lst hr) fun σ H Q ⟨G, env, h, R, q⟩ => ⟨G, env, h, R, (PostF.bind (rel := rWs X.K) q).mono fun vs H1 ⟨ws, h1, mu1, R1, S1, r1, q1⟩ => by
    have q2 : PostF X.K (G.at mu1) env σ H1 Wx Q (if Nat.ble ws.length line = true then .ok (.lst ws) h1 else .bad) := q1
    split at q2
    · rename_i hz
      refine ⟨by rw [← r1.length]; exact le_line hz, fun p hp => ?_⟩
      exact PostF.new q2 R1 hp (.lst upd_same (r1.keep (keeps_new R1 hp) (Longer.refl _)))
    · exact q2.elim⟩
theorem pf_dctN : PEF X Wx (.Dict [] [] pos) sDctN := PE.weak pe_dnewK fun σ H Q ⟨G, env, h, R, q⟩ p hp => PostF.new (w := .dct []) q R hp (RC.dK (kvs := []) (ws := []) upd_same .nil)
end
/-! ### what is walked -/
/-- J walks ws: as long as the tracked things stay -/
structure Itc (K : PySem.W.Frag) (G : Gh) (H : Hp) (J : It) (ws : List W) : Prop where
  go : ∀ (i : Nat) (N1 : Addr → Prop) (H1 : Hp), Keeps G.N H N1 H1 → Fz H H1 → (∀ j a, G.own j = some a → H1 a = H a) → i < ws.length → J.go i H1
  stop : ∀ (i : Nat) (N1 : Addr → Prop) (H1 : Hp), Keeps G.N H N1 H1 → Fz H H1 → (∀ j a, G.own j = some a → H1 a = H a) → ws.length ≤ i → J.stop i H1
  yld : ∀ (i : Nat) (mu1 : List Addr) (N1 : Addr → Prop) (H1 : Hp) (x : V) (H2 : Hp) (w : W), Keeps G.N H N1 H1 → (∀ b, N1 b → (H1 b).isSome = true) → Longer G.mu mu1 → Fz H H1 → (∀ j a, G.own j = some a → H1 a = H a) → ws[i]? = some w → J.yld i H1 x H2 → Ext H1 H2 ∧ RW K mu1 N1 H2 w x
/-- .. whatever the frame's own names do -/
structure ItS (K : PySem.W.Frag) (G : Gh) (H : Hp) (J : It) (ws : List W) : Prop where
  go : ∀ (i : Nat) (N1 : Addr → Prop) (H1 : Hp), Keeps G.N H N1 H1 → i < ws.length → J.go i H1
  stop : ∀ (i : Nat) (N1 : Addr → Prop) (H1 : Hp), Keeps G.N H N1 H1 → ws.length ≤ i → J.stop i H1
  yld : ∀ (i : Nat) (mu1 : List Addr) (N1 : Addr → Prop) (H1 : Hp) (x : V) (H2 : Hp) (w : W), Keeps G.N H N1 H1 → (∀ b, N1 b → (H1 b).isSome = true) → Longer G.mu mu1 → ws[i]? = some w → J.yld i H1 x H2 → Ext H1 H2 ∧ RW K mu1 N1 H2 w x
theorem ItS.c {K : PySem.W.Frag} {G : Gh} {H : Hp} {J : It} {ws : List W} (s : ItS K G H J ws) : Itc K G H J ws :=
  ⟨fun i N1 H1 k _ _ => s.go i N1 H1 k, fun i N1 H1 k _ _ => s.stop i N1 H1 k, fun i m N1 H1 x H2 w k nn l _ _ => s.yld i m N1 H1 x H2 w k nn l⟩
abbrev RI := Gh → MP.Env → Hp → List W → It → Prop
def riS (K : PySem.W.Frag) : RI := fun G _ H ws J => ItS K G H J ws
def riC (K : PySem.W.Frag) : RI := fun G _ H ws J => Itc K G H J ws
abbrev PIS (X : Cx) (Wx : WX) (tg iter : Expr) (si : SI) : Prop := PI X tg iter (tR X.K Wx (riS X.K) si)
abbrev PIC (X : Cx) (Wx : WX) (tg iter : Expr) (si : SI) : Prop := PI X tg iter (tR X.K Wx (riC X.K) si)
section
variable {X : Cx} {Wx : WX} {tg a b : Expr} {sa sb : SE} {pos p : Pos}
theorem PI.weak {iter : Expr} {t t' : TI} (q : PI X tg iter t) (h : ∀ σ H Q, t' σ H Q → t σ H Q) : PI X tg iter t' := ⟨fun pins s σ H Q I z => q.run pins s σ H Q I (h σ H Q z)⟩
theorem PI.or {iter : Expr} {t t' : TI} (q : PI X tg iter t) (q' : PI X tg iter t') : PI X tg iter (fun σ H R => t σ H R ∨ t' σ H R) :=
  ⟨fun pins s σ H Q I z => z.elim (q.run pins s σ H Q I) (q'.run pins s σ H Q I)⟩
theorem PIS.c {iter : Expr} {si : SI} (q : PIS X Wx tg iter si) : PIC X Wx tg iter si := PI.weak q fun σ H Q ⟨G, env, h, R, z⟩ => ⟨G, env, h, R, by
  generalize si env h = r at z ⊢
  cases r with
  | ok w h' => exact fun v mu' H' R' S rr => z v mu' H' R' S rr.c
  | ex c p h' => exact z
  | bad => exact z⟩
/-- lists and tuples by what they are worth -/
theorem its_tup {K : PySem.W.Frag} {G : Gh} {H : Hp} {a : Addr} {xs : List V} {ws : List W} (t : TupAt K G.N H a xs) (r : RWs K G.mu G.N H ws xs) : ItS K G H (Itt K a) ws where
  go := fun i N1 H1 k hi => by
    have hl := r.length
    exact ⟨xs, xs[i]'(by omega), (t.keep k).sq, by simp⟩
  stop := fun i N1 H1 k hi => ⟨xs, (t.keep k).sq, by rw [← r.length]; exact hi⟩
  yld := fun i m N1 H1 x H2 w k nn l e y => by
    obtain ⟨rfl, y⟩ := y
    obtain ⟨v, e1, r1⟩ := r.get e
    have e2 := y xs (t.keep k).sq
    rw [e1] at e2
    cases e2
    exact ⟨Ext.refl _, r1.keep k l⟩
theorem its_lst {K : PySem.W.Frag} {G : Gh} {H : Hp} {a : Addr} {xs : List V} {ws : List W} (t : SclAt K G.N H a xs) (r : RWs K G.mu G.N H ws xs) : ItS K G H (Itl K a) ws where
  go := fun i N1 H1 k hi => by
    have hl := r.length
    exact ⟨xs, xs[i]'(by omega), (t.keep k).sq, by simp⟩
  stop := fun i N1 H1 k hi => ⟨xs, (t.keep k).sq, by rw [← r.length]; exact hi⟩
  yld := fun i m N1 H1 x H2 w k nn l e y => by
    obtain ⟨rfl, y⟩ := y
    obtain ⟨v, e1, r1⟩ := r.get e
    have e2 := y xs (t.keep k).sq
    rw [e1] at e2
    cases e2
    exact ⟨Ext.refl _, r1.keep k l⟩
/-- a list that this frame's name alone holds, within an expression -/
theorem itc_own {K : PySem.W.Frag} {G : Gh} {H : Hp} {a : Addr} {xs : List V} {ws : List W} {j : Nat} (o : G.own j = some a) (t : H a = some (.lst xs)) (r : RWs K G.mu G.N H ws xs) : Itc K G H (Itl K a) ws where
  go := fun i N1 H1 k _ oc hi => by
    have hl := r.length
    exact ⟨xs, xs[i]'(by omega), SqL.of ((oc j a o).trans t), by simp⟩
  stop := fun i N1 H1 k _ oc hi => ⟨xs, SqL.of ((oc j a o).trans t), by rw [← r.length]; exact hi⟩
  yld := fun i m N1 H1 x H2 w k nn l _ oc e y => by
    obtain ⟨rfl, y⟩ := y
    obtain ⟨v, e1, r1⟩ := r.get e
    have e2 := y xs (SqL.of ((oc j a o).trans t))
    rw [e1] at e2
    cases e2
    exact ⟨Ext.refl _, r1.keep k l⟩
theorem pis_seq (ha : PEW X Wx a sa) : PIS X Wx tg a (iSeq sa) :=
  PI.weak (PI.or (pi_list ha) (pi_tup ha)) fun σ H Q ⟨G, env, h, R, q⟩ => by
    have q0 : PostR X.K G env σ H Wx (riS X.K) Q ((sa env h).bind fun x h => ofO (itemsOf x) h) := q
    cases es : sa env h with
    | ok w h' =>
      rw [es] at q0
      have q1 : PostR X.K G env σ H Wx (riS X.K) Q (ofO (itemsOf w) h') := q0
      cases w with
      | tup ws =>
        refine .inr ⟨G, env, h, R, ?_⟩
        rw [es]
        intro v mu' H' R' S r
        obtain ⟨b, xs, rfl, t, rr⟩ := RW.inv_tup r
        exact ⟨b, rfl, ⟨xs, t.sq⟩, q1 _ mu' H' R' S (its_tup t rr)⟩
      | lst ws =>
        refine .inl ⟨G, env, h, R, ?_⟩
        rw [es]
        intro v mu' H' R' S r
        obtain ⟨b, xs, rfl, t, rr⟩ := RW.inv_lst r
        exact ⟨b, rfl, ⟨xs, SqL.of t.1⟩, q1 _ mu' H' R' S (its_lst (.inl ⟨.inl t.1, t.2⟩) rr)⟩
      | scr ws =>
        refine .inl ⟨G, env, h, R, ?_⟩
        rw [es]
        intro v mu' H' R' S r
        cases r with
        | scr t => exact ⟨_, rfl, ⟨_, t.sq⟩, q1 _ mu' H' R' S (its_lst t (ints_rw ws))⟩
      | _ => exact q1.elim
    | ex c p h' =>
      rw [es] at q0
      refine .inl ⟨G, env, h, R, ?_⟩
      rw [es]
      exact q0
    | bad =>
      rw [es] at q0
      exact q0.elim
theorem pic_seq (ha : PET X Wx a sa) : PIC X Wx tg a (iSeq sa) :=
  PI.weak (PI.or (pi_list ha) (pi_tup ha)) fun σ H Q ⟨G, env, h, R, q⟩ => by
    have q0 : PostR X.K G env σ H Wx (riC X.K) Q ((sa env h).bind fun x h => ofO (itemsOf x) h) := q
    cases es : sa env h with
    | ok w h' =>
      rw [es] at q0
      have q1 : PostR X.K G env σ H Wx (riC X.K) Q (ofO (itemsOf w) h') := q0
      cases w with
      | tup ws =>
        refine .inr ⟨G, env, h, R, ?_⟩
        rw [es]
        intro v mu' H' R' S r
        obtain ⟨b, xs, rfl, t, rr⟩ := RT.inv_tup R' r
        exact ⟨b, rfl, ⟨xs, t.sq⟩, q1 _ mu' H' R' S (its_tup t rr).c⟩
      | lst ws =>
        refine .inl ⟨G, env, h, R, ?_⟩
        rw [es]
        intro v mu' H' R' S r
        rcases r with r | ⟨j, b, ej, oj, rfl⟩
        · obtain ⟨b, xs, rfl, t, rr⟩ := RW.inv_lst r
          exact ⟨b, rfl, ⟨xs, SqL.of t.1⟩, q1 _ mu' H' R' S (its_lst (.inl ⟨.inl t.1, t.2⟩) rr).c⟩
        · obtain ⟨b', e1, _, cc⟩ := R'.own _ _ ej
          rw [oj] at e1
          cases e1
          cases cc with
          | lst t rr => exact ⟨b, rfl, ⟨_, SqL.of t⟩, q1 _ mu' H' R' S (itc_own oj t rr)⟩
      | scr ws =>
        refine .inl ⟨G, env, h, R, ?_⟩
        rw [es]
        intro v mu' H' R' S r
        rcases r with r | ⟨j, b, ej, oj, rfl⟩
        · cases r with
          | scr t => exact ⟨_, rfl, ⟨_, t.sq⟩, q1 _ mu' H' R' S (its_lst t (ints_rw ws)).c⟩
        · obtain ⟨b', e1, _, cc⟩ := R'.own _ _ ej
          cases cc
      | _ => exact q1.elim
    | ex c p h' =>
      rw [es] at q0
      refine .inl ⟨G, env, h, R, ?_⟩
      rw [es]
      exact q0
    | bad =>
      rw [es] at q0
      exact q0.elim
theorem upI_get (lo : Int) : ∀ (n i : Nat) (w : W), (upI lo n)[i]? = some w → w = .int (lo + i) ∧ i < n := by
  intro n
  induction n generalizing lo with
  | zero => intro i w e; simp [upI] at e
  | succ n ih =>
    intro i w e
    cases i with
    | zero =>
      simp [upI] at e
      subst e
      simp
    | succ i =>
      have e' : (upI (lo + 1) n)[i]? = some w := by simpa [upI] using e
      obtain ⟨h1, h2⟩ := ih (lo + 1) i w e'
      refine ⟨?_, by omega⟩
      rw [h1]
      congr 1
      omega
theorem upI_len (lo : Int) : ∀ n : Nat, (upI lo n).length = n := by
  intro n
  induction n generalizing lo with
  | zero => rfl
  | succ n ih => simp [upI, ih]
theorem its_rng {K : PySem.W.Frag} {G : Gh} {H : Hp} (lo : Int) (n : Nat) : ItS K G H (Itr lo n) (upI lo n) where
  go := fun i N1 H1 k hi => by rw [upI_len] at hi; exact hi
  stop := fun i N1 H1 k hi => by rw [upI_len] at hi; exact hi
  yld := fun i m N1 H1 x H2 w k nn l e y => by
    obtain ⟨rfl, rfl⟩ := y
    obtain ⟨rfl, _⟩ := upI_get lo n i w e
    exact ⟨Ext.refl _, .int _⟩
theorem rngOk_of {i : Int} (h : rngOk i = true) : -(2 ^ 62) ≤ i ∧ i < 2 ^ 62 := by
  unfold rngOk at h
  rw [Bool.and_eq_true] at h
  have h1 := of_decide_eq_true h.1
  have h2 := of_decide_eq_true h.2
  omega
theorem pis_rg1 {sr : SA} (hg : Gl X "range") (hm : X.mg "range" = none) (hr : PAW X Wx [a] sr) (hs : starEach [a] X.env = [(false, eval a X.env)]) : PIS X Wx tg (.Call (.Name "range" p) [a] [] pos) (iRg1 sr) :=
  PI.weak (pi_range1 hg hm hr hs) fun σ H Q ⟨G, env, h, R, q⟩ => ⟨G, env, h, R, (PostR.bind (rel := rWs X.K) q).mono fun vs H1 ⟨ws, h1, mu1, R1, S1, r1, q1⟩ => by
    cases ws with
    | nil => exact False.elim q1
    | cons w ws =>
      cases ws with
      | nil =>
        obtain ⟨x, r', rfl, rx, rn⟩ := RWs.inv_cons r1
        cases RWs.inv_nil rn
        cases w with
        | int n =>
          have q2 : PostR X.K (G.at mu1) env σ H1 Wx (riS X.K) Q (if rngOk n = true then .ok (upI 0 n.toNat) h1 else .bad) := q1
          split at q2
          · rename_i hz
            obtain ⟨h1, h2⟩ := rngOk_of hz
            exact ⟨n, by rw [rx.inv_int], h1, h2, PostR.here q2 R1 (its_rng 0 n.toNat)⟩
          · exact q2.elim
        | _ => exact False.elim q1
      | cons _ _ => cases w <;> exact False.elim q1⟩
theorem pis_rg2 {sr : SA} (hg : Gl X "range") (hm : X.mg "range" = none) (hr : PAW X Wx [a, b] sr) (hs : starEach [a, b] X.env = [(false, eval a X.env), (false, eval b X.env)]) (hs2 : starEach [b] X.env = [(false, eval b X.env)]) : PIS X Wx tg (.Call (.Name "range" p) [a, b] [] pos) (iRg2 sr) :=
  PI.weak (pi_range2 hg hm hr hs hs2) fun σ H Q ⟨G, env, h, R, q⟩ => ⟨G, env, h, R, (PostR.bind (rel := rWs X.K) q).mono fun vs H1 ⟨ws, h1, mu1, R1, S1, r1, q1⟩ => by
    cases ws with
    | nil => exact False.elim q1
    | cons w ws =>
      cases ws with
      | nil => cases w <;> exact False.elim q1
      | cons u ws =>
        cases ws with
        | nil =>
          obtain ⟨x, r', rfl, rx, rn⟩ := RWs.inv_cons r1
          obtain ⟨y, r'', rfl, ry, rn⟩ := RWs.inv_cons rn
          cases RWs.inv_nil rn
          cases w with
          | int i =>
            cases u with
            | int j =>
              have q2 : PostR X.K (G.at mu1) env σ H1 Wx (riS X.K) Q (if (rngOk i && rngOk j) = true then .ok (upI i (j - i).toNat) h1 else .bad) := q1
              split at q2
              · rename_i hz
                rw [Bool.and_eq_true] at hz
                obtain ⟨h1, h2⟩ := rngOk_of hz.1
                obtain ⟨h3, h4⟩ := rngOk_of hz.2
                exact ⟨i, j, by rw [rx.inv_int, ry.inv_int], ⟨h1, h2, h3, h4⟩, PostR.here q2 R1 (its_rng i (j - i).toNat)⟩
              · exact q2.elim
            | _ => exact False.elim q1
          | _ => exact False.elim q1
        | cons _ _ => cases w <;> cases u <;> exact False.elim q1⟩
theorem signs_get {s : Nm} {i : Nat} {w : W} (e : (signs s)[i]? = some w) : ∃ c, s[i]? = some c ∧ w = .str [c] := by
  unfold signs at e
  rw [List.getElem?_map] at e
  cases q : s[i]? with
  | none => rw [q] at e; cases e
  | some c => rw [q] at e; cases e; exact ⟨c, rfl, rfl⟩
theorem its_str {K : PySem.W.Frag} {G : Gh} {H : Hp} (s : Nm) : ItS K G H (Its (toS s)) (signs s) where
  go := fun i N1 H1 k hi => by
    have h : i < s.length := by simpa [signs] using hi
    first
      | exact (show i < (toS s).cps.size by simpa using h)
      | (refine ⟨s[i], ?_⟩; simp [h])
  stop := fun i N1 H1 k hi => by
    have h : s.length ≤ i := by simpa [signs] using hi
    exact (show (toS s).cps.size ≤ i by simpa using h)
  yld := fun i m N1 H1 x H2 w k nn l e y => by
    obtain ⟨rfl, c, hc, rfl⟩ := y
    obtain ⟨c', e1, rfl⟩ := signs_get e
    have e2 : s[i]? = some c := by simpa using hc
    rw [e1] at e2
    cases e2
    exact ⟨Ext.refl _, .str [c]⟩
theorem pis_str (ha : PET X Wx a sa) : PIS X Wx tg a (MP.iStr sa) :=
  PI.weak (pi_str ha) fun σ H Q ⟨G, env, h, R, q⟩ => ⟨G, env, h, R, (PostR.bind (rel := rT X.K) q).mono fun v H1 ⟨w, h1, mu1, R1, S1, r1, q1⟩ => by
    cases w with
    | str s => exact ⟨toS s, RT.inv_str R1 r1, PostR.here q1 R1 (its_str s)⟩
    | _ => exact False.elim q1⟩
end
/-! ### targets -/
def inS (j : Nat) : List Nat → Bool
  | [] => false
  | i :: r => i == j || inS j r
/-- what a store into the slots sl leaves -/
def tG (K : PySem.W.Frag) (sl : List Nat) (g : Tg) : TG := fun v σ H Q => ∃ G env h w, Rel K G env h σ H ∧ RW K G.mu G.N H w v ∧ ∃ env', g w env = some env' ∧
  ∀ σ', Rel K G env' h σ' H → σ'.length = σ.length → (∀ j, inS j sl = false → σ'[j]? = σ[j]?) → Q σ' H
abbrev PGW (X : Cx) (tg : Expr) (sl : List Nat) (g : Tg) : Prop := PG X tg (tG X.K sl g)
def tGs (K : PySem.W.Frag) (sl : List Nat) (g : Tgs) : TGs := fun vs σ H Q => ∃ G env h ws, Rel K G env h σ H ∧ RWs K G.mu G.N H ws vs ∧ ∃ env', g ws env = some env' ∧
  ∀ σ', Rel K G env' h σ' H → σ'.length = σ.length → (∀ j, inS j sl = false → σ'[j]? = σ[j]?) → Q σ' H
abbrev PGsW (X : Cx) (ts : List Expr) (sl : List Nat) (g : Tgs) : Prop := PGs X ts (tGs X.K sl g)
section
variable {X : Cx} {Wx : WX} {t : Expr} {ts : List Expr} {pos : Pos}
theorem PG.weak {u u' : TG} (q : PG X t u) (h : ∀ v σ H Q, u' v σ H Q → u v σ H Q) : PG X t u' := ⟨fun pins s σ H v w Q I r z => q.run pins s σ H v w Q I r (h v σ H Q z)⟩
theorem PGs.weak {u u' : TGs} (q : PGs X ts u) (h : ∀ v σ H Q, u' v σ H Q → u v σ H Q) : PGs X ts u' := ⟨fun pins s σ H v w Q I r z => q.run pins s σ H v w Q I r (h v σ H Q z)⟩
theorem pgw_nm {i : Nat} {x : Str} (hN : X.N.Nodup) (hi : X.N[i]? = some x) (hx : Loc X.env.scope x) (hf : X.fn x = true ∨ X.env.scope.names.lookup x = some .local) : PGW X (.Name x pos) [i] (gNm i) :=
  PG.weak (pg_name hN hi hx hf) fun v σ H Q ⟨G, env, h, w, R, r, env', e, q⟩ => by
    unfold gNm at e
    split at e
    · rename_i hl
      cases e
      refine q _ (R.set r (Nat.le_of_ble_eq_true hl)) (List.length_set ..) fun j hj => List.getElem?_set_ne ?_
      intro z
      subst z
      simp [inS] at hj
    · cases e
theorem pgsw_nil : PGsW X [] [] gsNil := PGs.weak pgs_nil fun v σ H Q ⟨G, env, h, ws, R, r, env', e, q⟩ => by
  unfold gsNil at e
  cases ws with
  | nil =>
    cases e
    exact ⟨RWs.inv_nil r, q σ R rfl fun _ _ => rfl⟩
  | cons _ _ => cases e
theorem inS_app (j : Nat) : ∀ a b : List Nat, inS j (a ++ b) = (inS j a || inS j b)
  | [], b => by simp [inS]
  | x :: a, b => by simp [inS, inS_app j a b, Bool.or_assoc]
theorem pgsw_cons {sl sl' : List Nat} {g : Tg} {u : Tgs} (h1 : PGW X t sl g) (h2 : PGsW X ts sl' u) (hs : (assignEach (t :: ts) X.env).map (·.2) = assign t X.env :: (assignEach ts X.env).map (·.2)) : PGsW X (t :: ts) (sl ++ sl') (gsCons g u) :=
  PGs.weak (pgs_cons h1 h2 hs) fun v σ H Q ⟨G, env, h, ws, R, r, env', e, q⟩ => by
    cases ws with
    | nil => cases e
    | cons w ws =>
      obtain ⟨x, r', rfl, rx, rr⟩ := RWs.inv_cons r
      have e' : (match g w env with
        | some e' => u ws e'
        | none => none) = some env' := e
      cases eg : g w env with
      | none => rw [eg] at e'; cases e'
      | some env1 =>
        rw [eg] at e'
        refine ⟨x, r', rfl, G, env, h, w, R, rx, env1, eg, fun σ1 R1 l1 s1 => ⟨G, env1, h, ws, R1, rr, env', e', fun σ2 R2 l2 s2 => q σ2 R2 (l2.trans l1) fun j hj => ?_⟩⟩
        rw [inS_app] at hj
        have hj1 : inS j sl = false := by cases z : inS j sl with | false => rfl | true => rw [z] at hj; cases hj
        have hj2 : inS j sl' = false := by rw [hj1] at hj; exact hj
        exact (s2 j hj2).trans (s1 j hj1)
theorem pgw_tu {k n : Nat} {sl : List Nat} {u : Tgs} (hc : X.calm = true) (h : PGsW X ts sl u) (hn : (assignEach ts X.env).length = n) (hst : (assignEach ts X.env).findIdx? (·.1) = none) : PGW X (.Tuple ts k pos) sl (gTu n u) :=
  PG.weak (pg_tup hc h hn hst) fun v σ H Q ⟨G, env, h, w, R, r, env', e, q⟩ => by
    cases w with
    | tup ws =>
      have e' : (if (ws.length == n) = true then u ws env else none) = some env' := e
      split at e'
      · rename_i hl
        obtain ⟨a, xs, rfl, t, rr⟩ := r.inv_tup
        exact ⟨a, xs, rfl, t.sq, by rw [← rr.length]; simpa using hl, G, env, h, ws, R, rr, env', e', q⟩
      · cases e'
    | _ => cases e
end

/-! ### comprehensions -/
/-- all but D stays -/
structure StepX (D : Addr) (G : Gh) (H : Hp) (G' : Gh) (H' : Hp) : Prop where
  keep : ∀ a o, H a = some o → ¬ G.M a → a ≠ D → H' a = some o ∧ ¬ G'.M a
  mu : Longer G.mu G'.mu
  n0 : G'.n0 = G.n0
  ow : G'.own = G.own
  fz : Fz H H'
  oc : ∀ (i : Nat) (a : Addr), G.own i = some a → H' a = H a
section
variable {K : PySem.W.Frag} {G G1 G2 : Gh} {env : MP.Env} {h h1 : Hea} {σ : Sg} {H H1 H2 : Hp} {D : Addr}
theorem n0_of {b : Addr} (hD : G.n0 D) (z : b = D) : G.n0 b := by rw [z]; exact hD
theorem Step.x (S : Step G H G1 H1) : StepX D G H G1 H1 := ⟨fun a o e n _ => S.keep a o e n, S.mu, S.n0, S.ow, S.fz, S.oc⟩
theorem StepX.refl : StepX D G H G H := (Step.refl G H).x
theorem StepX.trans (a : StepX D G H G1 H1) (b : StepX D G1 H1 G2 H2) : StepX D G H G2 H2 :=
  ⟨fun x o e n d => let ⟨e1, n1⟩ := a.keep x o e n d; b.keep x o e1 n1 d, fun n x e => b.mu n x (a.mu n x e), b.n0.trans a.n0, b.ow.trans a.ow, fun x od u e => b.fz x od u (a.fz x od u e), fun i x e => (b.oc i x (by rw [a.ow]; exact e)).trans (a.oc i x e)⟩
theorem StepX.keepN (S : StepX D G H G1 H1) (hD : G.n0 D) : Keeps G.N H G1.N H1 := fun x o e n => by
  obtain ⟨e1, n1⟩ := S.keep x o e (fun m => n (.inr m)) fun z => n (.inl (n0_of hD z))
  refine ⟨e1, fun z => ?_⟩
  rcases z with z | z
  · rw [S.n0] at z; exact n (.inl z)
  · exact n1 z
theorem Rel.n0upd {o : HO} (R : Rel K G env h σ H) (hD : G.n0 D) : Rel K G env h σ (L2.upd H D o) := by
  have kp : Keeps G.N H G.N (L2.upd H D o) := fun b u e n => ⟨by rw [upd_ne (fun z => n (.inl (n0_of hD z)))]; exact e, n⟩
  exact {
    len := R.len
    val := fun i w y => let ⟨v, q, r⟩ := R.val i w y; ⟨v, q, r.keep kp (Longer.refl _)⟩
    own := fun i w y => let ⟨b, q, z, r⟩ := R.own i w y; ⟨b, q, z, r.keep kp (Longer.refl _) (upd_ne fun e => (R.om i b q).2.1 (n0_of hD e))⟩
    hp := ⟨R.hp.len, fun n ob b q z => (R.hp.obj n ob b q z).keep kp (Longer.refl _) (upd_ne fun e => R.mn b (List.mem_of_getElem? z) (n0_of hD e)), R.hp.nd⟩
    oi := R.oi
    om := fun i b q => ⟨(R.om i b q).1, (R.om i b q).2.1, by rw [upd_ne fun e => (R.om i b q).2.1 (n0_of hD e)]; exact (R.om i b q).2.2⟩
    mn := R.mn
    nn := fun b q => by
      by_cases e : b = D
      · rw [e, upd_same]; rfl
      · rw [upd_ne e]; exact R.nn b q }
theorem StepX.upd {o : HO} (R : Rel K G env h σ H) (hD : G.n0 D) (nf : ∀ od u, H D ≠ some (.frz od u)) : StepX D G H G (L2.upd H D o) :=
  ⟨fun a u e n d => ⟨by rw [upd_ne d]; exact e, n⟩, Longer.refl _, rfl, rfl, fun a od u e => by rw [upd_ne (fun z => nf od u (by rw [← z]; exact e))]; exact e, fun i a e => upd_ne fun z => (R.om i a e).2.1 (n0_of hD z)⟩
theorem Rel.backX {env2 : MP.Env} {σ2 : Sg} (R : Rel K G env h σ H) (S : StepX D G H G1 H1) (hD : G.n0 D) (R1 : Rel K G1 env2 h1 σ2 H1) : Rel K G1 env h1 σ H1 where
  len := R.len
  val := fun i w y => let ⟨v, e1, r⟩ := R.val i w y; ⟨v, e1, r.keep (S.keepN hD) S.mu⟩
  own := fun i w y => let ⟨a, e1, e2, r⟩ := R.own i w y; ⟨a, by rw [S.ow]; exact e1, e2, r.keep (S.keepN hD) S.mu (S.oc i a e1)⟩
  hp := R1.hp
  oi := R1.oi
  om := R1.om
  mn := R1.mn
  nn := R1.nn
theorem wipeE_length (e : MP.Env) : ∀ vs : List Nat, (wipeE e vs).length = e.length
  | [] => rfl
  | v :: vs => by unfold wipeE; rw [List.length_set, wipeE_length e vs]
theorem wipeE_some {e : MP.Env} {i : Nat} {x : Bool × W} : ∀ {vs : List Nat}, (wipeE e vs)[i]? = some (some x) → e[i]? = some (some x) ∧ i ∉ vs
  | [], h => ⟨h, by simp⟩
  | v :: vs, h => by
    unfold wipeE at h
    by_cases hi : v = i
    · subst hi
      by_cases hv : v < (wipeE e vs).length
      · rw [List.getElem?_set_self hv] at h; cases h
      · rw [List.getElem?_eq_none (by simpa using hv)] at h; cases h
    · rw [List.getElem?_set_ne hi] at h
      obtain ⟨h1, h2⟩ := wipeE_some h
      exact ⟨h1, by simp only [List.mem_cons, not_or]; exact ⟨fun z => hi z.symm, h2⟩⟩
theorem Rel.wiped (R : Rel K G env h σ H) (vs : List Nat) : Rel K G (wipeE env vs) h (wipe σ vs) H :=
  R.weak (by rw [wipeE_length, wipe_length]; exact R.len) fun i b w e => by
    obtain ⟨e1, e2⟩ := wipeE_some e
    exact ⟨e1, wipe_out e2⟩
theorem wipe_in : ∀ {σ : Sg} {vs : List Nat} {i : Nat}, i ∈ vs → i < σ.length → (wipe σ vs)[i]? = some none
  | σ, [], i, h, _ => by cases h
  | σ, v :: vs, i, h, hl => by
    unfold wipe
    by_cases e : v = i
    · subst e
      rw [List.getElem?_set_self (by rw [wipe_length]; exact hl)]
    · rw [List.getElem?_set_ne e]
      refine wipe_in ?_ hl
      rcases List.mem_cons.mp h with z | z
      · exact absurd z.symm e
      · exact z
theorem wipe_same {σ σ2 : Sg} {vs sl : List Nat} (sub : ∀ j, inS j sl = true → j ∈ vs) (hl : σ2.length = (wipe σ vs).length) (hs : ∀ j, inS j sl = false → σ2[j]? = (wipe σ vs)[j]?) : wipe σ2 vs = wipe σ vs := by
  have hl2 : σ2.length = σ.length := by rw [hl, wipe_length]
  refine List.ext_getElem? fun j => ?_
  by_cases hj : j ∈ vs
  · by_cases hlt : j < σ.length
    · rw [wipe_in hj (by omega), wipe_in hj hlt]
    · rw [List.getElem?_eq_none (by rw [wipe_length]; omega), List.getElem?_eq_none (by rw [wipe_length]; omega)]
  · rw [wipe_out hj]
    refine hs j ?_
    cases z : inS j sl with
    | false => rfl
    | true => exact absurd (sub j z) hj
end
abbrev W0 : WX := fun _ _ _ _ => False
/-- the loop of a comprehension's clause, D the list that grows -/
theorem lc_loop {K : PySem.W.Frag} {J : It} {ws acc0 xs : List W} {vacc0 : List V} {env : MP.Env} {σ : Sg} {G : Gh} {h0 hf : Hea} {H0 : Hp} {D : Addr} {vs sl : List Nat} {g : Tg} {t : MP.ST} {s : SE} {Ex : Hp → Prop}
    (R0 : Rel K G env h0 σ H0) (hD : G.n0 D) (D0 : H0 D = some (.lst vacc0)) (A0 : RWs K G.mu G.N H0 acc0 vacc0) (itc : Itc K G H0 J ws) (sub : ∀ j, inS j sl = true → j ∈ vs)
    (run : lcL (wipeE env vs) g t s ws acc0 h0 = .ok xs hf)
    (fin : ∀ mu H vacc, Rel K (G.at mu) env hf σ H → StepX D G H0 (G.at mu) H → H D = some (.lst vacc) → RWs K mu (G.at mu).N H xs vacc → Ex H) :
    ∃ W : Nat → Nat → Hp → Prop, (∃ m, W 0 m H0) ∧ ∀ i m H, W i m H →
      (J.stop i H ∧ Ex H) ∨ (J.go i H ∧ ∃ Nx : Hp → Prop, (∀ H', Nx H' → ∃ m', m' < m ∧ W (i + 1) m' H') ∧ ∀ x H', J.yld i H x H' → tG K sl g x (wipe σ vs) H' fun σ2 H2 => wipe σ2 vs = wipe σ vs ∧ tR K W0 rB t σ2 H2 fun b H3 =>
        if b = true then tR K W0 (rW K) s σ2 H3 fun y H4 => ∃ acc, H4 D = some (.lst acc) ∧ acc.length < sizeLine ∧ Nx (L2.upd H4 D (.lst (acc ++ [y]))) else Nx H3) := by
  refine ⟨fun i m H => m + i = ws.length ∧ ∃ mu acc vacc h, Rel K (G.at mu) env h σ H ∧ StepX D G H0 (G.at mu) H ∧ H D = some (.lst vacc) ∧ RWs K mu (G.at mu).N H acc vacc ∧ lcL (wipeE env vs) g t s (ws.drop i) acc h = .ok xs hf,
    ⟨ws.length, rfl, G.mu, acc0, vacc0, h0, R0, StepX.refl, D0, A0, run⟩, ?_⟩
  rintro i m H ⟨hm, mu, acc, vacc, h, R, S, hDl, A, rn⟩
  have kN : Keeps G.N H0 (G.at mu).N H := S.keepN hD
  by_cases hi : i < ws.length
  · refine .inr ⟨itc.go i _ H kN S.fz S.oc hi, fun H' => (m - 1) + (i + 1) = ws.length ∧ ∃ mu acc vacc h, Rel K (G.at mu) env h σ H' ∧ StepX D G H0 (G.at mu) H' ∧ H' D = some (.lst vacc) ∧ RWs K mu (G.at mu).N H' acc vacc ∧ lcL (wipeE env vs) g t s (ws.drop (i + 1)) acc h = .ok xs hf,
      fun H' z => ⟨m - 1, by omega, z⟩, fun x H2 y => ?_⟩
    have ew : ws[i]? = some ws[i] := by simp [hi]
    obtain ⟨ext, rx⟩ := itc.yld i mu _ H x H2 ws[i] kN (fun b => R.there) S.mu S.fz S.oc ew y
    have ed : ws.drop i = ws[i] :: ws.drop (i + 1) := (List.drop_eq_getElem_cons hi)
    rw [ed] at rn
    have R2 : Rel K (G.at mu) env h σ H2 := R.ext ext
    have S2 : StepX D G H0 (G.at mu) H2 := S.trans (Step.ext R ext).x
    have D2 : H2 D = some (.lst vacc) := ext _ _ hDl
    have A2 : RWs K mu (G.at mu).N H2 acc vacc := A.keep ext.keeps (Longer.refl _)
    have rn1 : (match g ws[i] (wipeE env vs) with
      | none => MP.R.bad
      | some e' => match t e' h with
        | .ok true h => (match s e' h with
          | .ok x h => if Nat.blt acc.length line then lcL (wipeE env vs) g t s (ws.drop (i + 1)) (acc ++ [x]) h else .bad
          | _ => .bad)
        | .ok false h => lcL (wipeE env vs) g t s (ws.drop (i + 1)) acc h
        | _ => .bad) = .ok xs hf := rn
    cases eg : g ws[i] (wipeE env vs) with
    | none => rw [eg] at rn1; cases rn1
    | some env' =>
      rw [eg] at rn1
      refine ⟨G.at mu, wipeE env vs, h, ws[i], R2.wiped vs, rx, env', eg, fun σ2 R3 l3 s3 => ⟨wipe_same sub l3 s3, G.at mu, env', h, R3, ?_⟩⟩
      dsimp only at rn1
      have nM : ¬ (G.at mu).M D := fun z => by
        rcases z with z | ⟨j, z⟩
        · exact R.mn D z hD
        · exact (R.om j D z).2.1 hD
      cases et : t env' h with
      | ok b h2 =>
        rw [et] at rn1
        intro b' mu' H3 R4 S4 eb
        have eb' : b = b' := eb
        subst eb'
        have D3 : H3 D = some (.lst vacc) := (S4.keep D _ D2 nM).1
        have S4' : StepX D G H0 ((G.at mu).at mu') H3 := S2.trans S4.x
        have A3 : RWs K mu' ((G.at mu).at mu').N H3 acc vacc := A2.step S4.toStepS
        cases b with
        | false =>
          rw [if_neg Bool.false_ne_true]
          exact ⟨by omega, mu', acc, vacc, h2, R2.back S4 R4, S4', D3, A3, rn1⟩
        | true =>
          rw [if_pos rfl]
          refine ⟨_, env', h2, R4, ?_⟩
          dsimp only at rn1
          cases es : s env' h2 with
          | ok z h3 =>
            rw [es] at rn1
            dsimp only at rn1
            split at rn1
            · rename_i hz
              intro y' mu'' H4 R5 S5 r5
              have nM3 : ¬ ((G.at mu).at mu').M D := (S4.keep D _ D2 nM).2
              have D4 : H4 D = some (.lst vacc) := (S5.keep D _ D3 nM3).1
              have S5' : StepX D G H0 (((G.at mu).at mu').at mu'') H4 := S4'.trans S5.x
              have A4 := A3.step S5.toStepS
              have Rb : Rel K (G.at mu'') env h3 σ H4 := R2.back (S4.trans S5) R5
              have kD : Keeps (G.at mu'').N H4 (G.at mu'').N (L2.upd H4 D (.lst (vacc ++ [y']))) := fun b u e n => ⟨by rw [upd_ne (fun q => n (.inl (n0_of hD q)))]; exact e, n⟩
              refine ⟨vacc, D4, by rw [← A.length]; exact lt_line hz, by omega, mu'', acc ++ [z], vacc ++ [y'], h3, Rb.n0upd hD, S5'.trans (StepX.upd Rb hD (fun od u z => by rw [D4] at z; cases z)), upd_same, ?_, rn1⟩
              exact (RWs.append A4 (.cons r5 .nil)).keep kD (Longer.refl _)
            · cases rn1
          | ex c p h3 => rw [es] at rn1; cases rn1
          | bad => rw [es] at rn1; cases rn1
      | ex c p h2 => rw [et] at rn1; cases rn1
      | bad => rw [et] at rn1; cases rn1
  · have ei : ws.length ≤ i := by omega
    refine .inl ⟨itc.stop i _ H kN S.fz S.oc ei, ?_⟩
    rw [List.drop_eq_nil_of_le ei] at rn
    have e2 : MP.R.ok acc h = .ok xs hf := rn
    cases e2
    exact fin mu H vacc R S hDl A
section
variable {X : Cx} {Wx : WX} {elt tg iter : Expr} {ifs : List Expr} {scope : Scope} {own : List (Str × Nat)} {pos : Pos} {si : SI} {sl : List Nat} {g : Tg} {t : MP.ST} {s : SE}
abbrev PTsW (X : Cx) (Wx : WX) (ifs : List Expr) (t : MP.ST) : Prop := PTs X ifs (tR X.K Wx rB t)
theorem pts_no : PTsW X Wx [] MP.tYes := ⟨fun pins s σ H Q I ⟨G, env, h, R, q⟩ => pts_nil.run pins s σ H Q I (PostR.here (w := true) q R rfl)⟩
theorem pts_1 {c : Expr} (hc : PTW X Wx c t) : PTsW X Wx [c] t := pts_one hc
theorem tLc_of {K : PySem.W.Frag} {vs : List Nat} {σ : Sg} {H : Hp} {Q : VK} (sub : ∀ j, inS j sl = true → j ∈ vs) (z : tF K Wx (sLc si vs g t s) σ H Q) : tLc (tR K Wx (riC K) si) (tG K sl g) (tR K W0 rB t) (tR K W0 (rW K) s) vs σ H Q := by
  obtain ⟨G, env, h, R, q⟩ := z
  refine ⟨G, env, h, R, (PostF.bind (rel := riC K) q).mono fun J H1 ⟨ws, h1, mu1, R1, S1, itc, q1⟩ D hD => ?_⟩
  have q2 : PostF K (G.at mu1) env σ H1 Wx Q (if noOwn env vs = true then mapR W.lst (lcL (wipeE env vs) g t s ws [] h1) else .bad) := q1
  split at q2
  · cases er : lcL (wipeE env vs) g t s ws [] h1 with
    | ok xs hf =>
      rw [er] at q2
      have R2 : Rel K ((G.at mu1).plus D mu1) env h1 σ (L2.upd H1 D (.lst [])) := R1.plus hD
      have kn : Keeps (G.at mu1).N H1 ((G.at mu1).plus D mu1).N (L2.upd H1 D (.lst [])) := keeps_new R1 hD
      have oc : ∀ j a, (G.at mu1).own j = some a → L2.upd H1 D (.lst []) a = H1 a := fun j a e => upd_ne (some_ne (R1.om j a e).2.2 hD)
      have itc2 : Itc K ((G.at mu1).plus D mu1) (L2.upd H1 D (.lst [])) J ws := ⟨fun i N1 H2 k z o => itc.go i N1 H2 (fun a u e n => let ⟨e1, n1⟩ := kn a u e n; k a u e1 n1) (fun a od u e => z a od u (by rw [upd_ne (ne_of_none e hD)]; exact e)) (fun j a e => (o j a e).trans (oc j a e)),
        fun i N1 H2 k z o => itc.stop i N1 H2 (fun a u e n => let ⟨e1, n1⟩ := kn a u e n; k a u e1 n1) (fun a od u e => z a od u (by rw [upd_ne (ne_of_none e hD)]; exact e)) (fun j a e => (o j a e).trans (oc j a e)),
        fun i m N1 H2 x H3 w k nn l z o => itc.yld i m N1 H2 x H3 w (fun a u e n => let ⟨e1, n1⟩ := kn a u e n; k a u e1 n1) nn l (fun a od u e => z a od u (by rw [upd_ne (ne_of_none e hD)]; exact e)) (fun j a e => (o j a e).trans (oc j a e))⟩
      refine lc_loop (Ex := fun H => Q (.ref D) H) R2 (.inr rfl) upd_same .nil itc2 sub er fun mu H' vacc R3 S3 hDl A => ?_
      refine q2 D mu H' R3 ⟨⟨fun a u e n => ?_, S3.mu, rfl, fun a od u e => S3.fz a od u (by rw [upd_ne (ne_of_none e hD)]; exact e)⟩, rfl, fun i a e => ?_⟩ hD (.lst hDl A)
      · have ne : a ≠ D := ne_of_none e hD
        exact S3.keep a u (by rw [upd_ne ne]; exact e) n ne
      · exact (S3.oc i a e).trans (oc i a e)
    | ex c p h2 => rw [er] at q2; exact q2.elim
    | bad => rw [er] at q2; exact q2.elim
  · exact q2.elim
theorem pf_lc (hc : X.calm = true) (hN : X.N.Nodup) (hi : PIC X Wx tg iter si) (ok : BlkOk X.N X.env.scope scope own) (sub : ∀ j, inS j sl = true → j ∈ own.map (·.2))
    (hg : ∀ (s0 : Shared) (H : Hp) (C : Addr) (cl : List (Str × Addr)) (fp : List Addr), PGW (X.blk s0 H scope (compEnvC scope cl C X.env) fp) tg sl g) (ht : ∀ (s0 : Shared) (H : Hp) (C : Addr) (cl : List (Str × Addr)) (fp : List Addr), PTsW (X.blk s0 H scope (compEnvC scope cl C X.env) fp) W0 ifs t)
    (he : ∀ (s0 : Shared) (H : Hp) (C : Addr) (cl : List (Str × Addr)) (fp : List Addr), PEW (X.blk s0 H scope (compEnvC scope cl C X.env) fp) W0 elt s) (hs : ∀ x, foldedSetIterable iter X.env x = pure x) :
    PEF X Wx (.ListComp elt [⟨tg, iter, ifs, 0⟩] scope pos) (sLc si (own.map (·.2)) g t s) :=
  PE.weak (pe_lc hc hN hi ok hg ht he hs) fun σ H Q z => tLc_of sub z
end
end MP
end

section
set_option Elab.async false
set_option linter.all false
set_option maxRecDepth 100000
set_option autoImplicit false
/-! MP7: calls. -/
namespace MP
open PySem PySem.Spec PyProof.Rows L2
/-- what a def is worth: as c says of its number f, of n arguments -/
def spF (K : PySem.W.Frag) (c : Calls) (f n : Nat) : Sp := fun vs H Q E => ∃ (G : Gh) (h : Hea) (ws : List W), (∀ i, G.own i = none) ∧ vs.length = n ∧ Rel K G [] h [] H ∧ RWs K G.mu G.N H ws vs ∧
  PostR K G [] [] H (fun cls d _ H' => E cls d H') (rW K) Q (c f ws h)
/-- the def number f stands at a -/
structure FOk (P : Program) (w : World) (K : PySem.W.Frag) (mg : Str → Option Value) (base : Heap) (k : Nat) (c : Calls) (f n : Nat) (a : Addr) : Prop where
  ex : ∃ (fd : FuncData) (ps : List Str), FnOk P w K mg base (L2.CX P w) k a fd ps (spF K c f n) ∧ Binds K fd ps []
  kp : PySem.W.keepIn K (.ref a) = true
section
variable {K : PySem.W.Frag} {G : Gh} {env : MP.Env} {h h1 : Hea} {σ : Sg} {H H1 : Hp} {mu1 : List Addr}
/-- the same, seen by a callee: what this frame holds is others' -/
def Gh.inner (G : Gh) : Gh := ⟨fun a => G.n0 a ∨ ∃ i, G.own i = some a, G.mu, fun _ => none⟩
theorem inner_N {a : Addr} : G.inner.N a ↔ G.N a := by
  constructor
  · rintro ((z | z) | z | ⟨_, z⟩)
    · exact .inl z
    · exact .inr (.inr z)
    · exact .inr (.inl z)
    · cases z
  · rintro (z | z | z)
    · exact .inl (.inl z)
    · exact .inr (.inl z)
    · exact .inl (.inr z)
theorem inner_keeps : Keeps G.N H G.inner.N H := fun a o e n => ⟨e, fun z => n (inner_N.mp z)⟩
theorem outer_keeps : Keeps G.inner.N H G.N H := fun a o e n => ⟨e, fun z => n (inner_N.mpr z)⟩
theorem Rel.inner (R : Rel K G env h σ H) : Rel K G.inner [] h [] H where
  len := rfl
  val := fun i w e => by simp at e
  own := fun i w e => by simp at e
  hp := ⟨R.hp.len, fun n o a e1 e2 => (R.hp.obj n o a e1 e2).keep inner_keeps (Longer.refl _) rfl, R.hp.nd⟩
  oi := fun i j a e => by cases e
  om := fun i a e => by cases e
  mn := fun a m z => z.elim (R.mn a m) fun ⟨i, z⟩ => (R.om i a z).1 m
  nn := fun a z => z.elim (R.nn a) fun ⟨i, z⟩ => (R.om i a z).2.2
theorem not_inner_M {a : Addr} (n : a ∉ G.mu) : ¬ G.inner.M a := fun z => by
  rcases z with z | ⟨_, z⟩
  · exact n z
  · cases z
theorem Step.outer (R : Rel K G env h σ H) (S : Step G.inner H (G.inner.at mu1) H1) : Step G H (G.at mu1) H1 := by
  have own : ∀ i a, G.own i = some a → H1 a = H a ∧ a ∉ mu1 := fun i a e => by
    obtain ⟨m1, _, m3⟩ := R.om i a e
    cases q : H a with
    | none => rw [q] at m3; cases m3
    | some o =>
      obtain ⟨e1, n1⟩ := S.keep a o q (not_inner_M m1)
      exact ⟨e1, fun z => n1 (.inl z)⟩
  refine ⟨⟨fun a o e n => ?_, S.mu, rfl, S.fz⟩, rfl, fun i a e => (own i a e).1⟩
  obtain ⟨e1, n1⟩ := S.keep a o e (not_inner_M fun z => n (.inl z))
  exact ⟨e1, fun z => z.elim (fun z => n1 (.inl z)) fun z => n (.inr z)⟩
theorem Rel.outer (R : Rel K G env h σ H) (S : Step G.inner H (G.inner.at mu1) H1) (R1 : Rel K (G.inner.at mu1) [] h1 [] H1) : Rel K (G.at mu1) env h1 σ H1 := by
  have S' := S.outer R
  have kN : Keeps G.N H (G.at mu1).N H1 := S'.keepN
  have k2 : Keeps (G.inner.at mu1).N H1 (G.at mu1).N H1 := outer_keeps (G := G.at mu1)
  exact {
    len := R.len
    val := fun i w y => let ⟨v, e1, r⟩ := R.val i w y; ⟨v, e1, r.step S'.toStepS⟩
    own := fun i w y => let ⟨a, e1, e2, r⟩ := R.own i w y; ⟨a, e1, e2, r.keep kN S'.mu (S'.oc i a e1)⟩
    hp := ⟨R1.hp.len, fun n o a e1 e2 => (R1.hp.obj n o a e1 e2).keep k2 (Longer.refl _) rfl, R1.hp.nd⟩
    oi := R.oi
    om := fun i a e => ⟨fun z => R1.mn a z (.inr ⟨i, e⟩), (R.om i a e).2.1, by rw [S'.oc i a e]; exact (R.om i a e).2.2⟩
    mn := fun a m z => R1.mn a m (.inl z)
    nn := fun a z => R1.nn a (.inl z) }
theorem spF_of {c : Calls} {f n : Nat} {ws : List W} {vs : List V} {Wx : WX} {Q : VK} (R : Rel K G env h σ H) (r : RWs K G.mu G.N H ws vs) (hn : vs.length = n) (p : PostR K G env σ H Wx (rW K) Q (c f ws h)) : spF K c f n vs H Q (WE Wx σ) := by
  refine ⟨G.inner, h, ws, fun _ => rfl, hn, R.inner, r.keep inner_keeps (Longer.refl _), ?_⟩
  generalize c f ws h = rr at p ⊢
  cases rr with
  | ok w h' => exact fun v mu' H' R' S rr => p v mu' H' (R.outer S R') (S.outer R) (rr.keep (outer_keeps (G := G.at mu')) (Longer.refl _))
  | ex k q h' =>
    intro cls d mu' H' R' S e
    refine p cls d mu' H' (R.outer S R') (S.outer R) ⟨e.1, ?_⟩
    rcases e.2 with z | ⟨dd, v, z1, z2, z3⟩
    · exact .inl z
    · exact .inr ⟨dd, v, z1, z2, z3.keep (outer_keeps (G := G.at mu')) (Longer.refl _)⟩
  | bad => exact p
end
section
variable {X : Cx} {Wx : WX} {k f n : Nat} {c : Calls} {a : Addr} {x m : Str} {p pos apos : Pos} {e o : Expr} {es : List Expr} {ss : SA} {so : SE}
theorem cN_ok {Q : VK} {rel : RL W V} {G : Gh} {env : MP.Env} {h : Hea} {σ : Sg} {H : Hp} {ws : List W} (q : PostR X.K G env σ H Wx rel Q (cN c f n f ws h)) : ws.length = n ∧ PostR X.K G env σ H Wx rel Q (c f ws h) := by
  unfold cN at q
  split at q
  · rename_i z
    exact ⟨by simpa using z, q⟩
  · exact q.elim
theorem run_F {pins : List (Addr × Obj)} {s : Shared} {σ : L2.St} {H : Hp} {us : List Value} {vs : List V} {ws : List W} {G : Gh} {env : MP.Env} {h : Hea} {Q : VK} (F : FOk X.prog X.w X.K X.mg X.base k c f n a) (hr : Room k X.A) (tk : Takes X Wx) (I : Inv X pins σ H s) (rv : Vals vs us)
    (R : Rel X.K G env h σ H) (r : RWs X.K G.mu G.N H ws vs) (q : PostR X.K G env σ H Wx (rW X.K) Q (cN c f n f ws h)) : wpAny (model X.prog X.w) X.A (call (.ref a) us) (EP X pins σ Q) X.xe s := by
  obtain ⟨fd, ps, G0, b⟩ := F.ex
  obtain ⟨q1, q2⟩ := cN_ok q
  exact run_fnS G0 hr b (passAt tk σ) I rv (spF_of R r (r.length ▸ q1) q2)
theorem pw_call (F : FOk X.prog X.w X.K X.mg X.base k c f n a) (hr : Room k X.A) (tk : Takes X Wx) (hg : Gl X x) (hm : X.mg x = some (.ref a)) (hdb : (x == ("__debug__" : Str)) = false) (ha : PAW X Wx (e :: es) ss)
    (hs : starEach (e :: es) X.env = (false, eval e X.env) :: starEach es X.env) (hpl : (backTo pos (starEach es X.env)).any (·.1) = false) : PEW X Wx (.Call (.Name x p) (e :: es) [] pos) (sCall c f n ss) := by
  obtain ⟨fd, ps, G0, b⟩ := F.ex
  refine PE.weak (pe_callS G0 hr hg hm F.kp b (fun σ => passAt tk σ) ha hdb hs hpl) fun σ H Q ⟨G, env, h, R, q⟩ => ⟨G, env, h, R, ?_⟩
  exact (PostR.bind (rel := rWs X.K) q).mono fun vs H1 ⟨ws, h1, mu1, R1, S1, r1, q1⟩ => by
    obtain ⟨q2, q3⟩ := cN_ok q1
    exact spF_of R1 r1 (r1.length ▸ q2) q3
theorem isIns_of {cl : Nat} {ml : Nm} {w : W} {h : Hea} (i : isIns cl ml w h = true) : ∃ nn fs, w = .ref nn ∧ h[nn]? = some (.ins cl fs) ∧ lookN ml fs = none := by
  unfold isIns at i
  cases w with
  | ref nn =>
    dsimp only at i
    cases q : h[nn]? with
    | none => rw [q] at i; cases i
    | some ob =>
      rw [q] at i
      cases ob with
      | ins kk fs =>
        dsimp only at i
        rw [Bool.and_eq_true] at i
        have hc : kk = cl := by simpa using i.1
        subst hc
        exact ⟨nn, fs, rfl, q, by simpa using i.2⟩
      | _ => cases i
  | _ => cases i
theorem RFs.nometh {K : PySem.W.Frag} {mu : List Addr} {N : Addr → Prop} {H : Hp} {fs : List (Nm × W)} {gs : List (Str × V)} {ml : Nm} (r : RFs K mu N H fs gs) (z : lookN ml fs = none) : gs.lookup (toS ml) = none := by
  induction fs generalizing gs with
  | nil => cases r; rfl
  | cons p fs ih =>
    cases r with
    | cons rv t =>
      rename_i f0 w0 v0 gs0
      unfold lookN at z
      rw [List.lookup_cons]
      by_cases q : (f0 == ml) = true
      · rw [if_pos q] at z; cases z
      · rw [if_neg q] at z
        have e1 : ¬ f0 = ml := by simpa using q
        have e2 : (toS ml == toS f0) = false := by
          rw [beq_eq_false_iff_ne]
          exact fun y => e1 (toS_inj y).symm
        rw [e2]
        exact ih t z
/-- the way to a method, common to both forms -/
theorem meth_go {pl : Sem Bool} {cl : Nat} {ml : Nm} {pins : List (Addr × Obj)} {s : Shared} {σ : L2.St} {H : Hp} {Q : Value → Shared → Prop} {G : Gh} {env : MP.Env} {h : Hea} {w : W} {v : V} {u : Value} {Z : Value × List Value → Shared → Prop}
    (hC : Cls X.K (ca X.K cl)) (hM : Meth X.K (ca X.K cl) (toS ml) a) (I : Inv X pins σ H s) (rv : RelV v u) (R : Rel X.K G env h σ H) (r : RT X.K G env H w v) (i : isIns cl ml w h = true) (z : ∀ b, v = .ref b → Z (.ref a, [.ref b]) s) : wpAny (model X.prog X.w) X.A (getMethod u (toS ml) pl) Z X.xe s := by
  obtain ⟨nn, fs, rfl, e1, e2⟩ := isIns_of i
  obtain ⟨b, rfl, m⟩ := RT.inv_ref R r
  obtain ⟨dx, gs, e3, rf⟩ := R.ins e1 m
  cases rv
  exact getmeth_ok I e3 hC hM (rf.nometh e2) (z b rfl)
theorem pw_meth {pl : Sem Bool} {cl : Nat} {ml : Nm} (hm : m = toS ml) (hC : Cls X.K (ca X.K cl)) (hM : Meth X.K (ca X.K cl) m a) (F : FOk X.prog X.w X.K X.mg X.base k c f n a) (hr : Room k X.A) (tk : Takes X Wx) (ho : PEW X Wx o so) (ha : PAW X Wx (e :: es) ss)
    (hs : starEach (e :: es) X.env = (false, eval e X.env) :: starEach es X.env) (hpl : (backTo pos (starEach es X.env)).any (·.1) = false)
    (ht : eval (.Call (.Attribute o m apos) (e :: es) [] pos) X.env = (do
      let recv ← eval o X.env
      standAt apos.atName
      let (g, fst) ← holding [recv] (getMethod recv m pl)
      callWith pos g fst (backTo pos (starEach (e :: es) X.env)) (backToKw pos (keywordEach [] X.env)))) : PEW X Wx (.Call (.Attribute o m apos) (e :: es) [] pos) (sMeth c cl f n ml so ss) := by
  subst hm
  refine ⟨fun pins s σ H Q I ⟨G, env, h, R, q⟩ => ?_⟩
  refine PySem.W.methodCall_KW (pl := pl) (thn (ho.run pins s σ H _ I ⟨G, env, h, R, PostR.bind (rel := rW X.K) q⟩) fun u s1 ⟨v, H1, I1, rv, w, h1, mu1, R1, S1, r1, q1⟩ => ?_) ht
  have q2 : PostR X.K (G.at mu1) env σ H1 Wx (rW X.K) Q (if isIns cl ml w h1 = true then (ss env h1).bind fun xs h => cN c f n f (w :: xs) h else .bad) := q1
  split at q2
  · rename_i hi
    refine meth_go (Q := EP X pins σ Q) hC hM I1 rv R1 (.inl r1) hi fun b eb => ?_
    subst eb
    refine PySem.W.callWith_K (first := [.ref b]) (h₀ := X.base) I.ok.mod.kin F.kp (thn (ha.run pos pins s1 σ H1 _ I1 ⟨_, env, h1, R1, PostR.bind (rel := rWs X.K) q2⟩) fun us s2 ⟨vs, H2, I2, rvs, ws, h2, mu2, R2, S2, r2, q3⟩ => ⟨I2.kIn, ?_⟩) hs hpl
    exact run_F (us := .ref b :: us) (vs := .ref b :: vs) (ws := w :: ws) F hr tk I2 (.cons rfl rvs) R2 (.cons (r1.step S2.toStepS) r2) q3
  · exact q2.elim
theorem pw_meth0 {pl : Sem Bool} {cl : Nat} {ml : Nm} (hm : m = toS ml) (hC : Cls X.K (ca X.K cl)) (hM : Meth X.K (ca X.K cl) m a) (F : FOk X.prog X.w X.K X.mg X.base k c f n a) (hr : Room k X.A) (tk : Takes X Wx) (ho : PEW X Wx o so)
    (ht : eval (.Call (.Attribute o m apos) [] [] pos) X.env = (do
      let recv ← eval o X.env
      standAt apos.atName
      let (g, fst) ← holding [recv] (getMethod recv m pl)
      callWith pos g fst (backTo pos (starEach [] X.env)) (backToKw pos (keywordEach [] X.env)))) : PEW X Wx (.Call (.Attribute o m apos) [] [] pos) (sMeth c cl f n ml so aNil) := by
  subst hm
  refine ⟨fun pins s σ H Q I ⟨G, env, h, R, q⟩ => ?_⟩
  refine PySem.W.methodCall_KW (pl := pl) (thn (ho.run pins s σ H _ I ⟨G, env, h, R, PostR.bind (rel := rW X.K) q⟩) fun u s1 ⟨v, H1, I1, rv, w, h1, mu1, R1, S1, r1, q1⟩ => ?_) ht
  have q2 : PostR X.K (G.at mu1) env σ H1 Wx (rW X.K) Q (if isIns cl ml w h1 = true then cN c f n f [w] h1 else .bad) := q1
  split at q2
  · rename_i hi
    refine meth_go (Q := EP X pins σ Q) hC hM I1 rv R1 (.inl r1) hi fun b eb => ?_
    subst eb
    exact PySem.W.callWith_K0 (first := [.ref b]) I1.kIn F.kp (run_F (us := [.ref b]) (vs := [.ref b]) (ws := [w]) F hr tk I1 (.cons rfl .nil) R1 (.cons r1 .nil) q2)
  · exact q2.elim
/-! an object is made -/
theorem Rel.push {K : PySem.W.Frag} {G : Gh} {env : MP.Env} {h : Hea} {σ : Sg} {H : Hp} {b : Addr} {ho : HO} {ob : O} (R : Rel K G env h σ H) (e : H b = none) (r : RO K (G.mu ++ [b]) (G.at (G.mu ++ [b])).N (L2.upd H b ho) b ob) :
    Rel K (G.at (G.mu ++ [b])) env (h ++ [ob]) σ (L2.upd H b ho) ∧ Step G H (G.at (G.mu ++ [b])) (L2.upd H b ho) := by
  have lg : Longer G.mu (G.mu ++ [b]) := fun i y z => by
    rw [List.getElem?_append_left (List.getElem?_eq_some_iff.mp z).1]
    exact z
  have kM : Keeps G.M H (G.at (G.mu ++ [b])).M (L2.upd H b ho) := fun y u eb nb => by
    have ne : y ≠ b := ne_of_none eb e
    refine ⟨by rw [upd_ne ne]; exact eb, fun z => ?_⟩
    rcases z with z | z
    · rcases List.mem_append.mp z with z | z
      · exact nb (.inl z)
      · exact ne (by simpa using z)
    · exact nb (.inr z)
  have S : Step G H (G.at (G.mu ++ [b])) (L2.upd H b ho) := ⟨⟨kM, lg, rfl, fun x od u q => by rw [upd_ne (ne_of_none q e)]; exact q⟩, rfl, fun i y z => upd_ne (some_ne (R.om i y z).2.2 e)⟩
  have kN := S.keepN
  have nb : b ∉ G.mu := fun z => by
    have := R.hp.there z
    rw [e] at this; cases this
  refine ⟨?_, S⟩
  exact {
    len := R.len
    val := fun i w y => let ⟨v, q, r⟩ := R.val i w y; ⟨v, q, r.keep kN lg⟩
    own := fun i w y => let ⟨x, q, z, r⟩ := R.own i w y; ⟨x, q, z, r.keep kN lg (S.oc i x q)⟩
    hp := by
      refine ⟨by show (h ++ [ob]).length = (G.mu ++ [b]).length; rw [List.length_append, List.length_append, R.hp.len]; rfl, fun i o x q z => ?_, ?_⟩
      · by_cases hi : i < h.length
        · rw [List.getElem?_append_left hi] at q
          have z' : (G.mu ++ [b])[i]? = some x := z
          rw [List.getElem?_append_left (by rw [← R.hp.len]; exact hi)] at z'
          have t := R.hp.obj i o x q z'
          exact t.keep kN lg (upd_ne (some_ne t.there e))
        · have hl : i < (h ++ [ob]).length := (List.getElem?_eq_some_iff.mp q).1
          rw [List.length_append] at hl
          have ei : i = h.length := by simp at hl; omega
          subst ei
          have q' : ob = o := by simpa using q
          have z' : (G.mu ++ [b])[h.length]? = some x := z
          rw [R.hp.len] at z'
          have z2 : b = x := by simpa using z'
          subst q'
          subst z2
          exact r
      · show (G.mu ++ [b]).Nodup
        refine List.nodup_append.mpr ⟨R.hp.nd, by simp, fun y hy z hz q => ?_⟩
        have : z = b := by simpa using hz
        subst this
        subst q
        exact nb hy
    oi := R.oi
    om := fun i x q => by
      obtain ⟨n1, n2, n3⟩ := R.om i x q
      refine ⟨fun z => ?_, n2, by rw [S.oc i x q]; exact n3⟩
      rcases List.mem_append.mp z with z | z
      · exact n1 z
      · exact some_ne n3 e (by simpa using z)
    mn := fun y z q => by
      rcases List.mem_append.mp z with z | z
      · exact R.mn y z q
      · have : y = b := by simpa using z
        subst this
        have := R.nn y q
        rw [e] at this; cases this
    nn := fun y z => by rw [upd_ne (some_ne (R.nn y z) e)]; exact R.nn y z }
theorem Rel.muC {K : PySem.W.Frag} {G : Gh} {env : MP.Env} {h : Hea} {σ : Sg} {H : Hp} (R : Rel K G env h σ H) : G.mu.length = h.length := R.hp.len.symm
/-- C(..) by what its __init__ does -/
theorem new_of {cl : Nat} {σ : Sg} {H : Hp} {Q : VK} {G : Gh} {env : MP.Env} {h : Hea} {ws : List W} {vs : List V} {y dx : Addr} (R : Rel X.K G env h σ H) (r : RWs X.K G.mu G.N H ws vs) (q : PostR X.K G env σ H Wx (rW X.K) Q (isNone (cN c f n f (.ref h.length :: ws) (h ++ [.ins cl []])) (.ref h.length)))
    (ny : H y = none) (nd : H dx = none) (ne : dx ≠ y) : spF X.K c f n (.ref y :: vs) (L2.upd (L2.upd H dx (.own y)) y (.ins (ca X.K cl) dx [])) (fun v H2 => v = .non ∧ Q (.ref y) H2) (fun _ _ _ => False) := by
  have R1 : Rel X.K G env h σ (L2.upd H dx (.own y)) := R.upd nd
  have S1 : Step G H G (L2.upd H dx (.own y)) := Step.upd R nd
  have ny1 : L2.upd H dx (.own y) y = none := by rw [upd_ne (Ne.symm ne)]; exact ny
  obtain ⟨R2, S2⟩ := R1.push (ho := .ins (ca X.K cl) dx []) (ob := .ins cl []) ny1 (RO.ins (fs := []) (gs := []) upd_same .nil)
  have S := S1.trans S2
  have hlast : (G.mu ++ [y])[h.length]? = some y := by rw [R.hp.len]; simp
  have conv : ∀ w h', cN c f n f (.ref h.length :: ws) (h ++ [.ins cl []]) = .ok w h' → w = .non ∧ PostR X.K G env σ H Wx (rW X.K) Q (.ok (.ref h.length) h') := fun w h' e => by
    rw [e] at q
    cases w with
    | non => exact ⟨rfl, q⟩
    | _ => exact False.elim q
  have key : PostR X.K (G.at (G.mu ++ [y])) env σ (L2.upd (L2.upd H dx (.own y)) y (.ins (ca X.K cl) dx [])) W0 (rW X.K) (fun v H2 => v = .non ∧ Q (.ref y) H2) (cN c f n f (.ref h.length :: ws) (h ++ [.ins cl []])) := by
    cases e : cN c f n f (.ref h.length :: ws) (h ++ [.ins cl []]) with
    | ok w h' =>
      obtain ⟨rfl, q'⟩ := conv w h' e
      intro v mu' H' R' S' rr
      exact ⟨rr.inv_non, q' (.ref y) mu' H' R' (S.trans S') (.ref (S'.mu _ _ hlast))⟩
    | ex kk p h' => rw [e] at q; exact q.elim
    | bad => rw [e] at q; exact q.elim
  obtain ⟨k1, k2⟩ := cN_ok key
  have rr : RWs X.K (G.mu ++ [y]) (G.at (G.mu ++ [y])).N _ (.ref h.length :: ws) (.ref y :: vs) := .cons (.ref hlast) (r.step S.toStepS)
  exact spF_of R2 rr (rr.length ▸ k1) k2
theorem pass_no {E : XK} (hE : ∀ cls d H, ¬ E cls d H) : Passes (L2.CX X.prog X.w) X E := fun _ _ _ _ _ _ _ z => by
  obtain ⟨_, _, _, _, _, _, _, _, _, _, _, _, z⟩ := z
  exact (hE _ _ _ z).elim
theorem pw_new {cl : Nat} (M : Mk X.K (ca X.K cl) a) (F : FOk X.prog X.w X.K X.mg X.base k c f n a) (hr : Room (k + 1) X.A) (hg : Gl X x) (hm : X.mg x = some (.ref (ca X.K cl))) (hdb : (x == ("__debug__" : Str)) = false) (ha : PAW X Wx (e :: es) ss)
    (hs : starEach (e :: es) X.env = (false, eval e X.env) :: starEach es X.env) (hpl : (backTo pos (starEach es X.env)).any (·.1) = false) : PEW X Wx (.Call (.Name x p) (e :: es) [] pos) (sNew c cl f n ss) := by
  obtain ⟨fd, ps, G0, b⟩ := F.ex
  refine PE.weak (pe_make (dvs := []) (ds := []) M G0 hr hg hm b .nil (pass_no (E := fun _ _ _ => False) fun _ _ _ z => z) ha hdb hs hpl) fun σ H Q ⟨G, env, h, R, q⟩ => ⟨G, env, h, R, ?_⟩
  exact (PostR.bind (rel := rWs X.K) q).mono fun vs H1 ⟨ws, h1, mu1, R1, S1, r1, q1⟩ y dx ny nd ne => by
    rw [List.append_nil]
    exact new_of R1 r1 q1 ny nd ne
theorem pw_new0 {cl : Nat} (M : Mk X.K (ca X.K cl) a) (F : FOk X.prog X.w X.K X.mg X.base k c f n a) (hr : Room (k + 1) X.A) (hg : Gl X x) (hm : X.mg x = some (.ref (ca X.K cl))) (hdb : (x == ("__debug__" : Str)) = false) : PEW X Wx (.Call (.Name x p) [] [] pos) (sNew c cl f n aNil) := by
  obtain ⟨fd, ps, G0, b⟩ := F.ex
  refine PE.weak (pe_make0 (dvs := []) (ds := []) M G0 hr hg hm b .nil (pass_no (E := fun _ _ _ => False) fun _ _ _ z => z) hdb) fun σ H Q ⟨G, env, h, R, q⟩ y dx ny nd ne => ?_
  exact new_of (ws := []) (vs := []) R .nil q ny nd ne
end
end MP
end

section
set_option Elab.async false
set_option linter.all false
set_option maxRecDepth 100000
set_option autoImplicit false
/-! MP8: built-in functions, dicts, slices. -/
namespace MP
open PySem PySem.Spec PyProof.Rows L2
inductive RTs (K : PySem.W.Frag) (G : Gh) (env : MP.Env) (H : Hp) : List W → List V → Prop
  | nil : RTs K G env H [] []
  | cons {w : W} {v : V} {ws : List W} {vs : List V} : RT K G env H w v → RTs K G env H ws vs → RTs K G env H (w :: ws) (v :: vs)
abbrev rTs (K : PySem.W.Frag) : RL (List W) (List V) := fun G env H w v => RTs K G env H w v
theorem RTs.step {K : PySem.W.Frag} {G : Gh} {env : MP.Env} {H H1 : Hp} {mu1 : List Addr} {h1 : Hea} {σ : Sg} (S : Step G H (G.at mu1) H1) (R1 : Rel K (G.at mu1) env h1 σ H1) : ∀ {ws : List W} {vs : List V}, RTs K G env H ws vs → RTs K (G.at mu1) env H1 ws vs
  | _, _, .nil => .nil
  | _, _, .cons r t => .cons (r.step S R1) (RTs.step S R1 t)
abbrev PATs (X : Cx) (Wx : WX) (es : List Expr) (s : SA) : Prop := PA X es (tR X.K Wx (rTs X.K) s)
/-- g is what r asks of a built-in function's arguments -/
def CbC (X : Cx) (g : GB) (r : List V → Hp → VK → Prop) : Prop := ∀ (G : Gh) (env : MP.Env) (h : Hea) (σ : Sg) (H : Hp) (Wx : WX) (Q : VK) (ws : List W) (vs : List V), Rel X.K G env h σ H → RTs X.K G env H ws vs → PostR X.K G env σ H Wx (rW X.K) Q (g ws h) → r vs H Q
def CbF (X : Cx) (g : GB) (r : List V → Hp → VK → Prop) : Prop := ∀ (G : Gh) (env : MP.Env) (h : Hea) (σ : Sg) (H : Hp) (Wx : WX) (Q : VK) (ws : List W) (vs : List V), Rel X.K G env h σ H → RTs X.K G env H ws vs → PostF X.K G env σ H Wx Q (g ws h) → r vs H Q
section
variable {X : Cx} {Wx : WX} {e a : Expr} {es : List Expr} {sa : SE} {ss : SA} {x : Str} {p pos : Pos} {id T : String} {g : GB} {r : List V → Hp → VK → Prop}
theorem pat_nil : PATs X Wx [] aNil := PA.weak pa_nil fun σ H Q ⟨G, env, h, R, q⟩ => PostR.here (w := ([] : List W)) q R .nil
theorem pat_cons (ha : PET X Wx a sa) (hr : PATs X Wx es ss) (hs : starEach (a :: es) X.env = (false, eval a X.env) :: starEach es X.env) : PATs X Wx (a :: es) (aCons sa ss) :=
  PA.weak (pa_cons ha hr hs) fun σ H Q ⟨G, env, h, R, q⟩ => ⟨G, env, h, R, (PostR.bind (rel := rT X.K) q).mono fun v H1 ⟨w, h1, mu1, R1, S1, r1, q1⟩ =>
    ⟨_, env, h1, R1, (PostR.bind (rel := rTs X.K) q1).mono fun vs H2 ⟨ws, h2, mu2, R2, S2, r2, q2⟩ => PostR.here (v := v :: vs) q2 R2 (.cons (r1.step S2 R2) r2)⟩⟩
theorem pw_bi (hc : CallR X (.builtin id) r) (o : CbC X g r) (hg : Gl X x) (hm : X.mg x = none) (hv : bootBuiltins x = some (.builtin id)) (hn : x ≠ "__name__") (hdb : (x == ("__debug__" : Str)) = false) (ha : PATs X Wx (e :: es) ss)
    (hs : starEach (e :: es) X.env = (false, eval e X.env) :: starEach es X.env) (hpl : (backTo pos (starEach es X.env)).any (·.1) = false) : PEW X Wx (.Call (.Name x p) (e :: es) [] pos) (sBi g ss) :=
  PE.weak (pe_callB hc hg hm hv ha hn hdb hs hpl) fun σ H Q ⟨G, env, h, R, q⟩ => ⟨G, env, h, R, (PostR.bind (rel := rTs X.K) q).mono fun vs H1 ⟨ws, h1, mu1, R1, S1, r1, q1⟩ => o _ env h1 σ H1 Wx Q ws vs R1 r1 q1⟩
theorem pw_ty (hc : CallR X (.type T) r) (o : CbC X g r) (hg : Gl X x) (hm : X.mg x = none) (hv : bootBuiltins x = some (.type T)) (hn : x ≠ "__name__") (hdb : (x == ("__debug__" : Str)) = false) (ha : PATs X Wx (e :: es) ss)
    (hs : starEach (e :: es) X.env = (false, eval e X.env) :: starEach es X.env) (hpl : (backTo pos (starEach es X.env)).any (·.1) = false) : PEW X Wx (.Call (.Name x p) (e :: es) [] pos) (sBi g ss) :=
  PE.weak (pe_callTy hc hg hm hv ha hn hdb hs hpl) fun σ H Q ⟨G, env, h, R, q⟩ => ⟨G, env, h, R, (PostR.bind (rel := rTs X.K) q).mono fun vs H1 ⟨ws, h1, mu1, R1, S1, r1, q1⟩ => o _ env h1 σ H1 Wx Q ws vs R1 r1 q1⟩
theorem pf_bi (hc : CallR X (.builtin id) r) (o : CbF X g r) (hg : Gl X x) (hm : X.mg x = none) (hv : bootBuiltins x = some (.builtin id)) (hn : x ≠ "__name__") (hdb : (x == ("__debug__" : Str)) = false) (ha : PATs X Wx (e :: es) ss)
    (hs : starEach (e :: es) X.env = (false, eval e X.env) :: starEach es X.env) (hpl : (backTo pos (starEach es X.env)).any (·.1) = false) : PEF X Wx (.Call (.Name x p) (e :: es) [] pos) (sBi g ss) :=
  PE.weak (pe_callB hc hg hm hv ha hn hdb hs hpl) fun σ H Q ⟨G, env, h, R, q⟩ => ⟨G, env, h, R, (PostF.bind (rel := rTs X.K) q).mono fun vs H1 ⟨ws, h1, mu1, R1, S1, r1, q1⟩ => o _ env h1 σ H1 Wx Q ws vs R1 r1 q1⟩
theorem pf_ty (hc : CallR X (.type T) r) (o : CbF X g r) (hg : Gl X x) (hm : X.mg x = none) (hv : bootBuiltins x = some (.type T)) (hn : x ≠ "__name__") (hdb : (x == ("__debug__" : Str)) = false) (ha : PATs X Wx (e :: es) ss)
    (hs : starEach (e :: es) X.env = (false, eval e X.env) :: starEach es X.env) (hpl : (backTo pos (starEach es X.env)).any (·.1) = false) : PEF X Wx (.Call (.Name x p) (e :: es) [] pos) (sBi g ss) :=
  PE.weak (pe_callTy hc hg hm hv ha hn hdb hs hpl) fun σ H Q ⟨G, env, h, R, q⟩ => ⟨G, env, h, R, (PostF.bind (rel := rTs X.K) q).mono fun vs H1 ⟨ws, h1, mu1, R1, S1, r1, q1⟩ => o _ env h1 σ H1 Wx Q ws vs R1 r1 q1⟩
/-- one argument -/
theorem cb1 {g : GB} {g1 : W → Hea → R W} {r : List V → Hp → VK → Prop} (hg : ∀ w h, g [w] h = g1 w h) (h0 : ∀ h, g [] h = .bad) (h2 : ∀ w u ws h, g (w :: u :: ws) h = .bad)
    (o : ∀ (G : Gh) (env : MP.Env) (h : Hea) (σ : Sg) (H : Hp) (Wx : WX) (Q : VK) (w : W) (v : V), Rel X.K G env h σ H → RT X.K G env H w v → PostR X.K G env σ H Wx (rW X.K) Q (g1 w h) → r [v] H Q) : CbC X g r := by
  intro G env h σ H Wx Q ws vs R rs p
  cases rs with
  | nil => rw [h0] at p; exact p.elim
  | cons r1 t =>
    cases t with
    | nil => rw [hg] at p; exact o G env h σ H Wx Q _ _ R r1 p
    | cons _ _ => rw [h2] at p; exact p.elim
theorem cf1 {g : GB} {g1 : W → Hea → R W} {r : List V → Hp → VK → Prop} (hg : ∀ w h, g [w] h = g1 w h) (h0 : ∀ h, g [] h = .bad) (h2 : ∀ w u ws h, g (w :: u :: ws) h = .bad)
    (o : ∀ (G : Gh) (env : MP.Env) (h : Hea) (σ : Sg) (H : Hp) (Wx : WX) (Q : VK) (w : W) (v : V), Rel X.K G env h σ H → RT X.K G env H w v → PostF X.K G env σ H Wx Q (g1 w h) → r [v] H Q) : CbF X g r := by
  intro G env h σ H Wx Q ws vs R rs p
  cases rs with
  | nil => rw [h0] at p; exact p.elim
  | cons r1 t =>
    cases t with
    | nil => rw [hg] at p; exact o G env h σ H Wx Q _ _ R r1 p
    | cons _ _ => rw [h2] at p; exact p.elim
/-! len -/
theorem CallR.or {f : Value} {r r' : List V → Hp → VK → Prop} (h : CallR X f r) (h' : CallR X f r') : CallR X f (fun xs H Q => r xs H Q ∨ r' xs H Q) := by
  intro pins s σ H xs us Q I rr q
  exact q.elim (h pins s σ H xs us Q I rr) (h' pins s σ H xs us Q I rr)
def rLen3 (K : PySem.W.Frag) : List V → Hp → VK → Prop := fun xs H Q => (fun xs H Q => ∃ p ys, xs = [V.ref p] ∧ (SqL K H p ys ∨ SqT K H p ys) ∧ Q (V.int ys.length) H) xs H Q ∨ (fun xs H Q => ∃ z, xs = [V.str z] ∧ z.length ≤ sizeLine ∧ Q (V.int z.length) H) xs H Q
theorem call_len3 : CallR X (.builtin "len") (rLen3 X.K) := CallR.or call_len_seq call_len_str
def len1 (w : W) (h : Hea) : R W := match w with
  | .str s => if Nat.ble s.length line then .ok (.int s.length) h else .bad
  | x => (match seqOf x h with
    | some ws => .ok (.int ws.length) h
    | none => .bad)
theorem cb_len : CbC X bLen (rLen3 X.K) := cb1 (g1 := len1) (fun w h => by cases w <;> rfl) (fun _ => rfl) (fun w _ _ _ => by cases w <;> rfl) fun G env h σ H Wx Q w v R r p => by
  have sq : ∀ ws, seqOf w h = some ws → PostR X.K G env σ H Wx (rW X.K) Q (.ok (.int ws.length) h) → rLen3 X.K [v] H Q := fun ws es q => by
    obtain ⟨b, xs, rfl, rr, z⟩ := RT.seq R r es
    have hq : Q (.int xs.length) H := PostR.hW (w := .int ws.length) q R (by rw [rr.length]; exact .int _)
    rcases z with ⟨z, _⟩ | ⟨z, _⟩
    · exact .inl ⟨b, xs, rfl, .inr z, hq⟩
    · exact .inl ⟨b, xs, rfl, .inl z, hq⟩
  have all : PostR X.K G env σ H Wx (rW X.K) Q (match seqOf w h with
    | some ws => MP.R.ok (.int ws.length) h
    | none => .bad) → rLen3 X.K [v] H Q := fun p' => by
    cases es : seqOf w h with
    | none => rw [es] at p'; exact p'.elim
    | some ws => rw [es] at p'; exact sq ws es p'
  cases w with
  | str s =>
    have p' : PostR X.K G env σ H Wx (rW X.K) Q (if Nat.ble s.length line = true then .ok (.int s.length) h else .bad) := p
    split at p'
    · rename_i hz
      refine .inr ⟨toS s, by rw [RT.inv_str R r], by rw [str_len]; exact le_line hz, ?_⟩
      rw [str_len]
      exact PostR.hW (w := .int s.length) p' R (.int _)
    · exact p'.elim
  | _ => exact all p
/-! lists of ints, of truths -/
theorem ints_rel {K : PySem.W.Frag} {mu : List Addr} {N : Addr → Prop} {H : Hp} : ∀ {ws : List W} {is : List Int} {vs : List V}, intsOf ws = some is → RWs K mu N H ws vs → vs = is.map V.int
  | [], is, vs, e, r => by
    cases e
    cases r
    rfl
  | w :: ws, is, vs, e, r => by
    cases r with
    | cons r1 t =>
      cases w with
      | int i =>
        cases q : intsOf ws with
        | none => simp [intsOf, q] at e
        | some js =>
          simp [intsOf, q] at e
          subst e
          rw [r1.inv_int, ints_rel q t]
          rfl
      | _ => cases e
theorem bools_rel {K : PySem.W.Frag} {mu : List Addr} {N : Addr → Prop} {H : Hp} : ∀ {ws : List W} {is : List Bool} {vs : List V}, boolsOf ws = some is → RWs K mu N H ws vs → vs = is.map V.bl
  | [], is, vs, e, r => by
    cases e
    cases r
    rfl
  | w :: ws, is, vs, e, r => by
    cases r with
    | cons r1 t =>
      cases w with
      | bl i =>
        cases q : boolsOf ws with
        | none => simp [boolsOf, q] at e
        | some js =>
          simp [boolsOf, q] at e
          subst e
          rw [r1.inv_bl, bools_rel q t]
          rfl
      | _ => cases e
theorem lst_rel {K : PySem.W.Frag} {G : Gh} {env : MP.Env} {h : Hea} {σ : Sg} {H : Hp} {w : W} {v : V} {ws : List W} (R : Rel K G env h σ H) (r : RT K G env H w v) (e : lstOf w h = some ws) : ∃ b xs, v = .ref b ∧ SqL K H b xs ∧ RWs K G.mu G.N H ws xs := by
  have e' : seqOf w h = some ws ∧ ∀ us, w ≠ .tup us := by
    cases w with
    | tup _ => cases e
    | _ => exact ⟨e, fun _ z => nomatch z⟩
  obtain ⟨b, xs, rfl, rr, z⟩ := RT.seq R r e'.1
  rcases z with ⟨_, z⟩ | ⟨z, _⟩
  · exact absurd z (e'.2 ws)
  · exact ⟨b, xs, rfl, z, rr⟩
theorem allI_rel {K : PySem.W.Frag} {G : Gh} {env : MP.Env} {h : Hea} {σ : Sg} {H : Hp} {w : W} {v : V} {is : List Int} (R : Rel K G env h σ H) (r : RT K G env H w v) (e : allI (lstOf w h) = some is) : ∃ b, v = .ref b ∧ SqL K H b (is.map V.int) := by
  cases q : lstOf w h with
  | none => rw [q] at e; cases e
  | some ws =>
    rw [q] at e
    obtain ⟨b, xs, e1, z, rr⟩ := lst_rel R r q
    exact ⟨b, e1, by rw [← ints_rel e rr]; exact z⟩
theorem allB_rel {K : PySem.W.Frag} {G : Gh} {env : MP.Env} {h : Hea} {σ : Sg} {H : Hp} {w : W} {v : V} {is : List Bool} (R : Rel K G env h σ H) (r : RT K G env H w v) (e : allB (lstOf w h) = some is) : ∃ b, v = .ref b ∧ SqL K H b (is.map V.bl) := by
  cases q : lstOf w h with
  | none => rw [q] at e; cases e
  | some ws =>
    rw [q] at e
    obtain ⟨b, xs, e1, z, rr⟩ := lst_rel R r q
    exact ⟨b, e1, by rw [← bools_rel e rr]; exact z⟩
theorem cb_sum : CbC X bSum (rSum X.K) := cb1 (fun w h => rfl) (fun _ => rfl) (fun _ _ _ _ => rfl) fun G env h σ H Wx Q w v R r p => by
  dsimp only [bSum] at p
  cases e : allI (lstOf w h) with
  | none => rw [e] at p; exact p.elim
  | some is =>
    rw [e] at p
    obtain ⟨b, rfl, z⟩ := allI_rel R r e
    exact ⟨b, is, rfl, z, PostR.hW (w := .int is.sum) p R (.int _)⟩
theorem cb_any : CbC X bAny (rAny X.K) := cb1 (fun w h => rfl) (fun _ => rfl) (fun _ _ _ _ => rfl) fun G env h σ H Wx Q w v R r p => by
  dsimp only [bAny] at p
  cases e : allB (lstOf w h) with
  | none => rw [e] at p; exact p.elim
  | some is =>
    rw [e] at p
    obtain ⟨b, rfl, z⟩ := allB_rel R r e
    exact ⟨b, is, rfl, z, PostR.hW (w := .bl (is.any id)) p R (.bl _)⟩
theorem cb_all : CbC X bAll (rAll X.K) := cb1 (fun w h => rfl) (fun _ => rfl) (fun _ _ _ _ => rfl) fun G env h σ H Wx Q w v R r p => by
  dsimp only [bAll] at p
  cases e : allB (lstOf w h) with
  | none => rw [e] at p; exact p.elim
  | some is =>
    rw [e] at p
    obtain ⟨b, rfl, z⟩ := allB_rel R r e
    exact ⟨b, is, rfl, z, PostR.hW (w := .bl (is.all id)) p R (.bl _)⟩
theorem maxI_ok : ∀ (is : List Int) (a : Int) (m : Int), (m = a ∨ m ∈ is) → a ≤ m → (∀ y ∈ is, y ≤ m) → maxI a is = m := by
  intro is
  induction is with
  | nil => intro a m h1 _ _; simp at h1; exact h1.symm
  | cons i is ih =>
    intro a m h1 h2 h3
    unfold maxI
    have hi := h3 i (List.mem_cons_self ..)
    refine ih _ m ?_ (by split <;> omega) fun y hy => h3 y (List.mem_cons_of_mem _ hy)
    by_cases hs : i > a
    · rw [if_pos hs]
      rcases h1 with h1 | h1
      · omega
      · rcases List.mem_cons.mp h1 with h1 | h1
        · exact .inl h1
        · exact .inr h1
    · rw [if_neg hs]
      rcases h1 with h1 | h1
      · exact .inl h1
      · rcases List.mem_cons.mp h1 with h1 | h1
        · exact .inl (by omega)
        · exact .inr h1
theorem minI_ok : ∀ (is : List Int) (a : Int) (m : Int), (m = a ∨ m ∈ is) → m ≤ a → (∀ y ∈ is, m ≤ y) → minI a is = m := by
  intro is
  induction is with
  | nil => intro a m h1 _ _; simp at h1; exact h1.symm
  | cons i is ih =>
    intro a m h1 h2 h3
    unfold minI
    have hi := h3 i (List.mem_cons_self ..)
    refine ih _ m ?_ (by split <;> omega) fun y hy => h3 y (List.mem_cons_of_mem _ hy)
    by_cases hs : i < a
    · rw [if_pos hs]
      rcases h1 with h1 | h1
      · omega
      · rcases List.mem_cons.mp h1 with h1 | h1
        · exact .inl h1
        · exact .inr h1
    · rw [if_neg hs]
      rcases h1 with h1 | h1
      · exact .inl h1
      · rcases List.mem_cons.mp h1 with h1 | h1
        · exact .inl (by omega)
        · exact .inr h1
theorem cb_max1 : CbC X bMax1 (rMax X.K) := cb1 (fun w h => rfl) (fun _ => rfl) (fun _ _ _ _ => rfl) fun G env h σ H Wx Q w v R r p => by
  dsimp only [bMax1] at p
  cases e : allI (lstOf w h) with
  | none => rw [e] at p; exact p.elim
  | some is =>
    rw [e] at p
    obtain ⟨b, rfl, z⟩ := allI_rel R r e
    cases is with
    | nil => exact False.elim p
    | cons i is =>
      refine ⟨b, i :: is, rfl, z, by simp, fun m hm hy => PostR.hW (w := .int (maxI i is)) p R ?_⟩
      rw [maxI_ok is i m (List.mem_cons.mp hm) (hy i (List.mem_cons_self ..)) fun y h => hy y (List.mem_cons_of_mem _ h)]
      exact .int _
theorem cb_min1 : CbC X bMin1 (rMin X.K) := cb1 (fun w h => rfl) (fun _ => rfl) (fun _ _ _ _ => rfl) fun G env h σ H Wx Q w v R r p => by
  dsimp only [bMin1] at p
  cases e : allI (lstOf w h) with
  | none => rw [e] at p; exact p.elim
  | some is =>
    rw [e] at p
    obtain ⟨b, rfl, z⟩ := allI_rel R r e
    cases is with
    | nil => exact False.elim p
    | cons i is =>
      refine ⟨b, i :: is, rfl, z, by simp, fun m hm hy => PostR.hW (w := .int (minI i is)) p R ?_⟩
      rw [minI_ok is i m (List.mem_cons.mp hm) (hy i (List.mem_cons_self ..)) fun y h => hy y (List.mem_cons_of_mem _ h)]
      exact .int _
/-! numbers -/
def abs1 (w : W) (h : Hea) : R W := match w with
  | .int i => .ok (.int (if i < 0 then -i else i)) h
  | _ => .bad
theorem cb_abs : CbC X bAbs (fun xs H Q => ∃ i, xs = [V.int i] ∧ Q (.int (if i < 0 then -i else i)) H) := cb1 (g1 := abs1) (fun w h => by cases w <;> rfl) (fun _ => rfl) (fun w _ _ _ => by cases w <;> rfl) fun G env h σ H Wx Q w v R r p => by
  cases w with
  | int i => exact ⟨i, by rw [RT.inv_int R r], PostR.hW (w := .int (if i < 0 then -i else i)) p R (.int _)⟩
  | _ => exact False.elim p
def int1 (w : W) (h : Hea) : R W := match w with
  | .int i => .ok (.int i) h
  | .bl b => .ok (.int (if b then 1 else 0)) h
  | _ => .bad
theorem cb_int : CbC X bInt (fun xs H Q => (∃ i, xs = [V.int i] ∧ Q (.int i) H) ∨ ∃ k, xs = [V.bl k] ∧ Q (.int (if k then 1 else 0)) H) := cb1 (g1 := int1) (fun w h => by cases w <;> rfl) (fun _ => rfl) (fun w _ _ _ => by cases w <;> rfl) fun G env h σ H Wx Q w v R r p => by
  cases w with
  | int i => exact .inl ⟨i, by rw [RT.inv_int R r], PostR.hW (w := .int i) p R (.int _)⟩
  | bl i => exact .inr ⟨i, by rw [RT.inv_bl R r], PostR.hW (w := .int (if i then 1 else 0)) p R (.int _)⟩
  | _ => exact False.elim p
/-- two ints -/
theorem cb2 {g : GB} {f : Int → Int → Int} (hg : ∀ i j h, g [.int i, .int j] h = .ok (.int (f i j)) h) (hb : ∀ ws h w' h', g ws h = .ok w' h' → ∃ i j, ws = [.int i, .int j]) (hx : ∀ ws h c p h', g ws h ≠ .ex c p h') : CbC X g (fun xs H Q => ∃ i j, xs = [V.int i, V.int j] ∧ Q (.int (f i j)) H) := by
  intro G env h σ H Wx Q ws vs R rs p
  cases e : g ws h with
  | ok w h' =>
    obtain ⟨i, j, rfl⟩ := hb ws h w h' e
    rw [hg] at p
    cases rs with
    | cons r1 t =>
      cases t with
      | cons r2 t =>
        cases t
        exact ⟨i, j, by rw [RT.inv_int R r1, RT.inv_int R r2], PostR.hW (w := .int (f i j)) p R (.int _)⟩
  | ex c q h' => exact absurd e (hx ws h c q h')
  | bad => rw [e] at p; exact p.elim
theorem cb_max2 : CbC X bMax2 (fun xs H Q => ∃ i j, xs = [V.int i, V.int j] ∧ Q (.int (if j > i then j else i)) H) := cb2 (fun _ _ _ => rfl) (fun ws h w' h' e => by
  unfold bMax2 at e
  split at e
  · exact ⟨_, _, rfl⟩
  · cases e) (fun ws h c p h' e => by
  unfold bMax2 at e
  split at e <;> cases e)
theorem cb_min2 : CbC X bMin2 (fun xs H Q => ∃ i j, xs = [V.int i, V.int j] ∧ Q (.int (if j < i then j else i)) H) := cb2 (fun _ _ _ => rfl) (fun ws h w' h' e => by
  unfold bMin2 at e
  split at e
  · exact ⟨_, _, rfl⟩
  · cases e) (fun ws h c p h' e => by
  unfold bMin2 at e
  split at e <;> cases e)
/-! list, tuple -/
theorem cf_list : CbF X bList (fun xs H Q => ∃ p ys, xs = [V.ref p] ∧ (SqL X.K H p ys ∨ SqT X.K H p ys) ∧ ∀ l, H l = none → Q (.ref l) (L2.upd H l (.lst ys))) := cf1 (fun w h => rfl) (fun _ => rfl) (fun _ _ _ _ => rfl) fun G env h σ H Wx Q w v R r p => by
  dsimp only [bList] at p
  cases e : seqOf w h with
  | none => rw [e] at p; exact p.elim
  | some ws =>
    rw [e] at p
    obtain ⟨b, xs, rfl, rr, z⟩ := RT.seq R r e
    refine ⟨b, xs, rfl, ?_, fun l hl => PostF.new (w := .lst ws) p R hl (.lst upd_same (rr.keep (keeps_new R hl) (Longer.refl _)))⟩
    rcases z with ⟨z, _⟩ | ⟨z, _⟩
    · exact .inr z
    · exact .inl z
theorem cb_tuple : CbC X bTuple (fun xs H Q => ∃ p ys, xs = [V.ref p] ∧ ((SqL X.K H p ys ∧ ∀ l, H l = none → Q (.ref l) (L2.upd H l (.tup ys))) ∨ (SqT X.K H p ys ∧ Q (.ref p) H))) := cb1 (fun w h => rfl) (fun _ => rfl) (fun _ _ _ _ => rfl) fun G env h σ H Wx Q w v R r p => by
  dsimp only [bTuple] at p
  cases e : seqOf w h with
  | none => rw [e] at p; exact p.elim
  | some ws =>
    rw [e] at p
    obtain ⟨b, xs, rfl, rr, z⟩ := RT.seq R r e
    refine ⟨b, xs, rfl, ?_⟩
    rcases z with ⟨z, ew⟩ | ⟨z, _⟩
    · subst ew
      rcases r with r | ⟨i, a', ei, _, _⟩
      · exact .inr ⟨z, PostR.hW (w := .tup ws) p R r⟩
      · obtain ⟨_, _, _, cc⟩ := R.own _ _ ei
        cases cc
    · exact .inl ⟨z, fun l hl => PostR.nW (w := .tup ws) p R hl (.tup (.inl ⟨.inl upd_same, R.fresh hl⟩) (rr.keep (keeps_upd hl) (Longer.refl _)))⟩
/-! sorted of ints -/
theorem insB_perm {α : Type} (lt : α → α → Bool) (x : α) : ∀ l : List α, (insB lt x l).Perm (x :: l)
  | [] => List.Perm.refl _
  | y :: r => by
    unfold insB
    split
    · exact List.Perm.refl _
    · exact ((insB_perm lt x r).cons y).trans (List.Perm.swap x y r)
theorem sortB_perm {α : Type} (lt : α → α → Bool) (l : List α) : (sortB lt l).Perm l := by
  have g : ∀ (l acc : List α), (l.foldl (fun acc x => insB lt x acc) acc).Perm (l ++ acc) := by
    intro l
    induction l with
    | nil => intro acc; exact List.Perm.refl _
    | cons x l ih =>
      intro acc
      rw [List.foldl_cons]
      exact (ih _).trans (((insB_perm lt x acc).append_left l).trans (List.perm_middle))
  have := g l []
  rw [List.append_nil] at this
  exact this
theorem insI_srt (x : Int) : ∀ l : List Int, l.Pairwise (· ≤ ·) → (insB ltI x l).Pairwise (· ≤ ·)
  | [], _ => List.pairwise_singleton _ _
  | y :: r, h => by
    obtain ⟨h1, h2⟩ := List.pairwise_cons.mp h
    unfold insB
    split
    · rename_i hx
      have hx : x < y := of_decide_eq_true hx
      refine List.pairwise_cons.mpr ⟨fun z hz => ?_, h⟩
      rcases List.mem_cons.mp hz with e | hz
      · omega
      · have := h1 z hz
        omega
    · rename_i hx
      have hx : ¬ x < y := fun q => hx (decide_eq_true q)
      refine List.pairwise_cons.mpr ⟨fun z hz => ?_, insI_srt x r h2⟩
      rcases List.mem_cons.mp ((insB_perm ltI x r).mem_iff.mp hz) with e | hz
      · omega
      · exact h1 z hz
theorem sortI_srt (l : List Int) : (sortB ltI l).Pairwise (· ≤ ·) := by
  have g : ∀ (l acc : List Int), acc.Pairwise (· ≤ ·) → (l.foldl (fun acc x => insB ltI x acc) acc).Pairwise (· ≤ ·) := by
    intro l
    induction l with
    | nil => intro acc h; exact h
    | cons x l ih => intro acc h; exact ih _ (insI_srt x acc h)
  exact g l [] List.Pairwise.nil
theorem srt_uniq : ∀ {a b : List Int}, a.Perm b → a.Pairwise (· ≤ ·) → b.Pairwise (· ≤ ·) → a = b
  | [], b, p, _, _ => (List.nil_perm.mp p).symm
  | x :: a, [], p, _, _ => absurd (List.perm_nil.mp p) (by simp)
  | x :: a, y :: b, p, h1, h2 => by
    obtain ⟨h1a, h1b⟩ := List.pairwise_cons.mp h1
    obtain ⟨h2a, h2b⟩ := List.pairwise_cons.mp h2
    have e : x = y := by
      have m1 : x ∈ y :: b := p.mem_iff.mp (List.mem_cons_self ..)
      have m2 : y ∈ x :: a := p.mem_iff.mpr (List.mem_cons_self ..)
      rcases List.mem_cons.mp m1 with e | m1
      · exact e
      · rcases List.mem_cons.mp m2 with e | m2
        · exact e.symm
        · have := h1a y m2
          have := h2a x m1
          omega
    subst e
    rw [srt_uniq ((List.perm_cons x).mp p) h1b h2b]
end
end MP
end

section
set_option Elab.async false
set_option linter.all false
set_option maxRecDepth 100000
set_option autoImplicit false
/-! MP9: further expressions. -/
namespace MP
open PySem PySem.Spec PyProof.Rows L2
section
variable {X : Cx} {Wx : WX} {e a b : Expr} {es : List Expr} {sa sb sc : SE} {ss : SA} {x : Str} {p p2 pos cpos apos : Pos}
theorem cf_sortI : CbF X bSortI (rSortedI X.K) := cf1 (fun w h => rfl) (fun _ => rfl) (fun _ _ _ _ => rfl) fun G env h σ H Wx Q w v R r p => by
  dsimp only [bSortI] at p
  cases e : allI (lstOf w h) with
  | none => rw [e] at p; exact p.elim
  | some is =>
    rw [e] at p
    obtain ⟨b, rfl, z⟩ := allI_rel R r e
    refine ⟨b, is, rfl, z, fun ns q hp hs hq => ?_⟩
    have en : ns = sortB ltI is := srt_uniq (hp.trans (sortB_perm ltI is).symm) hs (sortI_srt is)
    subst en
    exact PostF.new (w := .lst ((sortB ltI is).map .int)) p R hq (.lst upd_same (ints_rw _))
/-! isinstance -/
def tnS : Tn → String
  | .non => "NoneType"
  | .bool => "bool"
  | .int => "int"
  | .str => "str"
  | .tuple => "tuple"
  | .list => "list"
  | .dict => "dict"
theorem kit_tn (s t : Tn) : kitB (tnS s) (tnS t) = some (subT s t) := by
  cases s <;> cases t <;> decide +kernel
theorem tn_rel {K : PySem.W.Frag} {G : Gh} {env : MP.Env} {h : Hea} {σ : Sg} {H : Hp} {w : W} {v : V} {s : Tn} (R : Rel K G env h σ H) (r : RT K G env H w v) (e : tnOf w h = some s) : TyX K H v (.type (tnS s)) := by
  cases w with
  | non => cases e; rw [RT.inv_non R r]; exact .base .non
  | bl b => cases e; rw [RT.inv_bl R r]; exact .base (.bl b)
  | int b => cases e; rw [RT.inv_int R r]; exact .base (.int b)
  | str b => cases e; rw [RT.inv_str R r]; exact .base (.str _)
  | tup ws =>
    cases e
    obtain ⟨a, xs, rfl, t, _⟩ := RT.inv_tup R r
    rcases t with ⟨t | ⟨o, t⟩, _⟩ | ⟨o, its, n, hk, hc, _⟩
    · exact .base (.tup t)
    · exact .fTuple t
    · exact .kTuple hk hc
  | lst ws =>
    cases e
    obtain ⟨a, xs, rfl, t, _⟩ := RT.inv_lst R r
    exact .base (.lst t)
  | dct kvs =>
    cases e
    obtain ⟨a, rfl, d⟩ := RT.inv_dct R r
    cases d with
    | dK e _ => exact .base (.dK e)
  | scr ws => cases e
  | ref n =>
    obtain ⟨a, rfl, m⟩ := RT.inv_ref R r
    have e' : (match h[n]? with
      | some (O.lst _) => some Tn.list
      | some (.dct _) => some .dict
      | _ => none) = some s := e
    cases q : h[n]? with
    | none => rw [q] at e'; cases e'
    | some o =>
      rw [q] at e'
      have ro := R.hp.obj n o a q m
      cases o with
      | lst ws =>
        cases e'
        cases ro with
        | lst c => cases c with
          | lst t _ => exact .base (.lst t)
      | dct ws =>
        cases e'
        cases ro with
        | dct c =>
          cases c.dat with
          | dK e _ => exact .base (.dK e)
      | ins _ _ => cases e'
      | opq => cases e'
theorem pw_isi {t : Tn} {tn : Str} (hg : Gl X "isinstance") (hm : X.mg "isinstance" = none) (hgt : Gl X tn) (hmt : X.mg tn = none) (hv : bootBuiltins tn = some (.type (tnS t))) (hn : tn ≠ "__name__") (hd : (tn == ("__debug__" : Str)) = false) (ha : PET X Wx a sa)
    (hs : starEach [a, .Name tn p2] X.env = (false, eval a X.env) :: starEach [.Name tn p2] X.env) (hpl : (backTo pos (starEach [.Name tn p2] X.env)).any (·.1) = false) : PEW X Wx (.Call (.Name "isinstance" p) [a, .Name tn p2] [] pos) (sIsI sa t) :=
  PE.weak (pe_callB (r := rIsi X.K) call_isi hg hm PyProof.Rows.boot_isinstance (pa_cons ha (pa_cons (pe_bltn (v := .ty (tnS t)) hgt hmt hv rfl hn hd) pa_nil rfl) hs) (by decide) (by decide) hs hpl)
    fun σ H Q ⟨G, env, h, R, q⟩ => ⟨G, env, h, R, (PostR.bind (rel := rT X.K) q).mono fun v H1 ⟨w, h1, mu1, R1, S1, r1, q1⟩ => by
      cases e : tnOf w h1 with
      | none =>
        have q2 : PostR X.K (G.at mu1) env σ H1 Wx (rW X.K) Q (match tnOf w h1 with
          | some s => MP.R.ok (.bl (subT s t)) h1
          | none => .bad) := q1
        rw [e] at q2; exact q2.elim
      | some s =>
        have q2 : PostR X.K (G.at mu1) env σ H1 Wx (rW X.K) Q (match tnOf w h1 with
          | some s => MP.R.ok (.bl (subT s t)) h1
          | none => .bad) := q1
        rw [e] at q2
        exact ⟨v, .ty (tnS t), .type (tnS s), .type (tnS t), subT s t, rfl, .ty _, tn_rel R1 r1 e, kit_ty (kit_tn s t), PostR.hW (w := .bl (subT s t)) q2 R1 (.bl _)⟩⟩
/-! dicts whose keys are ints and texts -/
theorem wKey_of {K : PySem.W.Frag} {G : Gh} {env : MP.Env} {h : Hea} {σ : Sg} {H : Hp} {w : W} {v : V} (R : Rel K G env h σ H) (r : RT K G env H w v) (k : keyOk w = true) : ∃ key, w = wKey key ∧ v = kV key := by
  cases w with
  | int i => exact ⟨.inl i, rfl, RT.inv_int R r⟩
  | str s => exact ⟨.inr (toS s), by simp [wKey], RT.inv_str R r⟩
  | _ => exact absurd k Bool.false_ne_true
theorem eq_wKey (a b : Key) : eqW (wKey a) (wKey b) = decide (a = b) := by
  cases a with
  | inl i =>
    cases b with
    | inl j =>
      show (i == j) = _
      by_cases e : i = j
      · subst e; simp
      · rw [decide_eq_false (fun z => e (Sum.inl.inj z))]; simpa using e
    | inr s => exact (decide_eq_false (fun z => nomatch z)).symm
  | inr s =>
    cases b with
    | inl j => exact (decide_eq_false (fun z => nomatch z)).symm
    | inr t =>
      show (s.cps.toList == t.cps.toList) = _
      by_cases e : s = t
      · subst e; simp
      · rw [decide_eq_false (fun z => e (Sum.inr.inj z))]
        rw [beq_eq_false_iff_ne]
        intro z
        apply e
        cases s; cases t
        simp only [Str.mk.injEq]
        exact Array.toList_inj.mp z
theorem look_rel {K : PySem.W.Frag} {mu : List Addr} {N : Addr → Prop} {H : Hp} {k : Key} : ∀ {kvs : List (Key × V)} {ws : List W}, RWs K mu N H ws (kvs.map (·.2)) →
    (∀ w, lookK (wKey k) ((kvs.map fun p => wKey p.1).zip ws) = some w → ∃ v, valV kvs k = some v ∧ RW K mu N H w v) ∧ (lookK (wKey k) ((kvs.map fun p => wKey p.1).zip ws) = none → valV kvs k = none)
  | [], ws, r => by
    cases r
    constructor
    · intro w e
      cases e
    · intro _
      rfl
  | (k', v') :: kvs, ws, r => by
    cases r with
    | cons r1 t =>
      rename_i w' ws'
      have ih := look_rel (k := k) t
      have e1 : lookK (wKey k) ((((k', v') :: kvs).map fun p => wKey p.1).zip (w' :: ws')) = if eqW (wKey k') (wKey k) = true then some w' else lookK (wKey k) ((kvs.map fun p => wKey p.1).zip ws') := rfl
      have e2 : valV ((k', v') :: kvs) k = if decide (k' = k) = true then some v' else valV kvs k := by
        unfold valV
        first
          | rfl
          | (simp only [List.find?_cons]; split <;> simp_all)
          | (simp; split <;> simp_all)
      rw [e1, e2, eq_wKey]
      split
      · exact ⟨fun w e => by cases e; exact ⟨_, rfl, r1⟩, fun e => nomatch e⟩
      · exact ih
end
end MP
end

section
set_option Elab.async false
set_option linter.all false
set_option maxRecDepth 100000
set_option autoImplicit false
/-! MP10: dicts, slices, what is put in the small heap. -/
namespace MP
open PySem PySem.Spec PyProof.Rows L2
/-! ### put in the small heap -/
section
variable {K : PySem.W.Frag} {G : Gh} {env : MP.Env} {h : Hea} {σ : Sg} {H H0 : Hp} {b : Addr} {mu : List Addr}
theorem longer_app (mu : List Addr) (b : Addr) : Longer mu (mu ++ [b]) := fun i y z => by
  rw [List.getElem?_append_left (List.getElem?_eq_some_iff.mp z).1]
  exact z
theorem keeps_adopt : Keeps (G.plus b mu).N H (G.at (mu ++ [b])).N H := fun x o e n => by
  refine ⟨e, fun z => n ?_⟩
  rcases z with z | z | z
  · exact .inl (.inl z)
  · rcases List.mem_append.mp z with z | z
    · exact .inr (.inl z)
    · exact .inl (.inr (by simpa using z))
  · exact .inr (.inr z)
theorem Rel.adopt {ob : O} (R : Rel K (G.plus b mu) env h σ H) (nb : ¬ G.n0 b) (r : RO K mu (G.plus b mu).N H b ob) : Rel K (G.at (mu ++ [b])) env (h ++ [ob]) σ H where
  len := R.len
  val := fun i w y => let ⟨v, q, r⟩ := R.val i w y; ⟨v, q, r.keep keeps_adopt (longer_app mu b)⟩
  own := fun i w y => let ⟨x, q, z, r⟩ := R.own i w y; ⟨x, q, z, r.keep keeps_adopt (longer_app mu b) rfl⟩
  hp := by
    refine ⟨by show (h ++ [ob]).length = (mu ++ [b]).length; rw [List.length_append, List.length_append, R.hp.len]; rfl, fun i o x q z => ?_, ?_⟩
    · have lm : h.length = mu.length := R.hp.len
      by_cases hi : i < h.length
      · rw [List.getElem?_append_left hi] at q
        have z' : (mu ++ [b])[i]? = some x := z
        rw [List.getElem?_append_left (by rw [← lm]; exact hi)] at z'
        exact (R.hp.obj i o x q z').keep keeps_adopt (longer_app mu b) rfl
      · have hl : i < (h ++ [ob]).length := (List.getElem?_eq_some_iff.mp q).1
        rw [List.length_append] at hl
        have ei : i = h.length := by simp at hl; omega
        subst ei
        have q' : ob = o := by simpa using q
        have z' : (mu ++ [b])[h.length]? = some x := z
        rw [lm] at z'
        have z2 : b = x := by simpa using z'
        subst q'
        subst z2
        exact r.keep keeps_adopt (longer_app mu b) rfl
    · show (mu ++ [b]).Nodup
      refine List.nodup_append.mpr ⟨R.hp.nd, by simp, fun y hy z hz q => ?_⟩
      have e : z = b := by simpa using hz
      rw [e] at q
      exact R.mn y hy (.inr q)
  oi := R.oi
  om := fun i x q => by
    obtain ⟨n1, n2, n3⟩ := R.om i x q
    refine ⟨fun z => ?_, fun z => n2 (.inl z), n3⟩
    rcases List.mem_append.mp z with z | z
    · exact n1 z
    · exact n2 (.inr (by simpa using z))
  mn := fun y z q => by
    rcases List.mem_append.mp z with z | z
    · exact R.mn y z (.inl q)
    · have e : y = b := by simpa using z
      rw [e] at q
      exact nb q
  nn := fun y z => R.nn y (.inl z)
theorem Step.adopt (S : Step G H0 (G.at mu) H) (e : H0 b = none) : Step G H0 (G.at (mu ++ [b])) H := by
  refine ⟨⟨fun x o ex n => ?_, fun n x z => longer_app mu b n x (S.mu n x z), rfl, S.fz⟩, rfl, S.oc⟩
  obtain ⟨e1, n1⟩ := S.keep x o ex n
  refine ⟨e1, fun z => ?_⟩
  rcases z with z | z
  · rcases List.mem_append.mp z with z | z
    · exact n1 (.inl z)
    · exact ne_of_none ex e (by simpa using z)
  · exact n1 (.inr z)
end
section
variable {X : Cx} {Wx : WX} {e o i a b : Expr} {es : List Expr} {s sa sb so si : SE} {ss : SA} {x : Str} {p p2 pos cpos apos : Pos}
def heapW (x : W) (h : Hea) : R W := match x with
  | .lst xs => .ok (.ref h.length) (h ++ [.lst xs])
  | .dct kvs => .ok (.ref h.length) (h ++ [.dct kvs])
  | _ => .bad
theorem pw_heap (he : PEF X Wx e s) : PEW X Wx e (sHeap s) :=
  PE.weak he fun σ H Q ⟨G, env, h, R, q⟩ => ⟨G, env, h, R, by
    have q' : PostR X.K G env σ H Wx (rW X.K) Q ((s env h).bind heapW) := q
    generalize s env h = r at q' ⊢
    cases r with
    | ok w h' =>
      intro a mu' H' R' S n c
      have q2 : PostR X.K G env σ H Wx (rW X.K) Q (heapW w h') := q'
      have nb := n0_none R n
      have lm : h'.length = mu'.length := R'.hp.len
      have last : (mu' ++ [a])[h'.length]? = some a := by rw [lm]; simp
      cases w with
      | lst xs => exact q2 (.ref a) (mu' ++ [a]) H' (R'.adopt nb (.lst c)) (S.adopt n) (.ref last)
      | dct kvs => exact q2 (.ref a) (mu' ++ [a]) H' (R'.adopt nb (.dct c)) (S.adopt n) (.ref last)
      | _ => exact False.elim q2
    | ex c p h' => exact q'
    | bad => exact q'⟩
/-! ### dicts whose keys are ints and texts -/
theorem look_or {K : PySem.W.Frag} {mu : List Addr} {N : Addr → Prop} {H : Hp} {k : Key} {kvs : List (Key × V)} {ws : List W} (r : RWs K mu N H ws (kvs.map (·.2))) :
    (∃ w v, lookK (wKey k) ((kvs.map fun p => wKey p.1).zip ws) = some w ∧ valV kvs k = some v ∧ RW K mu N H w v) ∨ (lookK (wKey k) ((kvs.map fun p => wKey p.1).zip ws) = none ∧ valV kvs k = none) := by
  obtain ⟨h1, h2⟩ := look_rel (k := k) r
  cases e : lookK (wKey k) ((kvs.map fun p => wKey p.1).zip ws) with
  | none => exact .inr ⟨rfl, h2 e⟩
  | some w =>
    obtain ⟨v, e1, r1⟩ := h1 w e
    exact .inl ⟨w, v, rfl, e1, r1⟩
theorem pw_dget (hu : X.A.units + 1 < cLine) (ho : PET X Wx o so) (hi : PET X Wx i si) (hs : NoSl i) : PEW X Wx (.Subscript o i pos) (sB gIxD so si) :=
  PE.weak (pe_dget hu ho hi hs) fun σ H Q ⟨G, env, h, R, q⟩ => ⟨G, env, h, R, (PostR.bind (rel := rT X.K) q).mono fun v H1 ⟨w, h1, mu1, R1, S1, r1, q1⟩ =>
    ⟨_, env, h1, R1, (PostR.bind (rel := rT X.K) q1).mono fun u H2 ⟨z, h2, mu2, R2, S2, r2, q2⟩ => by
      dsimp only [gIxD] at q2
      cases ed : dctOf w h2 with
      | none => rw [ed] at q2; exact q2.elim
      | some kvs =>
        rw [ed] at q2
        dsimp only at q2
        obtain ⟨d, rfl, da⟩ := RT.dat R2 (r1.step S2 R2) ed
        split at q2
        · rename_i hk
          obtain ⟨key, rfl, rfl⟩ := wKey_of R2 r2 hk
          cases da with
          | dK eh rr =>
            rcases look_or (k := key) rr with ⟨w', v', e1, e2, r3⟩ | ⟨e1, _⟩
            · rw [e1] at q2
              exact ⟨d, v', rfl, e2 ▸ DGet.k eh, PostR.hW (w := w') q2 R2 r3⟩
            · rw [e1] at q2
              exact q2.elim
        · exact q2.elim⟩⟩
theorem tDIn_of {σ : Sg} {H : Hp} {Q : VK} (t : tR X.K Wx (rW X.K) (sB gInD si so) σ H Q) : tDIn (tR X.K Wx (rT X.K) si) (tR X.K Wx (rT X.K) so) σ H Q := by
  obtain ⟨G, env, h, R, q⟩ := t
  refine ⟨G, env, h, R, (PostR.bind (rel := rT X.K) q).mono fun v H1 ⟨w, h1, mu1, R1, S1, r1, q1⟩ => ⟨_, env, h1, R1, (PostR.bind (rel := rT X.K) q1).mono fun u H2 ⟨z, h2, mu2, R2, S2, r2, q2⟩ => ?_⟩⟩
  dsimp only [gInD] at q2
  cases ed : dctOf z h2 with
  | none => rw [ed] at q2; exact q2.elim
  | some kvs =>
    rw [ed] at q2
    dsimp only at q2
    obtain ⟨d, rfl, da⟩ := RT.dat R2 r2 ed
    split at q2
    · rename_i hk
      obtain ⟨key, rfl, rfl⟩ := wKey_of R2 (r1.step S2 R2) hk
      cases da with
      | dK eh rr =>
        rcases look_or (k := key) rr with ⟨w', v', e1, e2, r3⟩ | ⟨e1, e2⟩
        · rw [e1] at q2
          exact ⟨d, _, rfl, DGet.k eh, by rw [e2]; exact PostR.hW (w := .bl true) q2 R2 (.bl _)⟩
        · rw [e1] at q2
          exact ⟨d, _, rfl, DGet.k eh, by rw [e2]; exact PostR.hW (w := .bl false) q2 R2 (.bl _)⟩
    · exact q2.elim
theorem tDNotIn_of {σ : Sg} {H : Hp} {Q : VK} (t : tR X.K Wx (rW X.K) (sB gNotInD si so) σ H Q) : tDNotIn (tR X.K Wx (rT X.K) si) (tR X.K Wx (rT X.K) so) σ H Q := by
  obtain ⟨G, env, h, R, q⟩ := t
  refine ⟨G, env, h, R, (PostR.bind (rel := rT X.K) q).mono fun v H1 ⟨w, h1, mu1, R1, S1, r1, q1⟩ => ⟨_, env, h1, R1, (PostR.bind (rel := rT X.K) q1).mono fun u H2 ⟨z, h2, mu2, R2, S2, r2, q2⟩ => ?_⟩⟩
  dsimp only [gNotInD] at q2
  cases ed : dctOf z h2 with
  | none => rw [ed] at q2; exact q2.elim
  | some kvs =>
    rw [ed] at q2
    dsimp only at q2
    obtain ⟨d, rfl, da⟩ := RT.dat R2 r2 ed
    split at q2
    · rename_i hk
      obtain ⟨key, rfl, rfl⟩ := wKey_of R2 (r1.step S2 R2) hk
      cases da with
      | dK eh rr =>
        rcases look_or (k := key) rr with ⟨w', v', e1, e2, r3⟩ | ⟨e1, e2⟩
        · rw [e1] at q2
          exact ⟨d, _, rfl, DGet.k eh, by rw [e2]; exact PostR.hW (w := .bl false) q2 R2 (.bl _)⟩
        · rw [e1] at q2
          exact ⟨d, _, rfl, DGet.k eh, by rw [e2]; exact PostR.hW (w := .bl true) q2 R2 (.bl _)⟩
    · exact q2.elim
theorem pw_din (hu : X.A.units + 1 < cLine) (hi : PET X Wx i si) (ho : PET X Wx o so) (hm : behindInMarks .In o = false) : PEW X Wx (.Compare i [.In] [o] pos) (sB gInD si so) := PE.weak (pe_cmp (pc_din hu hi ho) hm) fun σ H Q t => tDIn_of t
theorem pw_dnotin (hu : X.A.units + 1 < cLine) (hi : PET X Wx i si) (ho : PET X Wx o so) (hm : behindInMarks .NotIn o = false) : PEW X Wx (.Compare i [.NotIn] [o] pos) (sB gNotInD si so) := PE.weak (pe_cmp (pc_dnotin hu hi ho) hm) fun σ H Q t => tDNotIn_of t
theorem ptw_din (hu : X.A.units + 1 < cLine) (hi : PET X Wx i si) (ho : PET X Wx o so) (hm : behindInMarks .In o = false) : PTW X Wx (.Compare i [.In] [o] pos) (tV (sB gInD si so)) := ptw_pc (pc_din hu hi ho) hm fun σ H Q t => tDIn_of t
theorem ptw_dnotin (hu : X.A.units + 1 < cLine) (hi : PET X Wx i si) (ho : PET X Wx o so) (hm : behindInMarks .NotIn o = false) : PTW X Wx (.Compare i [.NotIn] [o] pos) (tV (sB gNotInD si so)) := ptw_pc (pc_dnotin hu hi ho) hm fun σ H Q t => tDNotIn_of t
/-- d.get(k, x) -/
theorem pw_dget2 (hu : X.A.units + 1 < cLine) (ho : PET X Wx o so) (he : PEW X Wx a sa) (hf : PEW X Wx b sb) (m : M2 X o "get" apos a b cpos) : PEW X Wx (.Call (.Attribute o "get" apos) [a, b] [] cpos) (sGet so sa sb) :=
  PE.weak (pe_dget2 hu ho he hf m) fun σ H Q ⟨G, env, h, R, q⟩ => ⟨G, env, h, R, (PostR.bind (rel := rT X.K) q).mono fun v H1 ⟨w, h1, mu1, R1, S1, r1, q1⟩ => by
    cases ed : dctOf w h1 with
    | none => rw [ed] at q1; exact q1.elim
    | some kvs =>
      rw [ed] at q1
      obtain ⟨d, rfl, da⟩ := RT.dat R1 r1 ed
      refine ⟨d, rfl, ?_, _, env, h1, R1, (PostR.bind (rel := rW X.K) q1).mono fun u H2 ⟨z, h2, mu2, R2, S2, r2, q2⟩ => ⟨_, env, h2, R2, (PostR.bind (rel := rW X.K) q2).mono fun y H3 ⟨z', h3, mu3, R3, S3, r3, q3⟩ => ?_⟩⟩
      · cases da with
        | dK eh _ => exact .inl ⟨_, .inl eh⟩
      · cases ed2 : dctOf w h3 with
        | none => rw [ed2] at q3; exact q3.elim
        | some kvs2 =>
          rw [ed2] at q3
          dsimp only at q3
          obtain ⟨d', e', da'⟩ := RT.dat R3 ((r1.step S2 R2).step S3 R3) ed2
          cases e'
          split at q3
          · rename_i hk
            obtain ⟨key, rfl, rfl⟩ := wKey_of R3 (.inl (r2.step S3.toStepS)) hk
            cases da' with
            | dK eh rr =>
              rcases look_or (k := key) rr with ⟨w', v', e1, e2, r5⟩ | ⟨e1, e2⟩
              · rw [e1] at q3
                exact ⟨_, DGet.k eh, by rw [e2]; exact PostR.hW (w := w') q3 R3 r5⟩
              · rw [e1] at q3
                exact ⟨_, DGet.k eh, by rw [e2]; exact PostR.hW (w := z') q3 R3 r3⟩
          · exact q3.elim⟩
/-- dict(d): a copy -/
theorem cf_dict : CbF X bDict (fun xs H Q => ∃ (a : Addr) (kvs : List (Key × V)), xs = [.ref a] ∧ Rd H a (.dK kvs) ∧ ∀ p, H p = none → Q (.ref p) (L2.upd H p (.dK kvs))) := cf1 (fun w h => rfl) (fun _ => rfl) (fun _ _ _ _ => rfl) fun G env h σ H Wx Q w v R r p => by
  dsimp only [bDict] at p
  cases e : dctOf w h with
  | none => rw [e] at p; exact p.elim
  | some kvs =>
    rw [e] at p
    obtain ⟨d, rfl, da⟩ := RT.dat R r e
    cases da with
    | dK eh rr => exact ⟨d, _, rfl, .inl eh, fun l hl => PostF.new p R hl (.dK upd_same (rr.keep (keeps_new R hl) (Longer.refl _)))⟩
/-! ### slices -/
abbrev rO : RL (Option Int) (Option Int) := fun _ _ _ a b => a = b
theorem PO.weak {oe : Option Expr} {t t' : TO} (p : PO X oe t) (h : ∀ σ H Q, t' σ H Q → t σ H Q) : PO X oe t' := ⟨fun pins s σ H Q I q => p.run pins s σ H Q I (h σ H Q q)⟩
abbrev POW (X : Cx) (Wx : WX) (oe : Option Expr) (so : Option SE) : Prop := PO X oe (tR X.K Wx rO (sBnd so))
theorem pow_none : POW X Wx none none := PO.weak po_none fun σ H Q ⟨G, env, h, R, q⟩ => PostR.here (w := (none : Option Int)) q R rfl
theorem pow_some (ha : PET X Wx a sa) : POW X Wx (some a) (some sa) := PO.weak (po_some ha) fun σ H Q ⟨G, env, h, R, q⟩ => ⟨G, env, h, R, (PostR.bind (rel := rT X.K) q).mono fun v H1 ⟨w, h1, mu1, R1, S1, r1, q1⟩ => by
  cases w with
  | int j => exact ⟨j, RT.inv_int R1 r1, PostR.here (w := some j) q1 R1 rfl⟩
  | _ => exact False.elim q1⟩
theorem bnd_eq (n d : Nat) (o : Option Int) : bnd n d o = HT.sIx n d o := by cases o <;> rfl
theorem cut_rel {K : PySem.W.Frag} {mu : List Addr} {N : Addr → Prop} {H : Hp} {ws : List W} {xs : List V} (r : RWs K mu N H ws xs) (lo hi : Option Int) : RWs K mu N H (cutL ws lo hi) (cutV xs lo hi) := by
  unfold cutL cutV
  rw [bnd_eq, bnd_eq, r.length]
  exact (r.drop _).take _
theorem cut_str (s : Nm) (lo hi : Option Int) : cutS (toS s) lo hi = toS (cutL s lo hi) := by
  unfold cutL cutS
  rw [bnd_eq, bnd_eq, str_len]
abbrev rSl3 (K : PySem.W.Frag) : V → Option Int → Option Int → Hp → VK → Prop := fun x lo hi H Q => (fun x lo hi H Q => rSlS x lo hi H Q ∨ rSlA K x lo hi H Q) x lo hi H Q ∨ rSlL K x lo hi H Q
theorem sl3 : SlR X (rSl3 X.K) := SlR.or (SlR.or sl_str sl_tupA) sl_list
theorem cut_whole {α : Type} (ws : List α) (lo hi : Option Int) (n : Nat) (hn : ws.length = n) (h : HT.sIx n 0 lo = 0 ∧ HT.sIx n n hi = n) : cutL ws lo hi = ws := by
  unfold cutL
  rw [bnd_eq, bnd_eq, hn, h.1, h.2, ← hn]
  simp
theorem pw_cut {lo hi : Option Expr} {sl sh : Option SE} (ha : PET X Wx a sa) (hl : POW X Wx lo sl) (hh : POW X Wx hi sh) : PEW X Wx (.Subscript a (.Slice lo hi none p2) pos) (sCut sa sl sh) :=
  PE.weak (pe_slice sl3 ha hl hh) fun σ H Q ⟨G, env, h, R, q⟩ => ⟨G, env, h, R, (PostR.bind (rel := rT X.K) q).mono fun v H1 ⟨w, h1, mu1, R1, S1, r1, q1⟩ =>
    ⟨_, env, h1, R1, (PostR.bind (rel := rO) q1).mono fun l H2 ⟨l', h2, mu2, R2, S2, e2, q2⟩ => ⟨_, env, h2, R2, (PostR.bind (rel := rO) q2).mono fun u H3 ⟨u', h3, mu3, R3, S3, e3, q3⟩ => by
      have e2' : l' = l := e2
      have e3' : u' = u := e3
      subst e2'
      subst e3'
      have r3 := (r1.step S2 R2).step S3 R3
      have all : ∀ {z : Option (List W)}, lstOf w h3 = z → PostR X.K _ env σ H3 Wx (rW X.K) Q (match z with
        | some ws => MP.R.ok (.lst (cutL ws l' u')) h3
        | none => .bad) → rSl3 X.K v l' u' H3 Q := fun {z} ez qz => by
        cases z with
        | none => exact qz.elim
        | some ws =>
          obtain ⟨d, xs, rfl, sq, rr⟩ := lst_rel R3 r3 ez
          exact .inr ⟨d, xs, rfl, sq, fun l hl => PostR.nW qz R3 hl (.lst ⟨upd_same, R3.fresh hl⟩ ((cut_rel rr _ _).keep (keeps_upd hl) (Longer.refl _)))⟩
      cases w with
      | str s =>
        have q4 : PostR X.K _ env σ H3 Wx (rW X.K) Q (if Nat.ble s.length line = true then MP.R.ok (.str (cutL s l' u')) h3 else .bad) := q3
        split at q4
        · rename_i hz
          exact .inl (.inl ⟨toS s, RT.inv_str R3 r3, by rw [str_len]; exact le_line hz, by rw [cut_str]; exact PostR.hW (w := .str (cutL s l' u')) q4 R3 (.str _)⟩)
        · exact q4.elim
      | tup ws =>
        have q4 : PostR X.K _ env σ H3 Wx (rW X.K) Q (.ok (.tup (cutL ws l' u')) h3) := q3
        obtain ⟨d, xs, rfl, t, rr⟩ := RT.inv_tup R3 r3
        refine .inl (.inr ⟨d, xs, rfl, t.sq, fun hw => ?_, fun _ l hl => ?_⟩)
        · rw [cut_whole ws l' u' xs.length rr.length hw] at q4
          exact PostR.hW q4 R3 (.tup t rr)
        · exact PostR.nW q4 R3 hl (.tup (.inl ⟨.inl upd_same, R3.fresh hl⟩) ((cut_rel rr _ _).keep (keeps_upd hl) (Longer.refl _)))
      | lst ws => exact all (z := lstOf (.lst ws) h3) rfl q3
      | scr ws => exact all (z := lstOf (.scr ws) h3) rfl q3
      | ref n => exact all (z := lstOf (.ref n) h3) rfl q3
      | non => exact all (z := lstOf .non h3) rfl q3
      | bl b => exact all (z := lstOf (.bl b) h3) rfl q3
      | int b => exact all (z := lstOf (.int b) h3) rfl q3
      | dct b => exact all (z := lstOf (.dct b) h3) rfl q3⟩⟩⟩
end
end MP
end

section
set_option Elab.async false
set_option linter.all false
set_option maxRecDepth 100000
set_option autoImplicit false
/-! MP11: sorted of rows of ints, of texts. -/
namespace MP
open PySem PySem.Spec PyProof.Rows
/-! ### rows of ints -/
theorem ltIs_irr : ∀ x : List Int, ltIs x x = false
  | [] => rfl
  | a :: x => by
    show (if a = a then ltIs x x else decide (a < a)) = false
    rw [if_pos rfl]
    exact ltIs_irr x
theorem ltIs_asym : ∀ x y : List Int, ltIs x y = true → ltIs y x = false
  | [], [], h => absurd h Bool.false_ne_true
  | [], _ :: _, _ => rfl
  | _ :: _, [], h => absurd h Bool.false_ne_true
  | a :: x, b :: y, h => by
    have h' : (if a = b then ltIs x y else decide (a < b)) = true := h
    show (if b = a then ltIs y x else decide (b < a)) = false
    by_cases e : a = b
    · rw [if_pos e] at h'
      rw [if_pos e.symm]
      exact ltIs_asym x y h'
    · rw [if_neg e] at h'
      rw [if_neg (Ne.symm e)]
      have := of_decide_eq_true h'
      exact decide_eq_false (by omega)
theorem ltIs_tr : ∀ x y z : List Int, ltIs y x = false → ltIs z y = false → ltIs z x = false
  | [], [], [], _, _ => rfl
  | [], [], _ :: _, _, h => h
  | [], b :: y, [], h, _ => by first | exact h | rfl | exact absurd h (by decide)
  | [], b :: y, c :: z, _, _ => rfl
  | a :: x, [], [], h, _ => h
  | a :: x, [], c :: z, h, _ => absurd h (show ¬ true = false from nofun)
  | a :: x, b :: y, [], _, h => absurd h (show ¬ true = false from nofun)
  | a :: x, b :: y, c :: z, h1, h2 => by
    have h1' : (if b = a then ltIs y x else decide (b < a)) = false := h1
    have h2' : (if c = b then ltIs z y else decide (c < b)) = false := h2
    show (if c = a then ltIs z x else decide (c < a)) = false
    by_cases e1 : b = a
    · rw [if_pos e1] at h1'
      by_cases e2 : c = b
      · rw [if_pos e2] at h2'
        rw [if_pos (e2.trans e1)]
        exact ltIs_tr x y z h1' h2'
      · rw [if_neg e2] at h2'
        have := of_decide_eq_false h2'
        rw [if_neg (by omega)]
        exact decide_eq_false (by omega)
    · rw [if_neg e1] at h1'
      have q1 := of_decide_eq_false h1'
      by_cases e2 : c = b
      · rw [if_neg (by omega)]
        exact decide_eq_false (by omega)
      · rw [if_neg e2] at h2'
        have := of_decide_eq_false h2'
        rw [if_neg (by omega)]
        exact decide_eq_false (by omega)
theorem ltIs_tot : ∀ x y : List Int, ltIs x y = false → ltIs y x = false → x = y
  | [], [], _, _ => rfl
  | [], _ :: _, h, _ => absurd h (show ¬ true = false from nofun)
  | _ :: _, [], _, h => absurd h (show ¬ true = false from nofun)
  | a :: x, b :: y, h1, h2 => by
    have h1' : (if a = b then ltIs x y else decide (a < b)) = false := h1
    have h2' : (if b = a then ltIs y x else decide (b < a)) = false := h2
    by_cases e : a = b
    · rw [if_pos e] at h1'
      rw [if_pos e.symm] at h2'
      rw [e, ltIs_tot x y h1' h2']
    · rw [if_neg e] at h1'
      rw [if_neg (Ne.symm e)] at h2'
      have := of_decide_eq_false h1'
      have := of_decide_eq_false h2'
      omega
/-! a sort by insertion, under a linear order -/
structure Lin {α : Type} (lt : α → α → Bool) : Prop where
  asym : ∀ x y, lt x y = true → lt y x = false
  tr : ∀ x y z, lt y x = false → lt z y = false → lt z x = false
  tot : ∀ x y, lt x y = false → lt y x = false → x = y
theorem lin_rows : Lin ltIs := ⟨ltIs_asym, ltIs_tr, ltIs_tot⟩
section
variable {α : Type} {lt : α → α → Bool}
theorem Lin.irr (L : Lin lt) (x : α) : lt x x = false := by
  cases e : lt x x with
  | false => rfl
  | true =>
    have := L.asym x x e
    rw [e] at this
    cases this
theorem Lin.ins (L : Lin lt) (x : α) : ∀ l : List α, l.Pairwise (fun a b => lt b a = false) → (insB lt x l).Pairwise (fun a b => lt b a = false)
  | [], _ => List.pairwise_singleton _ _
  | y :: r, h => by
    obtain ⟨h1, h2⟩ := List.pairwise_cons.mp h
    unfold insB
    split
    · rename_i hx
      refine List.pairwise_cons.mpr ⟨fun z hz => ?_, h⟩
      rcases List.mem_cons.mp hz with e | hz
      · rw [e]; exact L.asym x y hx
      · exact L.tr x y z (L.asym x y hx) (h1 z hz)
    · rename_i hx
      have hx : lt x y = false := by simpa using hx
      refine List.pairwise_cons.mpr ⟨fun z hz => ?_, L.ins x r h2⟩
      rcases List.mem_cons.mp ((insB_perm lt x r).mem_iff.mp hz) with e | hz
      · rw [e]; exact hx
      · exact h1 z hz
theorem Lin.srt (L : Lin lt) (l : List α) : (sortB lt l).Pairwise (fun a b => lt b a = false) := by
  have g : ∀ (l acc : List α), acc.Pairwise (fun a b => lt b a = false) → (l.foldl (fun acc x => insB lt x acc) acc).Pairwise (fun a b => lt b a = false) := by
    intro l
    induction l with
    | nil => intro acc h; exact h
    | cons x l ih => intro acc h; exact ih _ (L.ins x acc h)
  exact g l [] List.Pairwise.nil
theorem Lin.uniq (L : Lin lt) : ∀ {a b : List α}, a.Perm b → a.Pairwise (fun a b => lt b a = false) → b.Pairwise (fun a b => lt b a = false) → a = b
  | [], b, p, _, _ => (List.nil_perm.mp p).symm
  | x :: a, [], p, _, _ => absurd (List.perm_nil.mp p) (by simp)
  | x :: a, y :: b, p, h1, h2 => by
    obtain ⟨h1a, h1b⟩ := List.pairwise_cons.mp h1
    obtain ⟨h2a, h2b⟩ := List.pairwise_cons.mp h2
    have e : x = y := by
      have m1 : x ∈ y :: b := p.mem_iff.mp (List.mem_cons_self ..)
      have m2 : y ∈ x :: a := p.mem_iff.mpr (List.mem_cons_self ..)
      rcases List.mem_cons.mp m1 with e | m1
      · exact e
      · rcases List.mem_cons.mp m2 with e | m2
        · exact e.symm
        · exact L.tot x y (h2a x m1) (h1a y m2)
    subst e
    rw [L.uniq ((List.perm_cons x).mp p) h1b h2b]
/-- the one sorted list of these -/
theorem Lin.is (L : Lin lt) {a l : List α} (p : a.Perm l) (h : a.Pairwise (fun a b => lt b a = false)) : a = sortB lt l := L.uniq (p.trans (sortB_perm lt l).symm) h (L.srt l)
end
theorem swo_rows {β : Type} (k : β → List Int) : SrtO.Swo fun u v => ltIs (k u) (k v) := ⟨fun x y h => ltIs_asym _ _ h, fun x y z h1 h2 => ltIs_tr _ _ _ h1 h2⟩
/-! ### in the machine -/
section
variable {prog : Program} {w : World} {A : Around} {E : Value → Shared → Prop} {s : Shared}
theorem lex_is {Q : Bool → Shared → Prop} {b : Bool} {xs ys : List Value} {ns ms : List Int} (i : Nat) (hx : IntsAre xs ns) (hy : IntsAre ys ms) (hl : ns.length = ms.length) (h : Q (ltIs ns ms) s) : PySem.W.KatLex prog w A b false Q (xs.zip ys) i s := by
  induction hx generalizing ys ms i with
  | nil =>
    cases hy with
    | nil => exact PySem.W.kat_nil h
    | cons q u hy => simp at hl
  | @cons p t xs ns hx ih =>
    cases hy with
    | nil => simp at hl
    | @cons q u ys ms hy =>
      have hl' : ns.length = ms.length := by simpa using hl
      have h' : Q (if p = q then ltIs ns ms else decide (p < q)) s := h
      show PySem.W.KatLex prog w A b false Q ((Value.int p t, Value.int q u) :: xs.zip ys) i s
      refine PySem.W.kat_cons (wpAny_eqBool_int ?_)
      by_cases e : p = q
      · rw [if_pos e] at h'
        subst e
        rw [beq_self_eq_true]
        refine PySem.W.kat_yes ?_
        first
          | exact ih (i + 1) hy hl' h'
          | exact ih _ _ (i + 1) hy hl' h'
      · rw [if_neg e] at h'
        rw [show (p == q) = false from beq_eq_false_iff_ne.mpr e]
        exact PySem.W.kat_no (TS.oneLt_ints _ h')
theorem rows_cmp {vs : List Value} {k : Value → List Int} {d : Nat} (hp : ∀ v ∈ vs, TS.TupInts s.heap v (k v) ∧ (k v).length = d) : SrtO.Cmp prog w A s (tuples' true) (fun p => p.1 ∈ vs) (SrtO.lt2 fun v u => ltIs (k v) (k u)) := by
  intro p q hm hm'
  obtain ⟨h1, l1⟩ := hp _ hm
  obtain ⟨h2, l2⟩ := hp _ hm'
  show wpAny (model prog w) A (keyLt' (tuples' true) p.1 q.1) (fun r s' => s' = s ∧ r = ltIs (k p.1) (k q.1)) (fun _ _ => False) s
  generalize k p.1 = x at h1 l1 ⊢
  generalize k q.1 = y at h2 l2 ⊢
  obtain ⟨a, xs, e1, ⟨o, ho, hc, n, hdt⟩, i⟩ := h1
  obtain ⟨a', ys, e2, ⟨o', ho', hc', n', hdt'⟩, i'⟩ := h2
  rw [e1, e2]
  refine PySem.W.kat_lt ho hdt ho' hdt' ?_
  have sz : decide (xs.size < ys.size) = false := by
    have z1 := i.length
    have z2 := i'.length
    rw [Array.length_toList] at z1 z2
    exact decide_eq_false (by omega)
  rw [sz]
  exact lex_is 0 i i' (by omega) ⟨rfl, rfl⟩
theorem rows_firsts {h : Heap} {d : Nat} {k : Value → List Int} (hd : 1 ≤ d) : ∀ vs : List Value, (∀ v ∈ vs, TS.TupInts h v (k v) ∧ (k v).length = d) → ∃ fs, PySem.W.KatTups h vs fs ∧ fs.length = vs.length ∧ ∀ f, f ∈ fs → ∃ n t, f = Value.int n t
  | [], _ => ⟨[], PySem.W.KatTups.nil, rfl, fun f hf => by simp at hf⟩
  | v :: vs, x => by
    obtain ⟨fs, kt, hl, hi⟩ := rows_firsts hd vs fun u hu => x u (List.mem_cons_of_mem _ hu)
    obtain ⟨⟨a, xs, e0, ⟨o, ho, hc, n, hdt⟩, i⟩, hn⟩ := x v (List.mem_cons_self ..)
    obtain ⟨y, ys, e⟩ : ∃ y ys, xs.toList = y :: ys := by
      cases q : xs.toList with
      | nil =>
        rw [q] at i
        have l := i.length
        rw [List.length_nil, hn] at l
        omega
      | cons y ys => exact ⟨y, ys, rfl⟩
    obtain ⟨m, t, hy⟩ := i.all y (by rw [e]; exact List.mem_cons_self ..)
    refine ⟨y :: fs, ?_, by simp [hl], ?_⟩
    · rw [e0]
      refine PySem.W.KatTups.cons ho hc hdt ?_ kt
      have z := congrArg (fun l : List Value => l[0]?) e
      simpa using z
    · intro f hf
      rcases List.mem_cons.mp hf with rfl | hf
      · exact ⟨m, t, hy⟩
      · exact hi f hf
theorem rows_sortable {a : Addr} {vs : List Value} {k : Value → List Int} {d : Nat} (hd : 1 ≤ d) (h0 : 0 < vs.length) (hp : ∀ v ∈ vs, TS.TupInts s.heap v (k v) ∧ (k v).length = d) (ha : ∀ o, s.heap.get? a = some o → o.cls ≠ .type "tuple") : SrtO.SortableO prog w A s a vs fun v u => ltIs (k v) (k u) := by
  intro h' keep
  have hp' : ∀ v ∈ vs, TS.TupInts h' v (k v) ∧ (k v).length = d := fun v hm => ⟨(hp v hm).1.keeps fun b o e c => keep b o (fun z => by subst z; exact ha o e c) e, (hp v hm).2⟩
  obtain ⟨fs, h1, h2, h3⟩ := rows_firsts hd vs hp'
  refine ⟨tuples' true, fun Q E hq => ?_, rows_cmp hp'⟩
  refine PySem.W.kat_kind (T := .type "int") h1 (by omega) (fun f hm => ?_) (by rfl) ?_
  · obtain ⟨x, t, rfl⟩ := h3 f hm
    exact PySem.W.Looks.now
  · have e : (Value.type "int" != Value.type "tuple") = true := by first | decide +kernel | rfl | decide
    rw [e]
    exact hq
/-- what is collected of a list, of a tuple -/
theorem collect_seq {T : String} {l : Addr} {vs : List Value} {o : Obj} {n : Nat} {Q : List Value → Shared → Prop} (ho : s.heap.get? l = some o) (hc : o.cls = .type T) (hd : o.data = .seq vs.toArray n) (hT : (Value.type T == Value.type "list" || Value.type T == Value.type "tuple") = true)
    (h : Q vs { s with heap := (s.heap.push (seqObj "list" #[] 0)).update s.heap.objs.size (Obj.mapSeq (· ++ vs.toArray)) }) (hsz : vs.length ≤ sizeLine) :
    wpAny (model prog w) A (collect (.ref l)) Q E s := by
  unfold collect
  refine wpAny_bind (wpAny_runValue (codeAny_builtin entry_proto_collect' ?_))
  show wpAny _ _ (do again (.builtin "list.__iadd__" ⟨[← newList [], .ref l], []⟩)) _ _ s
  refine wpAny_bind (wpAny_newList (wpAny_pure ⟨Code.quiet_builtin _ (by decide +kernel), codeAny_builtin entry_list_iadd' ?_⟩) (by decide))
  show wpAny _ _ (Builtin.List.listExtendWith (.ref s.heap.objs.size) (.ref l) (.ref s.heap.objs.size)) _ _ { s with heap := s.heap.push (seqObj "list" #[] 0) }
  unfold Builtin.List.listExtendWith
  have ho' : (s.heap.push (seqObj "list" #[] 0)).get? l = some o := Heap.get?_push_of_some _ ho
  refine wpAny_bind (wpAny_typeOf (T := T) ⟨o, ho', hc⟩ ?_)
  rw [if_pos (by rw [Bool.or_assoc, hT, Bool.or_true])]
  refine wpAny_bind (listItems_at ho' hd ?_)
  refine wpAny_bind (listItems_at (xs := #[]) (n := 0) (Heap.get?_push_size _ rfl) rfl ?_)
  rw [if_neg (by simp)]
  refine wpAny_bind (listUpdate_at (xs := #[]) (n := 0) (Heap.get?_push_size _ rfl) rfl ?_ (Nat.zero_le _) (by show (#[] ++ vs.toArray).size ≤ sizeLine + 1; simp only [Array.size_append, List.size_toArray, List.length_nil]; omega))
  refine wpAny_pure ?_
  show wpAny (model prog w) A (do
      let o ← load s.heap.objs.size
      match o.data with
      | .seq xs _ => pure xs.toList
      | _ => unsupported "internal:collect") Q E { s with heap := (s.heap.push (seqObj "list" #[] 0)).update s.heap.objs.size (Obj.mapSeq (· ++ vs.toArray)) }
  refine wpAny_bind (wpAny_load (get?_update_seq (Heap.get?_push_size _ rfl) _) ?_)
  show wpAny _ _ (pure ((#[] : Array Value) ++ vs.toArray).toList) Q E _
  rw [show ((#[] : Array Value) ++ vs.toArray).toList = vs by simp]
  exact wpAny_pure h
/-- sorted(l), l a list or a tuple -/
theorem sorted_seq {T : String} {l : Addr} {vs : List Value} {o : Obj} {n : Nat} {ltv : Value → Value → Bool} {Q : Value → Shared → Prop} (O : SrtO.Swo ltv) (ho : s.heap.get? l = some o) (hc : o.cls = .type T) (hd : o.data = .seq vs.toArray n) (hT : (Value.type T == Value.type "list" || Value.type T == Value.type "tuple") = true) (hz : vs.length ≤ sizeLine)
    (hS : 2 ≤ vs.length → ∀ (h₁ : Heap) (a : Addr), h₁.get? a = some (seqObj "list" vs.toArray 0) → (∀ b o, s.heap.get? b = some o → b ≠ a ∧ h₁.get? b = some o) → SrtO.SortableO prog w A.in1.in1 { s with heap := h₁ } a vs ltv)
    (h : ∀ out : List Value, SrtO.Srtd ltv out → SrtO.Stb ltv out vs → Q (.ref (s.heap.objs.size + 1)) { s with heap := sortedAll s.heap vs out.toArray }) :
    wpAny (model prog w) A (call (.builtin "sorted") [.ref l]) Q E s := by
  refine Calls.call_function_entry kind_sorted plain_sorted entry_sorted (args_sorted1 _) ?_
  unfold Builtin.«sorted»
  refine wpAny_bind (m := checkCount "sorted" 1 1 _) (wpAny_pure ?_)
  refine wpAny_bind (collect_seq ho hc hd hT ?_ hz)
  refine wpAny_bind (wpAny_newList ?_ hz)
  have hsz : ((s.heap.push (seqObj "list" #[] 0)).update s.heap.objs.size (Obj.mapSeq (· ++ vs.toArray))).objs.size = s.heap.objs.size + 1 := by
    rw [Heap.size_update, size_push']
  have hoL : (((s.heap.push (seqObj "list" #[] 0)).update s.heap.objs.size (Obj.mapSeq (· ++ vs.toArray))).push (seqObj "list" vs.toArray 0)).get? (s.heap.objs.size + 1) = some (seqObj "list" vs.toArray 0) := by
    rw [← hsz]; exact Heap.get?_push_size _ rfl
  have keep : ∀ b o, s.heap.get? b = some o → b ≠ s.heap.objs.size + 1 ∧ (((s.heap.push (seqObj "list" #[] 0)).update s.heap.objs.size (Obj.mapSeq (· ++ vs.toArray))).push (seqObj "list" vs.toArray 0)).get? b = some o := fun b o q => by
    have hlt : b < s.heap.objs.size := Heap.lt_size q
    refine ⟨Nat.ne_of_lt (Nat.lt_succ_of_lt hlt), Heap.get?_push_of_some _ ?_⟩
    rw [Heap.get?_update_ne _ _ _ _ (Nat.ne_of_lt hlt)]
    exact Heap.get?_push_of_some _ q
  show wpAny _ _ _ _ _ { s with heap := ((s.heap.push (seqObj "list" #[] 0)).update s.heap.objs.size (Obj.mapSeq (· ++ vs.toArray))).push (seqObj "list" vs.toArray 0) }
  rw [hsz]
  refine wpAny_bind (wpAny_holding (wpAny_call_entry slot_list_sort ⟨_, hoL, rfl⟩ entry_list_sort (SrtO.list_sort_ord O hoL hz (fun h2 => hS h2 _ _ hoL keep) fun out hs hb => ⟨_, rfl, ?_⟩) (args_list_sort _)))
  exact wpAny_pure ⟨_, rfl, h out hs hb⟩
end
end MP
namespace MP
open PySem PySem.Spec PyProof.Rows L2
/-- sorted(xs), a list or a tuple of tuples of d ints -/
def rSortV (K : PySem.W.Frag) : List V → Hp → VK → Prop := fun vs H Q => ∃ (a : Addr) (xs : List V) (d : Nat), vs = [V.ref a] ∧ (SqL K H a xs ∨ SqT K H a xs) ∧ 1 ≤ d ∧ (∀ x ∈ xs, ∃ ns, TupI K H x ns ∧ ns.length = d) ∧
  ∀ (ys : List V) (p : Addr), ys.Perm xs → ys.Pairwise (fun x y => ∀ n m, TupI K H x n → TupI K H y m → ltIs m n = false) → H p = none → Q (.ref p) (L2.upd H p (.lst ys))
section
variable {X : Cx}
theorem cr_sortV : CallR X (.builtin "sorted") (rSortV X.K) := by
  intro pins s σ H vs us Q I r h
  obtain ⟨a, xs, d, rfl, hs, hd, hx, q⟩ := h
  rw [Vals.ref1 r]
  obtain ⟨T, its, o, n, rv, ho, hc, hdt, hT, hz⟩ : ∃ (T : String) (its : List Value) (o : Obj) (n : Nat), Vals xs its ∧ s.heap.get? a = some o ∧ o.cls = .type T ∧ o.data = .seq its.toArray n ∧ (Value.type T == Value.type "list" || Value.type T == Value.type "tuple") = true ∧ xs.length ≤ sizeLine := by
    rcases hs with hs | hs
    · obtain ⟨its, rv, hl, hz⟩ := I.list hs
      obtain ⟨o, ho, hc, n, hdt⟩ := hl.isList
      exact ⟨"list", its, o, n, rv, ho, hc, hdt, by decide +kernel, hz⟩
    · obtain ⟨its, rv, hl, hz⟩ := I.tuple hs
      obtain ⟨o, ho, hc, n, hdt⟩ := hl
      exact ⟨"tuple", its, o, n, rv, ho, hc, hdt, by decide +kernel, hz⟩
  obtain ⟨e1, e2⟩ := bkV_refs rv fun x m => by
    obtain ⟨ns, ⟨t, e, _⟩, _⟩ := hx x m
    exact ⟨t, e⟩
  have raw : ∀ {v : Value} {ns : List Int}, v ∈ its → TupI X.K H (bkV v) ns → TS.TupInts s.heap v ns := fun {v ns} hv ht => by
    obtain ⟨t, e, sq⟩ := ht
    rw [bkV_ref e]
    exact tupI_raw I sq
  have hp : ∀ v ∈ its, TS.TupInts s.heap v (TS.intsOf s.heap v) ∧ (TS.intsOf s.heap v).length = d := fun v hv => by
    obtain ⟨ns, ht, hn⟩ := hx (bkV v) (by rw [e1]; exact List.mem_map.mpr ⟨_, hv, rfl⟩)
    have t := raw hv ht
    rw [t.ints]
    exact ⟨t, hn⟩
  refine sorted_seq (swo_rows fun v => TS.intsOf s.heap v) ho hc hdt hT (by rw [← rv.length]; exact hz) (fun h2 h₁ a' ha kk => ?_) fun out h1 h2 => ?_
  · refine rows_sortable (s := { s with heap := h₁ }) hd (by omega) (fun v hm => ⟨(hp v hm).1.keeps fun b o e _ => (kk b o e).2, (hp v hm).2⟩) fun o e => ?_
    have e' : some o = some (seqObj "list" its.toArray 0) := e.symm.trans ha
    cases e'
    intro c
    exact absurd (Value.type.inj c) (by decide)
  · have mo : ∀ u ∈ out, u ∈ its := fun u hu => h2.perm.mem_iff.mp hu
    have h3 : ∀ u ∈ out, ∃ a, u = Value.ref a := fun u hu => e2 u (mo u hu)
    obtain ⟨ep, he'⟩ := PyProof.Rows.sortedAll_at s.heap its out.toArray
    refine ⟨.ref _, L2.upd H (s.heap.objs.size + 1) (.lst (out.map bkV)), I.laid (t' := s.toks) (fun _ _ => PyProof.Rows.sortedAll_old) (Nat.le_succ _) ⟨?_, out, ep, bkV_vals h3, he'⟩, rfl, q _ _ ?_ ?_ (I.hok.fresh (Nat.le_succ _))⟩
    · rw [List.length_map, h2.perm.length_eq, ← rv.length]; exact hz
    · rw [e1]; exact h2.perm.map _
    · rw [List.pairwise_map]
      refine List.Pairwise.imp_of_mem (fun {u v} hu hv z n m tn tm => ?_) h1
      have a1 := (raw (mo u hu) tn).ints
      have a2 := (raw (mo v hv) tm).ints
      rw [← a1, ← a2]
      exact z
/-! rows by values -/
theorem row_tup {K : PySem.W.Frag} {mu : List Addr} {N : Addr → Prop} {H : Hp} {r : List Int} {v : V} (h : RW K mu N H (rowW r) v) : TupI K H v r := by
  obtain ⟨a, xs, rfl, t, rr⟩ := h.inv_tup
  have e : xs = r.map V.int := by
    clear t h
    induction r generalizing xs with
    | nil => cases rr; rfl
    | cons i r ih =>
      cases rr with
      | cons h1 h2 =>
        rw [h1.inv_int, ih _ h2]
        rfl
  rw [e] at t
  exact ⟨a, rfl, t.sq⟩
theorem rws_perm {K : PySem.W.Frag} {mu : List Addr} {N : Addr → Prop} {H : Hp} {xs ys : List V} (p : xs.Perm ys) : ∀ {rs : List (List Int)}, RWs K mu N H (rs.map rowW) xs → ∃ rs' : List (List Int), rs'.Perm rs ∧ RWs K mu N H (rs'.map rowW) ys := by
  induction p with
  | nil => exact fun {rs} h => ⟨rs, List.Perm.refl _, h⟩
  | cons x p ih =>
    intro rs h
    cases rs with
    | nil => cases h
    | cons r rs =>
      cases h with
      | cons h1 h2 =>
        obtain ⟨rs', p', h'⟩ := ih h2
        exact ⟨r :: rs', p'.cons r, .cons h1 h'⟩
  | swap x y l =>
    intro rs h
    match rs, h with
    | [], h => cases h
    | [r], h =>
      cases h with
      | cons h1 h2 => cases h2
    | r :: r' :: rs, h =>
      cases h with
      | cons h1 h2 =>
        cases h2 with
        | cons h2 h3 => exact ⟨r' :: r :: rs, List.Perm.swap _ _ _, .cons h2 (.cons h1 h3)⟩
  | trans p q ih1 ih2 =>
    intro rs h
    obtain ⟨rs1, p1, h1⟩ := ih1 h
    obtain ⟨rs2, p2, h2⟩ := ih2 h1
    exact ⟨rs2, p2.trans p1, h2⟩
theorem ints_back : ∀ {ws : List W} {is : List Int}, intsOf ws = some is → ws = is.map .int
  | [], is, e => by cases e; rfl
  | w :: ws, is, e => by
    cases w with
    | int i =>
      cases q : intsOf ws with
      | none => simp [intsOf, q] at e
      | some js =>
        simp [intsOf, q] at e
        subst e
        rw [ints_back q]
        rfl
    | _ => cases e
theorem rows_back : ∀ {ws : List W} {rs : List (List Int)}, rowsOf ws = some rs → ws = rs.map rowW
  | [], rs, e => by cases e; rfl
  | w :: ws, rs, e => by
    cases w with
    | tup xs =>
      unfold rowsOf at e
      cases q : intsOf xs with
      | none => rw [q] at e; cases e
      | some is =>
        rw [q] at e
        dsimp only at e
        cases z : rowsOf ws with
        | none => rw [z] at e; cases e
        | some js =>
          rw [z] at e
          cases e
          rw [rows_back z, ints_back q]
          rfl
    | _ => cases e
theorem evenB_all {d : Nat} : ∀ {rs : List (List Int)}, evenB d rs = true → ∀ r ∈ rs, r.length = d
  | [], _, r, h => absurd h (by simp)
  | r :: rs, e, x, h => by
    unfold evenB at e
    rw [Bool.and_eq_true] at e
    rcases List.mem_cons.mp h with rfl | h
    · simpa using e.1
    · exact evenB_all e.2 x h
theorem evenR_all {rs : List (List Int)} (e : evenR rs = true) : ∃ d, 1 ≤ d ∧ ∀ r ∈ rs, r.length = d := by
  cases rs with
  | nil => exact ⟨1, Nat.le_refl _, fun r h => absurd h (by simp)⟩
  | cons r rs =>
    unfold evenR at e
    rw [Bool.and_eq_true] at e
    refine ⟨r.length, ?_, fun x h => ?_⟩
    · have := Nat.le_of_ble_eq_true e.1
      omega
    · rcases List.mem_cons.mp h with rfl | h
      · rfl
      · exact evenB_all e.2 x h
theorem rws_mem {K : PySem.W.Frag} {mu : List Addr} {N : Addr → Prop} {H : Hp} : ∀ {rs : List (List Int)} {xs : List V}, RWs K mu N H (rs.map rowW) xs → ∀ x ∈ xs, ∃ r ∈ rs, RW K mu N H (rowW r) x
  | [], _, h, x, m => by
    cases h
    exact absurd m (by simp)
  | r :: rs, _, h, x, m => by
    cases h with
    | cons h1 h2 =>
      rcases List.mem_cons.mp m with rfl | m
      · exact ⟨r, List.mem_cons_self .., h1⟩
      · obtain ⟨r', m', h'⟩ := rws_mem h2 x m
        exact ⟨r', List.mem_cons_of_mem _ m', h'⟩
theorem rws_srt {K : PySem.W.Frag} {mu : List Addr} {N : Addr → Prop} {H : Hp} : ∀ {rs : List (List Int)} {xs : List V}, RWs K mu N H (rs.map rowW) xs → xs.Pairwise (fun x y => ∀ n m, TupI K H x n → TupI K H y m → ltIs m n = false) → rs.Pairwise (fun a b => ltIs b a = false)
  | [], _, h, _ => List.Pairwise.nil
  | r :: rs, _, h, p => by
    cases h with
    | cons h1 h2 =>
      obtain ⟨p1, p2⟩ := List.pairwise_cons.mp p
      refine List.pairwise_cons.mpr ⟨fun r' m => ?_, rws_srt h2 p2⟩
      obtain ⟨i, hi, e⟩ := List.mem_iff_getElem.mp m
      obtain ⟨v, e1, r1⟩ := h2.get (i := i) (w := rowW r') (by rw [List.getElem?_map, List.getElem?_eq_getElem hi, e]; rfl)
      exact p1 v (List.mem_of_getElem? e1) r r' (row_tup h1) (row_tup r1)
theorem cf_sortT : CbF X bSortT (rSortV X.K) := cf1 (fun w h => rfl) (fun _ => rfl) (fun _ _ _ _ => rfl) fun G env h σ H Wx Q w v R r p => by
  dsimp only [bSortT] at p
  cases e : rowsO (seqOf w h) with
  | none => rw [e] at p; exact p.elim
  | some rs =>
    rw [e] at p
    dsimp only at p
    cases es : seqOf w h with
    | none => rw [es] at e; cases e
    | some ws =>
      rw [es] at e
      have e' : rowsOf ws = some rs := e
      split at p
      · rename_i hv
        obtain ⟨b, xs, rfl, rr, z⟩ := RT.seq R r es
        rw [rows_back e'] at rr
        obtain ⟨d, hd, hall⟩ := evenR_all hv
        refine ⟨b, xs, d, rfl, ?_, hd, fun x m => ?_, fun ys p' hp hs hn => ?_⟩
        · rcases z with ⟨z, _⟩ | ⟨z, _⟩
          · exact .inr z
          · exact .inl z
        · obtain ⟨r', m', h'⟩ := rws_mem rr x m
          exact ⟨r', row_tup h', hall r' m'⟩
        · obtain ⟨rs', p1, r1⟩ := rws_perm hp.symm rr
          have e1 : rs' = sortB ltIs rs := lin_rows.is p1 (rws_srt r1 hs)
          subst e1
          exact PostF.new (w := .lst ((sortB ltIs rs).map rowW)) p R hn (.lst upd_same (r1.keep (keeps_new R hn) (Longer.refl _)))
      · exact p.elim
end
end MP
end

section
set_option Elab.async false
set_option linter.all false
set_option maxRecDepth 100000
set_option autoImplicit false
/-! MP12: statements. -/
namespace MP
open PySem PySem.Spec PyProof.Rows L2
theorem np {α : Type} {P : α → Prop} {a b : α} (n : ¬ P b) (p : P a) : b ≠ a := fun e => n (by rw [e]; exact p)
/-- the frame is over: what its names held is let go -/
def Gh.bare (G : Gh) : Gh := ⟨G.n0, G.mu, fun _ => none⟩
def PostS (K : PySem.W.Frag) (G : Gh) (H : Hp) (Wx : WX) (D : Ends) : Out → Prop
  | .nx e h' => ∀ (G' : Gh) (σ' : Sg) (H' : Hp), Rel K G' e h' σ' H' → StepS G H G' H' → D.nx σ' H'
  | .br e h' => ∀ (G' : Gh) (σ' : Sg) (H' : Hp), Rel K G' e h' σ' H' → StepS G H G' H' → D.bk σ' H'
  | .ct e h' => ∀ (G' : Gh) (σ' : Sg) (H' : Hp), Rel K G' e h' σ' H' → StepS G H G' H' → D.ct σ' H'
  | .rt w h' => ∀ (G' : Gh) (H' : Hp) (v : V), Rel K G' [] h' [] H' → (∀ i, G'.own i = none) → StepS G H G' H' → RW K G'.mu G'.N H' w v → D.rt v H'
  | .ex c p e h' => ∀ (cls : Value) (d : Option Addr) (G' : Gh) (σ' : Sg) (H' : Hp), Rel K G' e h' σ' H' → StepS G H G' H' → EX K G' H' c p cls d → Wx cls d σ' H'
  | .bad => False
def tS (K : PySem.W.Frag) (Wx : WX) (s : SS) : TS := fun D σ H => ∃ G env h, Rel K G env h σ H ∧ PostS K G H Wx D (s env h)
abbrev PSW (X : Cx) (Wx : WX) (st : Stmt) (s : SS) : Prop := PS X st (tS X.K Wx s)
abbrev PSsW (X : Cx) (Wx : WX) (st : List Stmt) (s : SS) : Prop := PSs X st (tS X.K Wx s)
section
variable {K : PySem.W.Frag} {G G1 : Gh} {env : MP.Env} {h h1 : Hea} {σ : Sg} {H H1 : Hp} {Wx : WX} {D D' : Ends} {mu : List Addr} {a : Addr} {i : Nat} {w : W}
theorem PostS.later {o : Out} (p : PostS K G H Wx D o) (S : StepS G H G1 H1) : PostS K G1 H1 Wx D o := by
  cases o with
  | nx e h => exact fun G' σ' H' R S' => p G' σ' H' R (S.trans S')
  | br e h => exact fun G' σ' H' R S' => p G' σ' H' R (S.trans S')
  | ct e h => exact fun G' σ' H' R S' => p G' σ' H' R (S.trans S')
  | rt w h => exact fun G' H' v R o S' r => p G' H' v R o (S.trans S') r
  | ex c q e h => exact fun cls d G' σ' H' R S' e => p cls d G' σ' H' R (S.trans S') e
  | bad => exact p
theorem PostS.out {α β : Type} {rel : RL α β} {r : R α} {f : α → Hea → Out} (p : PostS K G H Wx D (r.out env f)) : PostR K G env σ H Wx rel (fun v H1 => ∃ w h1 mu1, Rel K (G.at mu1) env h1 σ H1 ∧ Step G H (G.at mu1) H1 ∧ rel (G.at mu1) env H1 w v ∧ PostS K (G.at mu1) H1 Wx D (f w h1)) r := by
  cases r with
  | ok w h => exact fun v mu' H' R S rr => ⟨w, h, mu', R, S, rr, PostS.later p S.toStepS⟩
  | ex c q h => exact fun cls d mu' H' R S e => p cls d _ σ H' R S.toStepS e
  | bad => exact p
/-- .. of a list, a dict just made -/
theorem PostS.outF {r : R W} {f : W → Hea → Out} (p : PostS K G H Wx D (r.out env f)) :
    PostF K G env σ H Wx (fun v H1 => ∃ a w h1 mu1, v = .ref a ∧ Rel K (G.plus a mu1) env h1 σ H1 ∧ Step G H (G.at mu1) H1 ∧ H a = none ∧ RC K mu1 (G.plus a mu1).N H1 a w ∧ PostS K G H Wx D (f w h1)) r := by
  cases r with
  | ok w h => exact fun a mu' H' R S n c => ⟨a, w, h, mu', rfl, R, S, n, c, p⟩
  | ex c q h => exact fun cls d mu' H' R S e => p cls d _ σ H' R S.toStepS e
  | bad => exact p
/-- what the names held is let go -/
theorem bare_keeps : Keeps G.N H G.bare.N H := fun x o e n => ⟨e, fun z => n (by
  rcases z with z | z | ⟨_, z⟩
  · exact .inl z
  · exact .inr (.inl z)
  · cases z)⟩
theorem Rel.bare (R : Rel K G env h σ H) : Rel K G.bare [] h [] H where
  len := rfl
  val := fun i w e => by simp at e
  own := fun i w e => by simp at e
  hp := ⟨R.hp.len, fun n o a e1 e2 => (R.hp.obj n o a e1 e2).keep bare_keeps (Longer.refl _) rfl, R.hp.nd⟩
  oi := fun i j a e => by cases e
  om := fun i a e => by cases e
  mn := R.mn
  nn := R.nn
theorem StepS.bare (S : StepS G H G1 H1) : StepS G H G1.bare H1 := ⟨fun x o e n => ⟨(S.keep x o e n).1, fun z => (S.keep x o e n).2 <| by
  rcases z with z | ⟨_, z⟩
  · exact .inl z
  · exact nomatch z⟩, S.mu, S.n0, S.fz⟩
theorem PostS.rt (p : PostS K G H Wx D (.rt w h)) (R : Rel K G env h σ H) {v : V} (r : RW K G.mu G.N H w v) : D.rt v H := p G.bare H v R.bare (fun _ => rfl) (StepS.refl G H).bare (r.keep bare_keeps (Longer.refl _))
theorem PostS.nx (p : PostS K G H Wx D (.nx env h)) (R : Rel K G env h σ H) : D.nx σ H := p G σ H R (StepS.refl G H)
/-- a name holds alone what was just made -/
def Gh.hold (G : Gh) (i : Nat) (a : Addr) (mu : List Addr) : Gh := ⟨G.n0, mu, fun j => if j = i then some a else G.own j⟩
theorem hold_own {j : Nat} {b : Addr} (e : (G.hold i a mu).own j = some b) : (j = i ∧ b = a) ∨ (j ≠ i ∧ G.own j = some b) := by
  unfold Gh.hold at e
  by_cases q : j = i
  · have e' : (if j = i then some a else G.own j) = some b := e
    rw [if_pos q] at e'
    exact .inl ⟨q, (Option.some.inj e').symm⟩
  · have e' : (if j = i then some a else G.own j) = some b := e
    rw [if_neg q] at e'
    exact .inr ⟨q, e'⟩
theorem hold_keeps : Keeps (G.plus a mu).N H (G.hold i a mu).N H := fun x o e n => ⟨e, fun z => n (by
  rcases z with z | z | ⟨j, z⟩
  · exact .inl (.inl z)
  · exact .inr (.inl z)
  · rcases hold_own z with ⟨_, z⟩ | ⟨_, z⟩
    · exact .inl (.inr z)
    · exact .inr (.inr ⟨j, z⟩))⟩
theorem Rel.hold (R : Rel K (G.plus a mu) env h σ H) (nb : ¬ G.n0 a) (c : RC K mu (G.plus a mu).N H a w) (hi : i < env.length) : Rel K (G.hold i a mu) (env.set i (some (true, w))) h (σ.set i (some (.ref a))) H where
  len := by rw [List.length_set, List.length_set]; exact R.len
  val := fun j u y => by
    by_cases e : j = i
    · subst e
      rw [List.getElem?_set_self hi] at y
      cases y
    · rw [List.getElem?_set_ne (Ne.symm e)] at y
      obtain ⟨z, e1, q⟩ := R.val j u y
      exact ⟨z, by rw [List.getElem?_set_ne (Ne.symm e)]; exact e1, q.keep hold_keeps (Longer.refl _)⟩
  own := fun j u y => by
    by_cases e : j = i
    · subst e
      rw [List.getElem?_set_self hi] at y
      cases y
      exact ⟨a, if_pos rfl, by rw [List.getElem?_set_self (by rw [← R.len]; exact hi)], c.keep hold_keeps (Longer.refl _) rfl⟩
    · rw [List.getElem?_set_ne (Ne.symm e)] at y
      obtain ⟨b, e0, e1, q⟩ := R.own j u y
      exact ⟨b, (if_neg e).trans e0, by rw [List.getElem?_set_ne (Ne.symm e)]; exact e1, q.keep hold_keeps (Longer.refl _) rfl⟩
  hp := ⟨R.hp.len, fun n o b e1 e2 => (R.hp.obj n o b e1 e2).keep hold_keeps (Longer.refl _) rfl, R.hp.nd⟩
  oi := fun j l b e1 e2 => by
    rcases hold_own e1 with ⟨z1, z2⟩ | ⟨z1, z2⟩
    · rcases hold_own e2 with ⟨y1, y2⟩ | ⟨y1, y2⟩
      · rw [z1, y1]
      · exact absurd (.inr z2) (R.om l b y2).2.1
    · rcases hold_own e2 with ⟨y1, y2⟩ | ⟨y1, y2⟩
      · exact absurd (.inr y2) (R.om j b z2).2.1
      · exact R.oi j l b z2 y2
  om := fun j b e => by
    rcases hold_own e with ⟨z1, z2⟩ | ⟨z1, z2⟩
    · subst z2
      exact ⟨fun z => R.mn b z (.inr rfl), nb, c.there⟩
    · exact ⟨(R.om j b z2).1, fun z => (R.om j b z2).2.1 (.inl z), (R.om j b z2).2.2⟩
  mn := fun b z q => R.mn b z (.inl q)
  nn := fun b z => R.nn b (.inl z)
theorem Step.hold {H0 : Hp} (S : Step G H0 (G.at mu) H) (e : H0 a = none) : StepS G H0 (G.hold i a mu) H := ⟨fun x o ex n => ⟨(S.keep x o ex n).1, fun z => by
  have n1 := (S.keep x o ex n).2
  rcases z with z | ⟨j, z⟩
  · exact n1 (.inl z)
  · rcases hold_own z with ⟨_, z⟩ | ⟨_, z⟩
    · exact ne_of_none ex e z
    · exact n1 (.inr ⟨j, z⟩)⟩, S.mu, rfl, S.fz⟩
/-- .. no more alone -/
def Gh.free (G : Gh) (i : Nat) : Gh := ⟨G.n0, G.mu, fun j => if j = i then none else G.own j⟩
theorem free_own {j : Nat} {b : Addr} (e : (G.free i).own j = some b) : j ≠ i ∧ G.own j = some b := by
  have e' : (if j = i then none else G.own j) = some b := e
  by_cases q : j = i
  · rw [if_pos q] at e'; cases e'
  · rw [if_neg q] at e'; exact ⟨q, e'⟩
theorem free_N {b : Addr} (z : (G.free i).N b) : G.N b := by
  rcases z with z | z | ⟨j, z⟩
  · exact .inl z
  · exact .inr (.inl z)
  · exact .inr (.inr ⟨j, (free_own z).2⟩)
theorem free_keeps : Keeps G.N H (G.free i).N H := fun x o e n => ⟨e, fun z => n (free_N z)⟩
theorem Rel.free (R : Rel K G env h σ H) (e : env[i]? = some (some (true, w))) : Rel K (G.free i) (env.set i (some (false, w))) h σ H := by
  have hi : i < env.length := (List.getElem?_eq_some_iff.mp e).1
  obtain ⟨b0, q0, q1, q2⟩ := R.own i w e
  exact {
    len := by rw [List.length_set]; exact R.len
    val := fun j u y => by
      by_cases q : j = i
      · subst q
        rw [List.getElem?_set_self hi] at y
        cases y
        refine ⟨.ref b0, q1, (q2.keep free_keeps (Longer.refl _) rfl).val fun z => ?_⟩
        rcases z with z | z | ⟨l, z⟩
        · exact (R.om j b0 q0).2.1 z
        · exact (R.om j b0 q0).1 z
        · exact (free_own z).1 (R.oi l j b0 (free_own z).2 q0)
      · rw [List.getElem?_set_ne (Ne.symm q)] at y
        obtain ⟨z, e1, r⟩ := R.val j u y
        exact ⟨z, e1, r.keep free_keeps (Longer.refl _)⟩
    own := fun j u y => by
      by_cases q : j = i
      · subst q
        rw [List.getElem?_set_self hi] at y
        cases y
      · rw [List.getElem?_set_ne (Ne.symm q)] at y
        obtain ⟨b, e0, e1, r⟩ := R.own j u y
        exact ⟨b, (if_neg q).trans e0, e1, r.keep free_keeps (Longer.refl _) rfl⟩
    hp := ⟨R.hp.len, fun n o b e1 e2 => (R.hp.obj n o b e1 e2).keep free_keeps (Longer.refl _) rfl, R.hp.nd⟩
    oi := fun j l b e1 e2 => R.oi j l b (free_own e1).2 (free_own e2).2
    om := fun j b e => R.om j b (free_own e).2
    mn := R.mn
    nn := R.nn }
theorem StepS.free : StepS G H (G.free i) H := ⟨fun x o e n => ⟨e, fun z => n (by
  rcases z with z | ⟨j, z⟩
  · exact .inl z
  · exact .inr ⟨j, (free_own z).2⟩)⟩, Longer.refl _, rfl, fun _ _ _ e => e⟩
theorem set_back {e : MP.Env} {x : Option (Bool × W)} (q : e[i]? = some x) : e.set i x = e := by
  refine List.ext_getElem? fun j => ?_
  by_cases z : j = i
  · subst z
    rw [List.getElem?_set_self (List.getElem?_eq_some_iff.mp q).1, q]
  · rw [List.getElem?_set_ne (Ne.symm z)]
/-- what a name holds alone is changed -/
theorem Rel.ownput {ho : HO} {w' : W} (R : Rel K G env h σ H) (e : G.own i = some a) (x : env[i]? = some (some (true, w))) (c : RC K G.mu G.N (L2.upd H a ho) a w') : Rel K G (env.set i (some (true, w'))) h σ (L2.upd H a ho) ∧ StepS G H G (L2.upd H a ho) := by
  have hi : i < env.length := (List.getElem?_eq_some_iff.mp x).1
  have iN : G.N a := .inr (.inr ⟨i, e⟩)
  have kp : Keeps G.N H G.N (L2.upd H a ho) := fun b u eb n => ⟨by rw [upd_ne (np n iN)]; exact eb, n⟩
  refine ⟨?_, ⟨fun b u eb n => ⟨by rw [upd_ne (np n (.inr ⟨i, e⟩))]; exact eb, n⟩, Longer.refl _, rfl, fun b od u q => by
    rw [upd_ne (fun z : b = a => ?_)]
    · exact q
    · obtain ⟨b', e0, e1, r⟩ := R.own i w x
      rw [e] at e0
      cases e0
      rw [z] at q
      cases r with
      | lst r _ => rw [r] at q; cases q
      | dK r _ => rw [r] at q; cases q⟩⟩
  exact {
    len := by rw [List.length_set]; exact R.len
    val := fun j u y => by
      by_cases q : j = i
      · subst q
        rw [List.getElem?_set_self hi] at y
        cases y
      · rw [List.getElem?_set_ne (Ne.symm q)] at y
        obtain ⟨z, e1, r⟩ := R.val j u y
        exact ⟨z, e1, r.keep kp (Longer.refl _)⟩
    own := fun j u y => by
      by_cases q : j = i
      · subst q
        rw [List.getElem?_set_self hi] at y
        cases y
        obtain ⟨b, e0, e1, r⟩ := R.own j w x
        rw [e] at e0
        cases e0
        exact ⟨a, e, e1, c⟩
      · rw [List.getElem?_set_ne (Ne.symm q)] at y
        obtain ⟨b, e0, e1, r⟩ := R.own j u y
        exact ⟨b, e0, e1, r.keep kp (Longer.refl _) (upd_ne fun z : b = a => q (R.oi j i b e0 (by rw [z]; exact e)))⟩
    hp := ⟨R.hp.len, fun n o b e1 e2 => (R.hp.obj n o b e1 e2).keep kp (Longer.refl _) (upd_ne fun z : b = a => (R.om i a e).1 (by rw [← z]; exact List.mem_of_getElem? e2)), R.hp.nd⟩
    oi := R.oi
    om := fun j b q => ⟨(R.om j b q).1, (R.om j b q).2.1, by
      by_cases z : b = a
      · rw [z, upd_same]; rfl
      · rw [upd_ne z]; exact (R.om j b q).2.2⟩
    mn := R.mn
    nn := fun b q => by rw [upd_ne (fun z : b = a => (R.om i a e).2.1 (by rw [← z]; exact q))]; exact R.nn b q }
/-- an object of the small heap is changed -/
theorem Rel.objput0 {n : Nat} {ho : HO} {ob : O} (R : Rel K G env h σ H) (m : G.mu[n]? = some a) (c : RO K G.mu G.N (L2.upd H a ho) a ob) : Rel K G env (h.set n ob) σ (L2.upd H a ho) := by
  have am : a ∈ G.mu := List.mem_of_getElem? m
  have iN : G.N a := .inr (.inl am)
  have kp : Keeps G.N H G.N (L2.upd H a ho) := fun b u eb n => ⟨by rw [upd_ne (np n iN)]; exact eb, n⟩
  exact {
    len := R.len
    val := fun j u y => let ⟨z, e1, r⟩ := R.val j u y; ⟨z, e1, r.keep kp (Longer.refl _)⟩
    own := fun j u y => let ⟨b, e0, e1, r⟩ := R.own j u y; ⟨b, e0, e1, r.keep kp (Longer.refl _) (upd_ne fun z : b = a => (R.om j b e0).1 (by rw [z]; exact am))⟩
    hp := by
      refine ⟨by rw [List.length_set]; exact R.hp.len, fun k o b e1 e2 => ?_, R.hp.nd⟩
      by_cases q : k = n
      · subst q
        have hk : k < h.length := by
          rw [R.hp.len]
          exact (List.getElem?_eq_some_iff.mp m).1
        rw [List.getElem?_set_self hk] at e1
        cases e1
        rw [m] at e2
        cases e2
        exact c
      · rw [List.getElem?_set_ne (Ne.symm q)] at e1
        refine (R.hp.obj k o b e1 e2).keep kp (Longer.refl _) (upd_ne fun z : b = a => q ?_)
        subst z
        obtain ⟨k1, k2⟩ := List.getElem?_eq_some_iff.mp e2
        obtain ⟨n1, n2⟩ := List.getElem?_eq_some_iff.mp m
        exact (List.getElem_inj R.hp.nd).mp (k2.trans n2.symm)
    oi := R.oi
    om := fun j b q => ⟨(R.om j b q).1, (R.om j b q).2.1, by rw [upd_ne fun z : b = a => (R.om j b q).1 (by rw [z]; exact am)]; exact (R.om j b q).2.2⟩
    mn := R.mn
    nn := fun b q => by rw [upd_ne (fun z : b = a => R.mn a am (by rw [← z]; exact q))]; exact R.nn b q }
theorem Rel.objput {n : Nat} {ho : HO} {ob : O} (R : Rel K G env h σ H) (m : G.mu[n]? = some a) (nf : ∀ od u, H a ≠ some (.frz od u)) (c : RO K G.mu G.N (L2.upd H a ho) a ob) : Rel K G env (h.set n ob) σ (L2.upd H a ho) ∧ Step G H G (L2.upd H a ho) := by
  have am : a ∈ G.mu := List.mem_of_getElem? m
  exact ⟨R.objput0 m c, ⟨⟨fun b u eb n => ⟨by rw [upd_ne (np n (.inl am))]; exact eb, n⟩, Longer.refl _, rfl, fun b od u q => by rw [upd_ne (fun z : b = a => nf od u (by rw [← z]; exact q))]; exact q⟩, rfl, fun j b q => upd_ne fun z : b = a => (R.om j b q).1 (by rw [z]; exact am)⟩⟩
end
section
variable {X : Cx} {Wx : WX} {e o c tg : Expr} {es : List Expr} {st : Stmt} {sts rest : List Stmt} {s sv so sk : SE} {ss : SA} {k k1 k2 : SS} {t : MP.ST} {p pos pos' pt : Pos} {i j : Nat} {x y : Str}
theorem PS.weak {t t' : TS} (q : PS X st t) (h : ∀ D σ H, t' D σ H → t D σ H) : PS X st t' := ⟨fun pins s σ H D I z => q.run pins s σ H D I (h D σ H z)⟩
theorem PSs.weak {t t' : TS} (q : PSs X sts t) (h : ∀ D σ H, t' D σ H → t D σ H) : PSs X sts t' := ⟨fun pins s σ H D I z => q.run pins s σ H D I (h D σ H z)⟩
theorem sw_never : PSW X Wx st kBad := PS.weak ps_never fun D σ H ⟨_, _, _, _, q⟩ => q
theorem ssw_never : PSsW X Wx sts kBad := PSs.weak pss_never fun D σ H ⟨_, _, _, _, q⟩ => q
theorem ssw_nil : PSsW X Wx [] kNx := PSs.weak pss_nil fun D σ H ⟨G, env, h, R, q⟩ => PostS.nx q R
theorem ssw_cons (h1 : PSW X Wx st k1) (h2 : PSsW X Wx rest k2) : PSsW X Wx (st :: rest) (kSeq k1 k2) := PSs.weak (pss_cons h1 h2) fun D σ H ⟨G, env, h, R, q⟩ => ⟨G, env, h, R, by
  have q' : PostS X.K G H Wx D (match k1 env h with
    | .nx e h => k2 e h
    | o => o) := q
  cases eo : k1 env h with
  | nx e h' =>
    rw [eo] at q'
    exact fun G' σ' H' R' S' => ⟨G', e, h', R', PostS.later q' S'⟩
  | br e h => rw [eo] at q'; exact q'
  | ct e h => rw [eo] at q'; exact q'
  | rt w h => rw [eo] at q'; exact q'
  | ex c q e h => rw [eo] at q'; exact q'
  | bad => rw [eo] at q'; exact q'⟩
theorem ssw_one (h1 : PSW X Wx st k1) : PSsW X Wx [st] k1 := pss_one h1
theorem ssw_fz (h1 : PSsW X Wx sts k) : PSsW X Wx sts (kSeq (kFz i) k) := PSs.weak h1 fun D σ H ⟨G, env, h, R, q⟩ => by
  have q' : PostS X.K G H Wx D (match kFz i env h with
    | .nx e h => k e h
    | o => o) := q
  unfold kFz at q'
  cases e : env[i]? with
  | none => rw [e] at q'; exact q'.elim
  | some u =>
    rw [e] at q'
    cases u with
    | none => exact q'.elim
    | some bw =>
      obtain ⟨b, w⟩ := bw
      dsimp only at q'
      cases b with
      | true => exact ⟨G.free i, _, h, R.free e, PostS.later q' StepS.free⟩
      | false =>
        rw [set_back e] at q'
        exact ⟨G, env, h, R, q'⟩
theorem sw_pass : PSW X Wx (.Pass pos) kNx := PS.weak ps_pass fun D σ H ⟨G, env, h, R, q⟩ => PostS.nx q R
theorem sw_break : PSW X Wx (.Break pos) kBr := PS.weak ps_break fun D σ H ⟨G, env, h, R, q⟩ => q G σ H R (StepS.refl G H)
theorem sw_cont : PSW X Wx (.Continue pos) kCt := PS.weak ps_continue fun D σ H ⟨G, env, h, R, q⟩ => q G σ H R (StepS.refl G H)
theorem sw_doc {x : Str} {j : Nat} : PSW X Wx (.Expr (.Constant (.str x) j pos) pos') kNx := PS.weak ps_doc fun D σ H ⟨G, env, h, R, q⟩ => PostS.nx q R
theorem sw_if {a b : List Stmt} (hc : PTW X Wx c t) (ha : PSsW X Wx a k1) (hb : PSsW X Wx b k2) : PSW X Wx (.If c a b pos) (kIf t k1 k2) := PS.weak (ps_if hc ha hb) fun D σ H ⟨G, env, h, R, q⟩ =>
  ⟨G, env, h, R, (PostS.out (rel := rB) q).mono fun v H1 ⟨w, h1, mu1, R1, S1, r1, q1⟩ => by
    have r2 : w = v := r1
    subst r2
    cases w with
    | true => exact ⟨_, env, h1, R1, q1⟩
    | false => exact ⟨_, env, h1, R1, q1⟩⟩
theorem sw_ret (he : PEW X Wx e s) : PSW X Wx (.Return (some e) pos) (kRet s) := PS.weak (ps_ret he) fun D σ H ⟨G, env, h, R, q⟩ =>
  ⟨G, env, h, R, (PostS.out (rel := rW X.K) q).mono fun v H1 ⟨w, h1, mu1, R1, S1, r1, q1⟩ => PostS.rt q1 R1 r1⟩
theorem sw_retN : PSW X Wx (.Return none pos) kRetN := PS.weak ps_retN fun D σ H ⟨G, env, h, R, q⟩ => PostS.rt q R .non
theorem sw_retO (hN : X.N[i]? = some x) (hv : Vis X.env.scope x) (hd : (x == ("__debug__" : Str)) = false) (hcd : (x == ("__classdict__" : Str)) = false) : PSW X Wx (.Return (some (.Name x p)) pos) (kRetO i) :=
  PS.weak (ps_ret (pe_var hN hv hd hcd)) fun D σ H ⟨G, env, h, R, q⟩ => by
    have q' : PostS X.K G H Wx D (match env[i]? with
      | some (some (_, w)) => .rt w h
      | _ => .bad) := q
    cases e : env[i]? with
    | none => rw [e] at q'; exact q'.elim
    | some u =>
      rw [e] at q'
      cases u with
      | none => exact q'.elim
      | some bw =>
        obtain ⟨b, w⟩ := bw
        cases b with
        | true =>
          have R2 := R.free e
          obtain ⟨v, e1, r⟩ := R2.val i w (by rw [List.getElem?_set_self (List.getElem?_eq_some_iff.mp e).1])
          exact ⟨v, e1, PostS.rt (q'.later (StepS.free (i := i))) R2 r⟩
        | false =>
          obtain ⟨v, e1, r⟩ := R.val i w e
          exact ⟨v, e1, PostS.rt q' R r⟩
theorem sw_exp (he : PEW X Wx e s) (hs : swapsWith e none pos.line X.env = pure false) : PSW X Wx (.Expr e pos) (kExp s) := PS.weak (ps_expr he hs) fun D σ H ⟨G, env, h, R, q⟩ =>
  ⟨G, env, h, R, (PostS.out (rel := rW X.K) q).mono fun v H1 ⟨w, h1, mu1, R1, S1, r1, q1⟩ => PostS.nx q1 R1⟩
theorem set_of {s : SE} {σ : Sg} {H : Hp} {D : Ends} (z : tS X.K Wx (kSet i s) D σ H) : tR X.K Wx (rW X.K) s σ H fun v H1 => D.nx (σ.set i (some v)) H1 := by
  obtain ⟨G, env, h, R, q⟩ := z
  refine ⟨G, env, h, R, (PostS.out (rel := rW X.K) q).mono fun v H1 ⟨w, h1, mu1, R1, S1, r1, q1⟩ => ?_⟩
  split at q1
  · rename_i hz
    exact PostS.nx q1 (R1.set r1 (Nat.le_of_ble_eq_true hz))
  · exact q1.elim
theorem sw_set (hN : X.N.Nodup) (hi : X.N[i]? = some x) (hx : Loc X.env.scope x) (hf : X.fn x = true ∨ X.env.scope.names.lookup x = some .local) (he : PEW X Wx e s) (hs : swapsWith e (some (.Name x pos')) pos.line X.env = pure false) : PSW X Wx (.Assign [.Name x pos'] e pos) (kSet i s) :=
  PS.weak (ps_set hN hi hx he hs hf) fun D σ H z => set_of z
def ownW (i : Nat) (env : MP.Env) (x : W) (h : Hea) : Out := match x with
  | .lst _ => .nx (env.set i (some (true, x))) h
  | .dct _ => .nx (env.set i (some (true, x))) h
  | _ => .bad
theorem setO_of {s : SE} {σ : Sg} {H : Hp} {D : Ends} (z : tS X.K Wx (kSetO i s) D σ H) : tF X.K Wx s σ H fun v H1 => D.nx (σ.set i (some v)) H1 := by
  obtain ⟨G, env, h, R, q⟩ := z
  refine ⟨G, env, h, R, (PostS.outF (f := fun x h => if Nat.blt i env.length then ownW i env x h else .bad) q).mono fun v H1 ⟨a, w, h1, mu1, ev, R1, S1, n, c, q1⟩ => ?_⟩
  subst ev
  split at q1
  · rename_i hz
    have nb := n0_none R n
    have hi : i < env.length := Nat.le_of_ble_eq_true hz
    have fin : PostS X.K G H Wx D (.nx (env.set i (some (true, w))) h1) → D.nx (σ.set i (some (.ref a))) H1 := fun q2 => q2 _ _ _ (R1.hold nb c hi) (S1.hold n)
    cases w with
    | lst xs => exact fin q1
    | dct xs => exact fin q1
    | _ => exact False.elim q1
  · exact q1.elim
theorem sw_setO (hN : X.N.Nodup) (hi : X.N[i]? = some x) (hx : Loc X.env.scope x) (hf : X.fn x = true ∨ X.env.scope.names.lookup x = some .local) (he : PEF X Wx e s) (hs : swapsWith e (some (.Name x pos')) pos.line X.env = pure false) : PSW X Wx (.Assign [.Name x pos'] e pos) (kSetO i s) :=
  PS.weak (ps_set hN hi hx he hs hf) fun D σ H z => setO_of z
theorem sw_tg {sl : List Nat} {g : Tg} (he : PEW X Wx e s) (hg : PGW X tg sl g) (hs : swapsWithSole [tg] e pos.line X.env = pure false) (hw : swappedStores [tg] e X.env = pure none) (h1 : (assignEach [tg] X.env).map (·.2) = [assign tg X.env]) : PSW X Wx (.Assign [tg] e pos) (kTg g s) :=
  PS.weak (ps_asg he hg hs hw h1) fun D σ H ⟨G, env, h, R, q⟩ => ⟨G, env, h, R, (PostS.out (rel := rW X.K) q).mono fun v H1 ⟨w, h1, mu1, R1, S1, r1, q1⟩ => by
      cases eg : g w env with
      | none => rw [eg] at q1; exact q1.elim
      | some env' =>
        rw [eg] at q1
        exact ⟨_, env, h1, w, R1, r1, env', eg, fun σ' R' _ _ => PostS.nx q1 R'⟩⟩
theorem sw_par {a b : Expr} {px py : Pos} {kt k2 : Nat} {pt2 : Pos} (hc : X.calm = true) (hN : X.N.Nodup) (hi : X.N[i]? = some x) (hj : X.N[j]? = some y) (hij : i ≠ j) (hx : X.env.scope.names.lookup x = some .local) (hy : X.env.scope.names.lookup y = some .local) (ha : PAW X Wx [a, b] ss)
    (hw : swappedStores [.Tuple [.Name x px, .Name y py] kt pt] (.Tuple [a, b] k2 pt2) X.env = pure (some [x, y])) (hs : swapsWithSole [.Tuple [.Name x px, .Name y py] kt pt] (.Tuple [a, b] k2 pt2) pos.line X.env = pure false) :
    PSW X Wx (.Assign [.Tuple [.Name x px, .Name y py] kt pt] (.Tuple [a, b] k2 pt2) pos) (kPar i j ss) :=
  PS.weak (ps_par hc hN hi hj hij hx hy ha hw hs) fun D σ H ⟨G, env, h, R, q⟩ => ⟨G, env, h, R, (PostS.out (rel := rWs X.K) q).mono fun v H1 ⟨w, h1, mu1, R1, S1, r1, q1⟩ => by
      match w, r1, q1 with
      | [], _, q1 => exact q1.elim
      | [_], _, q1 => exact q1.elim
      | _ :: _ :: _ :: _, _, q1 => exact q1.elim
      | [w1, w2], r1, q1 =>
        obtain ⟨v1, r', rfl, rx, rn⟩ := RWs.inv_cons r1
        obtain ⟨v2, r'', rfl, ry, rn⟩ := RWs.inv_cons rn
        cases RWs.inv_nil rn
        have q2 : PostS X.K (G.at mu1) H1 Wx D (if (Nat.blt i env.length && Nat.blt j env.length) = true then .nx ((env.set i (some (false, w1))).set j (some (false, w2))) h1 else .bad) := q1
        split at q2
        · rename_i hz
          rw [Bool.and_eq_true] at hz
          have h1 : i < env.length := Nat.le_of_ble_eq_true hz.1
          have h2 : j < env.length := Nat.le_of_ble_eq_true hz.2
          exact ⟨v1, v2, rfl, PostS.nx q2 ((R1.set rx h1).set ry (by rw [List.length_set]; exact h2))⟩
        · exact q2.elim⟩
theorem sw_par3 {l : Nat} {z : Str} {a b d : Expr} {px py pz : Pos} {kt k2 : Nat} {pt2 : Pos} (hc : X.calm = true) (hN : X.N.Nodup) (hi : X.N[i]? = some x) (hj : X.N[j]? = some y) (hl : X.N[l]? = some z) (hij : i ≠ j) (hil : i ≠ l) (hjl : j ≠ l) (hx : X.env.scope.names.lookup x = some .local) (hy : X.env.scope.names.lookup y = some .local) (hz : X.env.scope.names.lookup z = some .local) (ha : PAW X Wx [a, b, d] ss)
    (hw : swappedStores [.Tuple [.Name x px, .Name y py, .Name z pz] kt pt] (.Tuple [a, b, d] k2 pt2) X.env = pure (some [x, y, z])) (hs : swapsWithSole [.Tuple [.Name x px, .Name y py, .Name z pz] kt pt] (.Tuple [a, b, d] k2 pt2) pos.line X.env = pure false) :
    PSW X Wx (.Assign [.Tuple [.Name x px, .Name y py, .Name z pz] kt pt] (.Tuple [a, b, d] k2 pt2) pos) (kPar3 i j l ss) :=
  PS.weak (ps_par3 hc hN hi hj hl hij hil hjl hx hy hz ha hw hs) fun D σ H ⟨G, env, h, R, q⟩ => ⟨G, env, h, R, (PostS.out (rel := rWs X.K) q).mono fun v H1 ⟨w, h1, mu1, R1, S1, r1, q1⟩ => by
      match w, r1, q1 with
      | [], _, q1 => exact q1.elim
      | [_], _, q1 => exact q1.elim
      | [_, _], _, q1 => exact q1.elim
      | _ :: _ :: _ :: _ :: _, _, q1 => exact q1.elim
      | [w1, w2, w3], r1, q1 =>
        obtain ⟨v1, r', rfl, rx, rn⟩ := RWs.inv_cons r1
        obtain ⟨v2, r'', rfl, ry, rn⟩ := RWs.inv_cons rn
        obtain ⟨v3, r'', rfl, rz, rn⟩ := RWs.inv_cons rn
        cases RWs.inv_nil rn
        have q2 : PostS X.K (G.at mu1) H1 Wx D (if (Nat.blt i env.length && Nat.blt j env.length && Nat.blt l env.length) = true then .nx (((env.set i (some (false, w1))).set j (some (false, w2))).set l (some (false, w3))) h1 else .bad) := q1
        split at q2
        · rename_i hz
          rw [Bool.and_eq_true, Bool.and_eq_true] at hz
          have h1 : i < env.length := Nat.le_of_ble_eq_true hz.1.1
          have h2 : j < env.length := Nat.le_of_ble_eq_true hz.1.2
          have h3 : l < env.length := Nat.le_of_ble_eq_true hz.2
          exact ⟨v1, v2, v3, rfl, PostS.nx q2 (((R1.set rx h1).set ry (by rw [List.length_set]; exact h2)).set rz (by rw [List.length_set, List.length_set]; exact h3))⟩
        · exact q2.elim⟩
/-- name op= e: ints -/
theorem tAug_of {g : G2} {ti : TIp} (hg : ∀ (G : Gh) (env : MP.Env) (h : Hea) (σ : Sg) (H : Hp) (Q : VK) (x y : W) (v u : V), Rel X.K G env h σ H → RW X.K G.mu G.N H x v → RT X.K G env H y u → PostR X.K G env σ H Wx (rW X.K) Q (g x y h) → ti v u H Q)
    {D : Ends} {σ : Sg} {H : Hp} (z : tS X.K Wx (kSet i (sB g (sV i) s)) D σ H) : tAug i (tR X.K Wx (rT X.K) s) ti D σ H := by
  obtain ⟨G, env, h, R, q⟩ := set_of z
  have q' : PostR X.K G env σ H Wx (rW X.K) (fun v H1 => D.nx (σ.set i (some v)) H1) ((sV i env h).bind fun x h => (s env h).bind fun y h => g x y h) := q
  unfold sV at q'
  cases e : env[i]? with
  | none => rw [e] at q'; exact q'.elim
  | some u =>
    rw [e] at q'
    cases u with
    | none => exact q'.elim
    | some bw =>
      obtain ⟨b, w⟩ := bw
      cases b with
      | true => exact q'.elim
      | false =>
        obtain ⟨v, e1, r⟩ := R.val i w e
        have q2 : PostR X.K G env σ H Wx (rW X.K) (fun v H1 => D.nx (σ.set i (some v)) H1) ((s env h).bind fun y h => g w y h) := q'
        exact ⟨v, e1, G, env, h, R, (PostR.bind (rel := rT X.K) q2).mono fun u H1 ⟨z, h1, mu1, R1, S1, r1, q1⟩ => hg _ env h1 σ H1 _ w z v u R1 (r.step S1.toStepS) r1 q1⟩
theorem ip_addW (G : Gh) (env : MP.Env) (h : Hea) (σ : Sg) (H : Hp) (Q : VK) (x y : W) (v u : V) (R : Rel X.K G env h σ H) (rx : RW X.K G.mu G.N H x v) (ry : RT X.K G env H y u) (q : PostR X.K G env σ H Wx (rW X.K) Q (gAddI x y h)) : ipI (fun i j => i + j) v u H Q := by
  cases x with
  | int a =>
    cases y with
    | int b => exact ⟨a, b, rx.inv_int, RT.inv_int R ry, PostR.hW (w := .int (a + b)) q R (.int _)⟩
    | _ => exact False.elim q
  | _ => exact False.elim q
theorem ip_subW (G : Gh) (env : MP.Env) (h : Hea) (σ : Sg) (H : Hp) (Q : VK) (x y : W) (v u : V) (R : Rel X.K G env h σ H) (rx : RW X.K G.mu G.N H x v) (ry : RT X.K G env H y u) (q : PostR X.K G env σ H Wx (rW X.K) Q (gSub x y h)) : ipI (fun i j => i - j) v u H Q := by
  cases x with
  | int a =>
    cases y with
    | int b => exact ⟨a, b, rx.inv_int, RT.inv_int R ry, PostR.hW (w := .int (a - b)) q R (.int _)⟩
    | _ => exact False.elim q
  | _ => exact False.elim q
theorem sw_add (hN : X.N.Nodup) (hi : X.N[i]? = some x) (hx : Loc X.env.scope x) (hf : X.fn x = true ∨ X.env.scope.names.lookup x = some .local) (he : PET X Wx e s) : PSW X Wx (.AugAssign (.Name x pos') .Add e pos) (kSet i (sB gAddI (sV i) s)) := PS.weak (ps_aug hN hi hx he ip_add hf) fun D σ H z => tAug_of ip_addW z
theorem sw_sub (hN : X.N.Nodup) (hi : X.N[i]? = some x) (hx : Loc X.env.scope x) (hf : X.fn x = true ∨ X.env.scope.names.lookup x = some .local) (he : PET X Wx e s) : PSW X Wx (.AugAssign (.Name x pos') .Sub e pos) (kSet i (sB gSub (sV i) s)) := PS.weak (ps_aug hN hi hx he ip_sub hf) fun D σ H z => tAug_of ip_subW z
/-! attributes -/
theorem putAt_some {cl : Nat} {f : Nm} {x y : W} {h h' : Hea} (e : putAt cl f x y h = some h') : ∃ n fs, x = .ref n ∧ h[n]? = some (.ins cl fs) ∧ fs.length < 100 ∧ h' = h.set n (.ins cl (putN f y fs)) := by
  unfold putAt at e
  cases x with
  | ref n =>
    dsimp only at e
    cases q : h[n]? with
    | none => rw [q] at e; cases e
    | some o =>
      rw [q] at e
      cases o with
      | ins c fs =>
        dsimp only at e
        split at e
        · rename_i hc
          rw [Bool.and_eq_true] at hc
          have e1 : c = cl := by simpa using hc.1
          subst e1
          cases e
          exact ⟨n, fs, rfl, q, Nat.le_of_ble_eq_true hc.2, rfl⟩
        · cases e
      | _ => cases e
  | _ => cases e
theorem put_ok {cl : Nat} {f : Nm} {G : Gh} {env : MP.Env} {h : Hea} {σ : Sg} {H : Hp} {D : Ends} {w y : W} {u v : V} (hC : Cls X.K (ca X.K cl)) (hA : NoAttr X.K (ca X.K cl) (toS f)) (R : Rel X.K G env h σ H) (r : RT X.K G env H w u) (rv : RW X.K G.mu G.N H y v) (q : PostS X.K G H Wx D (oNx env (putAt cl f w y h))) :
    ∃ a C dx fs, u = .ref a ∧ H a = some (.ins C dx fs) ∧ Cls X.K C ∧ NoAttr X.K C (toS f) ∧ fs.length < 1000 ∧ D.nx σ (L2.upd H a (.ins C dx (L2.putF (toS f) v fs))) := by
  cases e : putAt cl f w y h with
  | none => rw [e] at q; exact q.elim
  | some h' =>
    rw [e] at q
    obtain ⟨n, fs, rfl, e1, e2, rfl⟩ := putAt_some e
    obtain ⟨a, rfl, m⟩ := RT.inv_ref R r
    obtain ⟨dx, gs, e3, rf⟩ := R.ins e1 m
    have am : G.N a := .inr (.inl (List.mem_of_getElem? m))
    have kp : Keeps G.N H G.N (L2.upd H a (.ins (ca X.K cl) dx (L2.putF (toS f) v gs))) := fun b ub eb nb => ⟨by rw [upd_ne (np nb am)]; exact eb, nb⟩
    obtain ⟨R2, S2⟩ := R.objput (ho := .ins (ca X.K cl) dx (L2.putF (toS f) v gs)) (ob := .ins cl (putN f y fs)) m (fun _ _ z => by rw [e3] at z; cases z) (.ins upd_same ((rf.put rv).keep kp (Longer.refl _)))
    exact ⟨a, _, dx, gs, rfl, e3, hC, hA, by rw [rf.length]; omega, q G σ _ R2 S2.toStepS⟩
theorem sw_fld {cl : Nat} {f : Nm} {fS : Str} (hf : fS = toS f) (hC : Cls X.K (ca X.K cl)) (hA : NoAttr X.K (ca X.K cl) fS) (ho : PET X Wx o so) (hv : PEW X Wx e sv) (hs : swapsWith e (some (.Attribute o fS pos')) pos.line X.env = pure false) : PSW X Wx (.Assign [.Attribute o fS pos'] e pos) (kFld cl so f sv) := by
  subst hf
  refine PS.weak (ps_fld ho hv hs) fun D σ H ⟨G, env, h, R, q⟩ => ⟨G, env, h, R, (PostS.out (rel := rW X.K) q).mono fun v H1 ⟨y, h1, mu1, R1, S1, r1, q1⟩ => ?_⟩
  refine ⟨_, env, h1, R1, (PostS.out (rel := rT X.K) q1).mono fun u H2 ⟨w, h2, mu2, R2, S2, r2, q2⟩ => ?_⟩
  exact put_ok hC hA R2 r2 (r1.step S2.toStepS) q2
theorem sw_fldadd {cl : Nat} {f : Nm} {fS : Str} {tpos : Pos} (hf : fS = toS f) (hC : Cls X.K (ca X.K cl)) (hA : NoAttr X.K (ca X.K cl) fS) (ho : PET X Wx o so) (hv : PEW X Wx e sv) : PSW X Wx (.AugAssign (.Attribute o fS tpos) .Add e pos) (kFldA gAddI cl so f sv) := by
  subst hf
  refine PS.weak (ps_fldaug ho hv in_add) fun D σ H ⟨G, env, h, R, q⟩ => ⟨G, env, h, R, (PostS.out (rel := rT X.K) q).mono fun u H1 ⟨w, h1, mu1, R1, S1, r1, q1⟩ => ?_⟩
  cases e : fldOf cl f w h1 with
  | none => rw [e] at q1; exact q1.elim
  | some old =>
    rw [e] at q1
    obtain ⟨n, fs, rfl, e1, e2⟩ := fldOf_some e
    obtain ⟨a, rfl, m⟩ := RT.inv_ref R1 r1
    obtain ⟨dx, gs, e3, rf⟩ := R1.ins e1 m
    obtain ⟨ov, e4, ro⟩ := rf.look e2
    have q2 : PostS X.K (G.at mu1) H1 Wx D ((sv env h1).out env fun y h => (gAddI old y h).out env fun z h => oNx env (putAt cl f (.ref n) z h)) := q1
    refine ⟨a, _, dx, gs, ov, rfl, e3, hC, hA, e4, _, env, h1, R1, (PostS.out (rel := rW X.K) q2).mono fun v H2 ⟨y, h2, mu2, R2, S2, r2, q3⟩ => ?_⟩
    have ro2 := ro.step S2.toStepS
    cases old with
    | int p =>
      cases y with
      | int q =>
        refine ⟨p, q, ro2.inv_int, r2.inv_int, ?_⟩
        obtain ⟨a', C', dx', fs', ea, e5, _, _, l5, nx⟩ := put_ok (w := .ref n) (y := .int (p + q)) (u := .ref a) (v := .int (p + q)) (D := D) hC hA R2 (.inl (.ref (S2.mu n a m))) (.int _) q3
        cases ea
        obtain ⟨fs2, e7⟩ : ∃ fs2, h2[n]? = some (.ins cl fs2) := by
          have q4 : PostS X.K _ H2 Wx D (oNx env (putAt cl f (.ref n) (.int (p + q)) h2)) := q3
          cases ep : putAt cl f (.ref n) (.int (p + q)) h2 with
          | none => rw [ep] at q4; exact q4.elim
          | some hh =>
            obtain ⟨n', fs', en, e7, _⟩ := putAt_some ep
            cases en
            exact ⟨fs', e7⟩
        obtain ⟨dx2, gs2, e6, rf2⟩ := R2.ins e7 (S2.mu n a m)
        rw [e6] at e5
        cases e5
        exact ⟨_, _, e6, l5, nx⟩
      | _ => exact False.elim q3
    | _ => exact False.elim q3
end
end MP
end

section
set_option Elab.async false
set_option linter.all false
set_option maxRecDepth 100000
set_option autoImplicit false
/-! MP13: statements that change lists and dicts, loops. -/
namespace MP
open PySem PySem.Spec PyProof.Rows L2
section
variable {K : PySem.W.Frag} {G G1 : Gh} {env : MP.Env} {h h1 : Hea} {σ : Sg} {H H1 : Hp} {Wx : WX} {D D' : Ends} {mu : List Addr} {a : Addr} {i : Nat} {w : W}
theorem slotL_some {ws : List W} (e : slotL i env = some ws) : env[i]? = some (some (true, .lst ws)) := by
  unfold slotL at e
  split at e
  · rename_i q
    cases e
    exact q
  · cases e
theorem slotD_some {ws : List (W × W)} (e : slotD i env = some ws) : env[i]? = some (some (true, .dct ws)) := by
  unfold slotD at e
  split at e
  · rename_i q
    cases e
    exact q
  · cases e
theorem heapL_some {x : W} {n : Nat} {ws : List W} (e : heapL x h = some (n, ws)) : x = .ref n ∧ h[n]? = some (.lst ws) := by
  unfold heapL at e
  split at e
  · rename_i m
    split at e
    · rename_i q
      cases e
      exact ⟨rfl, q⟩
    · cases e
  · cases e
theorem heapD_some {x : W} {n : Nat} {ws : List (W × W)} (e : heapD x h = some (n, ws)) : x = .ref n ∧ h[n]? = some (.dct ws) := by
  unfold heapD at e
  split at e
  · rename_i m
    split at e
    · rename_i q
      cases e
      exact ⟨rfl, q⟩
    · cases e
  · cases e
theorem Rel.hlst {n : Nat} {ws : List W} (R : Rel K G env h σ H) (e : h[n]? = some (.lst ws)) (m : G.mu[n]? = some a) : ∃ xs, H a = some (.lst xs) ∧ RWs K G.mu G.N H ws xs := by
  cases R.hp.obj n _ a e m with
  | lst c => cases c with
    | lst e r => exact ⟨_, e, r⟩
theorem Rel.hdct {n : Nat} {kvs : List (W × W)} (R : Rel K G env h σ H) (e : h[n]? = some (.dct kvs)) (m : G.mu[n]? = some a) : DAt K G H a kvs := by
  cases R.hp.obj n _ a e m with
  | dct c => exact c.dat
theorem keeps_at {ho : HO} (n : G.N a) : Keeps G.N H G.N (L2.upd H a ho) := fun b u eb nb => ⟨by rw [upd_ne (np nb n)]; exact eb, nb⟩
end
/-! a dict's store -/
theorem lookK_any {k : Key} {kvs : List (Key × V)} : ∀ {ws : List W}, ws.length = kvs.length → (lookK (wKey k) ((kvs.map fun p => wKey p.1).zip ws)).isSome = (kvs.any fun kv => decide (kv.1 = k)) := by
  induction kvs with
  | nil => intro ws _; rfl
  | cons p kvs ih =>
    intro ws hl
    cases ws with
    | nil => cases hl
    | cons w ws =>
      have e1 : lookK (wKey k) (((p :: kvs).map fun p => wKey p.1).zip (w :: ws)) = if eqW (wKey p.1) (wKey k) = true then some w else lookK (wKey k) ((kvs.map fun p => wKey p.1).zip ws) := rfl
      rw [e1, eq_wKey, List.any_cons]
      by_cases q : p.1 = k
      · rw [decide_eq_true q, if_pos rfl]; rfl
      · rw [decide_eq_false q, if_neg Bool.false_ne_true, Bool.false_or]
        exact ih (by simpa using hl)
theorem repl_rel {K : PySem.W.Frag} {mu : List Addr} {N : Addr → Prop} {H : Hp} {k : Key} {y : W} {v : V} (ry : RW K mu N H y v) : ∀ {kvs : List (Key × V)} {ws : List W}, RWs K mu N H ws (kvs.map (·.2)) →
    ∃ ws', replK (wKey k) y ((kvs.map fun p => wKey p.1).zip ws) = ((kvs.map fun kv => if kv.1 = k then (kv.1, v) else kv).map fun p => wKey p.1).zip ws' ∧ RWs K mu N H ws' ((kvs.map fun kv => if kv.1 = k then (kv.1, v) else kv).map (·.2))
  | [], ws, r => by
    cases r
    exact ⟨[], rfl, .nil⟩
  | (k', v') :: kvs, ws, r => by
    cases r with
    | cons r1 t =>
      rename_i w' ws'
      obtain ⟨us, e1, r2⟩ := repl_rel (k := k) ry t
      have e2 : replK (wKey k) y ((((k', v') :: kvs).map fun p => wKey p.1).zip (w' :: ws')) = (if eqW (wKey k') (wKey k) = true then (wKey k', y) else (wKey k', w')) :: replK (wKey k) y ((kvs.map fun p => wKey p.1).zip ws') := rfl
      rw [e2, e1, eq_wKey]
      by_cases q : k' = k
      · subst q
        rw [decide_eq_true rfl, if_pos rfl]
        refine ⟨y :: us, ?_, ?_⟩
        · simp
        · simp only [List.map_cons, if_true]
          exact .cons ry r2
      · rw [decide_eq_false q, if_neg Bool.false_ne_true]
        refine ⟨w' :: us, ?_, ?_⟩
        · simp [q]
        · simp only [List.map_cons, if_neg q]
          exact .cons r1 r2
theorem put_rel {K : PySem.W.Frag} {mu : List Addr} {N : Addr → Prop} {H : Hp} {k : Key} {y : W} {v : V} (ry : RW K mu N H y v) {kvs : List (Key × V)} {ws : List W} (r : RWs K mu N H ws (kvs.map (·.2))) :
    ∃ ws', MP.putK (wKey k) y ((kvs.map fun p => wKey p.1).zip ws) = ((L2.putK kvs k v).map fun p => wKey p.1).zip ws' ∧ RWs K mu N H ws' ((L2.putK kvs k v).map (·.2)) := by
  have hl : ws.length = kvs.length := by rw [r.length, List.length_map]
  unfold MP.putK L2.putK
  rw [lookK_any hl]
  by_cases q : (kvs.any fun kv => decide (kv.1 = k)) = true
  · rw [if_pos q, if_pos q]
    exact repl_rel ry r
  · rw [if_neg q, if_neg q]
    refine ⟨ws ++ [y], ?_, ?_⟩
    · rw [List.map_append, List.zip_append (by rw [List.length_map, hl])]
      rfl
    · rw [List.map_append]
      exact r.append (.cons ry .nil)
theorem zip_len {kvs : List (Key × V)} {ws : List W} (hl : ws.length = kvs.length) : ((kvs.map fun p => wKey p.1).zip ws).length = kvs.length := by
  rw [List.length_zip, List.length_map, hl, Nat.min_self]
section
variable {X : Cx} {Wx : WX} {e o c tg iter a : Expr} {es : List Expr} {st : Stmt} {sts rest body : List Stmt} {s sv so sk sa : SE} {ss : SA} {k k1 k2 : SS} {t : MP.ST} {p p2 pos pos' pt apos cpos : Pos} {i j : Nat} {x y : Str}
/-! append, extend -/
theorem sw_appO (hN : X.N[i]? = some x) (hv : Vis X.env.scope x) (hd : (x == ("__debug__" : Str)) = false) (hcd : (x == ("__classdict__" : Str)) = false) (ha : PEW X Wx a sa)
    (hbase : attributeBase (.Name x p) "append" X.env (eval (.Name x p) X.env) = eval (.Name x p) X.env)
    (hfew : ((backTo cpos (starEach [a] X.env)).all (fun x => !x.1) && (backToKw cpos (keywordEach [] X.env)).all (fun x => x.1.isSome) && decide (([a] : List Expr).length + ([] : List Keyword).length + (if ([] : List Keyword).isEmpty then 0 else 1) < 30)) = true)
    (hline : (apos.endLine == cpos.line) = true) (hs : starEach [a] X.env = (false, eval a X.env) :: starEach [] X.env) (hpl : (backTo cpos (starEach [] X.env)).any (·.1) = false) (hsw : swapsWith (.Call (.Attribute (.Name x p) "append" apos) [a] [] cpos) none pos.line X.env = pure false) :
    PSW X Wx (.Expr (.Call (.Attribute (.Name x p) "append" apos) [a] [] cpos) pos) (kAppO i sa) :=
  PS.weak (ps_expr (pe_bm PySem.F.plainAttrs_list PySem.F.slot_list_append PySem.F.type_list_append mt_append (pe_var hN hv hd hcd) (pw_cons ha pw_nil hs) hbase hfew hline hs hpl) hsw) fun D σ H ⟨G, env, h, R, q⟩ => by
    have q' : PostS X.K G H Wx D (match slotL i env with
      | some ws => (sa env h).out env fun y h => if Nat.blt ws.length line then .nx (env.set i (some (true, .lst (ws ++ [y])))) h else .bad
      | none => .bad) := q
    cases es : slotL i env with
    | none => rw [es] at q'; exact q'.elim
    | some ws =>
      rw [es] at q'
      have ei := slotL_some es
      obtain ⟨b, e0, e1, rc⟩ := R.own i _ ei
      cases rc with
      | lst eh rr =>
        rename_i xs
        refine ⟨.ref b, e1, .inl ⟨rfl, xs, SqL.of eh⟩, G, env, h, R, ?_⟩
        have q2 : PostR X.K G env σ H Wx (rW X.K) (fun v H1 => ∃ y h1 mu1, Rel X.K (G.at mu1) env h1 σ H1 ∧ Step G H (G.at mu1) H1 ∧ RW X.K mu1 (G.at mu1).N H1 y v ∧ PostS X.K (G.at mu1) H1 Wx D (if Nat.blt ws.length line then .nx (env.set i (some (true, .lst (ws ++ [y])))) h1 else .bad)) (sa env h) := PostS.out q'
        refine (show PostR X.K G env σ H Wx (rWs X.K) _ ((sa env h).bind fun x h => .ok [x] h) from ?_)
        generalize sa env h = r at q2
        cases r with
        | ex c q h => exact q2
        | bad => exact q2
        | ok y0 h0 =>
          intro vs mu' H' R' S' rs
          obtain ⟨v, r', rfl, rx, rn⟩ := RWs.inv_cons rs
          cases RWs.inv_nil rn
          obtain ⟨y, h1, mu1, R1, S1, r1, q1⟩ := q2 v mu' H' R' S' rx
          have eb : H' b = some (.lst xs) := (S1.oc i b e0).trans eh
          split at q1
          · rename_i hz
            refine ⟨b, xs, v, rfl, rfl, eb, by rw [← rr.length]; exact lt_line hz, ?_⟩
            have rr1 : RWs X.K mu1 (G.at mu1).N H' ws xs := rr.step S1.toStepS
            have iN : (G.at mu1).N b := .inr (.inr ⟨i, e0⟩)
            obtain ⟨R2, S2⟩ := R1.ownput (i := i) (a := b) (ho := .lst (xs ++ [v])) (w' := .lst (ws ++ [y])) e0 ei (.lst upd_same ((rr1.append (.cons r1 .nil)).keep (keeps_at iN) (Longer.refl _)))
            exact q1 _ _ _ R2 S2
          · exact q1.elim
theorem sw_app (ho : PEW X Wx o so) (ha : PEW X Wx a sa)
    (hbase : attributeBase o "append" X.env (eval o X.env) = eval o X.env)
    (hfew : ((backTo cpos (starEach [a] X.env)).all (fun x => !x.1) && (backToKw cpos (keywordEach [] X.env)).all (fun x => x.1.isSome) && decide (([a] : List Expr).length + ([] : List Keyword).length + (if ([] : List Keyword).isEmpty then 0 else 1) < 30)) = true)
    (hline : (apos.endLine == cpos.line) = true) (hs : starEach [a] X.env = (false, eval a X.env) :: starEach [] X.env) (hpl : (backTo cpos (starEach [] X.env)).any (·.1) = false) (hsw : swapsWith (.Call (.Attribute o "append" apos) [a] [] cpos) none pos.line X.env = pure false) :
    PSW X Wx (.Expr (.Call (.Attribute o "append" apos) [a] [] cpos) pos) (kApp so sa) :=
  PS.weak (ps_expr (pe_bm PySem.F.plainAttrs_list PySem.F.slot_list_append PySem.F.type_list_append mt_append ho (pw_cons ha pw_nil hs) hbase hfew hline hs hpl) hsw) fun D σ H ⟨G, env, h, R, q⟩ => ⟨G, env, h, R, (PostS.out (rel := rW X.K) q).mono fun u H1 ⟨w, h1, mu1, R1, S1, r1, q1⟩ => by
    cases eh : heapL w h1 with
    | none => rw [eh] at q1; exact q1.elim
    | some nw =>
      rw [eh] at q1
      obtain ⟨n, ws⟩ := nw
      obtain ⟨rfl, e1⟩ := heapL_some eh
      obtain ⟨b, rfl, m⟩ := r1.inv_ref
      obtain ⟨xs, e2, rr⟩ := R1.hlst e1 m
      refine ⟨.inl ⟨rfl, xs, SqL.of e2⟩, _, env, h1, R1, ?_⟩
      have q2 : PostR X.K (G.at mu1) env σ H1 Wx (rW X.K) (fun v H2 => ∃ y h2 mu2, Rel X.K (G.at mu2) env h2 σ H2 ∧ Step (G.at mu1) H1 (G.at mu2) H2 ∧ RW X.K mu2 (G.at mu2).N H2 y v ∧ PostS X.K (G.at mu2) H2 Wx D (appAt (.ref n) y env h2)) (sa env h1) := PostS.out q1
      refine (show PostR X.K (G.at mu1) env σ H1 Wx (rWs X.K) _ ((sa env h1).bind fun x h => .ok [x] h) from ?_)
      generalize sa env h1 = r at q2
      cases r with
      | ex c q h => exact q2
      | bad => exact q2
      | ok y0 h0 =>
        intro vs mu' H' R' S' rs
        obtain ⟨v, r', rfl, rx, rn⟩ := RWs.inv_cons rs
        cases RWs.inv_nil rn
        obtain ⟨y, h2, mu2, R2, S2, r2, q3⟩ := q2 v mu' H' R' S' rx
        unfold appAt at q3
        cases eh2 : heapL (.ref n) h2 with
        | none => rw [eh2] at q3; exact q3.elim
        | some nw2 =>
          rw [eh2] at q3
          obtain ⟨n2, ws2⟩ := nw2
          obtain ⟨e3, e4⟩ := heapL_some eh2
          cases e3
          have m2 : mu2[n]? = some b := S2.mu n b m
          obtain ⟨xs2, e5, rr2⟩ := R2.hlst e4 m2
          dsimp only at q3
          split at q3
          · rename_i hz
            refine ⟨b, xs2, v, rfl, rfl, e5, by rw [← rr2.length]; exact lt_line hz, ?_⟩
            have iN : (G.at mu2).N b := .inr (.inl (List.mem_of_getElem? m2))
            obtain ⟨R3, S3⟩ := R2.objput (n := n) (ho := .lst (xs2 ++ [v])) (ob := .lst (ws2 ++ [y])) m2 (fun _ _ z => by rw [e5] at z; cases z) (.lst (.lst upd_same ((rr2.append (.cons r2 .nil)).keep (keeps_at iN) (Longer.refl _))))
            exact q3 _ _ _ R3 S3.toStepS
          · exact q3.elim⟩
theorem sw_ext (ho : PEW X Wx o so) (ha : PEW X Wx a sa)
    (hbase : attributeBase o "extend" X.env (eval o X.env) = eval o X.env)
    (hfew : ((backTo cpos (starEach [a] X.env)).all (fun x => !x.1) && (backToKw cpos (keywordEach [] X.env)).all (fun x => x.1.isSome) && decide (([a] : List Expr).length + ([] : List Keyword).length + (if ([] : List Keyword).isEmpty then 0 else 1) < 30)) = true)
    (hline : (apos.endLine == cpos.line) = true) (hs : starEach [a] X.env = (false, eval a X.env) :: starEach [] X.env) (hpl : (backTo cpos (starEach [] X.env)).any (·.1) = false) (hsw : swapsWith (.Call (.Attribute o "extend" apos) [a] [] cpos) none pos.line X.env = pure false) :
    PSW X Wx (.Expr (.Call (.Attribute o "extend" apos) [a] [] cpos) pos) (kExt so sa) :=
  PS.weak (ps_expr (pe_bm PySem.F.plainAttrs_list PySem.F.slot_list_extend PySem.F.type_list_extend mt_extend ho (pw_cons ha pw_nil hs) hbase hfew hline hs hpl) hsw) fun D σ H ⟨G, env, h, R, q⟩ => ⟨G, env, h, R, (PostS.out (rel := rW X.K) q).mono fun u H1 ⟨w, h1, mu1, R1, S1, r1, q1⟩ => by
    cases eh : heapL w h1 with
    | none => rw [eh] at q1; exact q1.elim
    | some nw =>
      rw [eh] at q1
      obtain ⟨n, ws⟩ := nw
      obtain ⟨rfl, e1⟩ := heapL_some eh
      obtain ⟨b, rfl, m⟩ := r1.inv_ref
      obtain ⟨xs, e2, rr⟩ := R1.hlst e1 m
      refine ⟨.inl ⟨rfl, xs, SqL.of e2⟩, _, env, h1, R1, ?_⟩
      have q2 : PostR X.K (G.at mu1) env σ H1 Wx (rW X.K) (fun v H2 => ∃ y h2 mu2, Rel X.K (G.at mu2) env h2 σ H2 ∧ Step (G.at mu1) H1 (G.at mu2) H2 ∧ RW X.K mu2 (G.at mu2).N H2 y v ∧ PostS X.K (G.at mu2) H2 Wx D (extAt (.ref n) y env h2)) (sa env h1) := PostS.out q1
      refine (show PostR X.K (G.at mu1) env σ H1 Wx (rWs X.K) _ ((sa env h1).bind fun x h => .ok [x] h) from ?_)
      generalize sa env h1 = r at q2
      cases r with
      | ex c q h => exact q2
      | bad => exact q2
      | ok y0 h0 =>
        intro vs mu' H' R' S' rs
        obtain ⟨v, r', rfl, rx, rn⟩ := RWs.inv_cons rs
        cases RWs.inv_nil rn
        obtain ⟨y, h2, mu2, R2, S2, r2, q3⟩ := q2 v mu' H' R' S' rx
        unfold extAt at q3
        cases eh2 : heapL (.ref n) h2 with
        | none => rw [eh2] at q3; exact q3.elim
        | some nw2 =>
          rw [eh2] at q3
          obtain ⟨n2, ws2⟩ := nw2
          obtain ⟨e3, e4⟩ := heapL_some eh2
          cases e3
          have m2 : mu2[n]? = some b := S2.mu n b m
          obtain ⟨xs2, e5, rr2⟩ := R2.hlst e4 m2
          dsimp only at q3
          cases y with
          | lst zs =>
            dsimp only at q3
            obtain ⟨d, ys, rfl, la, ry⟩ := r2.inv_lst
            split at q3
            · rename_i hz
              refine ⟨b, d, xs2, ys, rfl, rfl, e5, la.1, by rw [← rr2.length, ← ry.length]; exact le_line hz, ?_⟩
              have iN : (G.at mu2).N b := .inr (.inl (List.mem_of_getElem? m2))
              obtain ⟨R3, S3⟩ := R2.objput (n := n) (ho := .lst (xs2 ++ ys)) (ob := .lst (ws2 ++ zs)) m2 (fun _ _ z => by rw [e5] at z; cases z) (.lst (.lst upd_same ((rr2.append ry).keep (keeps_at iN) (Longer.refl _))))
              exact q3 _ _ _ R3 S3.toStepS
            · exact q3.elim
          | _ => exact False.elim q3⟩
/-! o[k] = v -/
theorem intP_some {n : Nat} {kv : W} {pl : Nat} (e : intP n kv = some pl) : ∃ j, kv = .int j ∧ place n j = some pl := by
  unfold intP at e
  cases kv with
  | int j => exact ⟨j, rfl, e⟩
  | _ => cases e
theorem sw_ixOL {kx : Expr} (hN : X.N[i]? = some x) (hv : Vis X.env.scope x) (hd : (x == ("__debug__" : Str)) = false) (hcd : (x == ("__classdict__" : Str)) = false) (hk : PET X Wx kx sk) (he : PEW X Wx e sv)
    (hass : ∀ v, assign (.Subscript (.Name x p) kx pos') X.env v = (do
      let ov ← holding [v] (eval (.Name x p) X.env)
      let iv ← holding [v, ov] (eval kx X.env)
      standAt pos'
      holding [v, ov, iv] (setItem ov iv v)
      release [v, ov, iv] []))
    (hs : swapsWithSole [.Subscript (.Name x p) kx pos'] e pos.line X.env = pure false) (hw : swappedStores [.Subscript (.Name x p) kx pos'] e X.env = pure none) (h1 : (assignEach [.Subscript (.Name x p) kx pos'] X.env).map (·.2) = [assign (.Subscript (.Name x p) kx pos') X.env]) :
    PSW X Wx (.Assign [.Subscript (.Name x p) kx pos'] e pos) (kIxOL i sk sv) :=
  PS.weak (ps_asg he (pg_sub (pe_var hN hv hd hcd) hk set_list hass) hs hw h1) fun D σ H ⟨G, env, h, R, q⟩ => by
    have q' : PostS X.K G H Wx D (match slotL i env with
      | some ws => (sv env h).out env fun y h => (sk env h).out env fun kv h => (match intP ws.length kv with
        | some p => .nx (env.set i (some (true, .lst (ws.set p y)))) h
        | none => .bad)
      | none => .bad) := q
    cases es : slotL i env with
    | none => rw [es] at q'; exact q'.elim
    | some ws =>
      rw [es] at q'
      have ei := slotL_some es
      refine ⟨G, env, h, R, (PostS.out (rel := rW X.K) q').mono fun v H1 ⟨y, h1, mu1, R1, S1, r1, q1⟩ => ?_⟩
      obtain ⟨b, e0, e1, rc⟩ := R1.own i _ ei
      refine ⟨.ref b, e1, _, env, h1, R1, (PostS.out (rel := rT X.K) q1).mono fun u H2 ⟨kv, h2, mu2, R2, S2, r2, q2⟩ => ?_⟩
      obtain ⟨b2, e02, _, rc2⟩ := R2.own i _ ei
      have eb : b = b2 := Option.some.inj (e0.symm.trans e02)
      subst eb
      cases rc2 with
      | lst eh rr =>
        rename_i xs
        cases ep : intP ws.length kv with
        | none => rw [ep] at q2; exact q2.elim
        | some pl =>
          rw [ep] at q2
          obtain ⟨j, rfl, epl⟩ := intP_some ep
          have iN : (G.at mu2).N b := .inr (.inr ⟨i, e0⟩)
          obtain ⟨R3, S3⟩ := R2.ownput (i := i) (a := b) (ho := .lst (xs.set pl v)) (w' := .lst (ws.set pl y)) e0 ei (.lst upd_same ((rr.set (r1.step S2.toStepS) pl).keep (keeps_at iN) (Longer.refl _)))
          exact ⟨b, xs, j, pl, rfl, RT.inv_int R2 r2, eh, by rw [← rr.length]; exact epl, q2 _ _ _ R3 S3⟩
theorem sw_ixOD {kx : Expr} (hu : X.A.units + 1 < cLine) (hN : X.N[i]? = some x) (hv : Vis X.env.scope x) (hd : (x == ("__debug__" : Str)) = false) (hcd : (x == ("__classdict__" : Str)) = false) (hk : PET X Wx kx sk) (he : PEW X Wx e sv)
    (hs : swapsWith e (some (.Subscript (.Name x p) kx pos')) pos.line X.env = pure false) : PSW X Wx (.Assign [.Subscript (.Name x p) kx pos'] e pos) (kIxOD i sk sv) :=
  PS.weak (ps_dput hu (pe_var hN hv hd hcd) hk he hs) fun D σ H ⟨G, env, h, R, q⟩ => by
    have q' : PostS X.K G H Wx D (match slotD i env with
      | some kvs => (sv env h).out env fun y h => (sk env h).out env fun kv h => if keyW kv && Nat.blt kvs.length line then .nx (env.set i (some (true, .dct (MP.putK kv y kvs)))) h else .bad
      | none => .bad) := q
    cases es : slotD i env with
    | none => rw [es] at q'; exact q'.elim
    | some kvs =>
      rw [es] at q'
      have ei := slotD_some es
      refine ⟨G, env, h, R, (PostS.out (rel := rW X.K) q').mono fun v H1 ⟨y, h1, mu1, R1, S1, r1, q1⟩ => ?_⟩
      obtain ⟨b, e0, e1, rc⟩ := R1.own i _ ei
      refine ⟨.ref b, e1, _, env, h1, R1, (PostS.out (rel := rT X.K) q1).mono fun u H2 ⟨kv, h2, mu2, R2, S2, r2, q2⟩ => ?_⟩
      obtain ⟨b2, e02, _, rc2⟩ := R2.own i _ ei
      have eb : b = b2 := Option.some.inj (e0.symm.trans e02)
      subst eb
      split at q2
      · rename_i hz
        rw [Bool.and_eq_true] at hz
        obtain ⟨key, rfl, rfl⟩ := wKey_of R2 r2 hz.1
        cases rc2.dat with
        | @dK ks us eh rr =>
          obtain ⟨us', e5, r5⟩ := put_rel (k := key) (r1.step S2.toStepS) rr
          have iN : (G.at mu2).N b := .inr (.inr ⟨i, e0⟩)
          have hl : us.length = ks.length := by rw [rr.length, List.length_map]
          have hz2 := lt_line hz.2
          rw [zip_len hl] at hz2
          rw [e5] at q2
          obtain ⟨R3, S3⟩ := R2.ownput (i := i) (a := b) (ho := .dK (L2.putK ks key v)) e0 ei (.dK upd_same (r5.keep (keeps_at iN) (Longer.refl _)))
          exact ⟨b, _, rfl, DPut.k eh hz2, q2 _ _ _ R3 S3⟩
      · exact q2.elim
theorem sw_ixL {kx : Expr} (ho : PET X Wx o so) (hk : PET X Wx kx sk) (he : PEW X Wx e sv)
    (hass : ∀ v, assign (.Subscript o kx pos') X.env v = (do
      let ov ← holding [v] (eval o X.env)
      let iv ← holding [v, ov] (eval kx X.env)
      standAt pos'
      holding [v, ov, iv] (setItem ov iv v)
      release [v, ov, iv] []))
    (hs : swapsWithSole [.Subscript o kx pos'] e pos.line X.env = pure false) (hw : swappedStores [.Subscript o kx pos'] e X.env = pure none) (h1 : (assignEach [.Subscript o kx pos'] X.env).map (·.2) = [assign (.Subscript o kx pos') X.env]) :
    PSW X Wx (.Assign [.Subscript o kx pos'] e pos) (kIxL so sk sv) :=
  PS.weak (ps_asg he (pg_sub ho hk set_list hass) hs hw h1) fun D σ H ⟨G, env, h, R, q⟩ => ⟨G, env, h, R, (PostS.out (rel := rW X.K) q).mono fun v H1 ⟨y, h1, mu1, R1, S1, r1, q1⟩ =>
    ⟨_, env, h1, R1, (PostS.out (rel := rT X.K) q1).mono fun ov H2 ⟨x, h2, mu2, R2, S2, r2, q2⟩ => ⟨_, env, h2, R2, (PostS.out (rel := rT X.K) q2).mono fun u H3 ⟨kv, h3, mu3, R3, S3, r3, q3⟩ => by
      unfold setAtL at q3
      cases eh : heapL x h3 with
      | none => rw [eh] at q3; exact q3.elim
      | some nw =>
        rw [eh] at q3
        obtain ⟨n, ws⟩ := nw
        obtain ⟨rfl, e1⟩ := heapL_some eh
        dsimp only at q3
        cases ep : intP ws.length kv with
        | none => rw [ep] at q3; exact q3.elim
        | some pl =>
          rw [ep] at q3
          obtain ⟨j, rfl, epl⟩ := intP_some ep
          obtain ⟨b, rfl, m⟩ := RT.inv_ref R3 (r2.step S3 R3)
          obtain ⟨xs, e2, rr⟩ := R3.hlst e1 m
          have iN : (G.at mu3).N b := .inr (.inl (List.mem_of_getElem? m))
          obtain ⟨R4, S4⟩ := R3.objput (n := n) (ho := .lst (xs.set pl v)) (ob := .lst (ws.set pl y)) m (fun _ _ z => by rw [e2] at z; cases z) (.lst (.lst upd_same ((rr.set ((r1.step S2.toStepS).step S3.toStepS) pl).keep (keeps_at iN) (Longer.refl _))))
          exact ⟨b, xs, j, pl, rfl, RT.inv_int R3 r3, e2, by rw [← rr.length]; exact epl, q3 _ _ _ R4 S4.toStepS⟩⟩⟩⟩
theorem sw_ixD {kx : Expr} (hu : X.A.units + 1 < cLine) (ho : PET X Wx o so) (hk : PET X Wx kx sk) (he : PEW X Wx e sv)
    (hs : swapsWith e (some (.Subscript o kx pos')) pos.line X.env = pure false) : PSW X Wx (.Assign [.Subscript o kx pos'] e pos) (kIxD so sk sv) :=
  PS.weak (ps_dput hu ho hk he hs) fun D σ H ⟨G, env, h, R, q⟩ => ⟨G, env, h, R, (PostS.out (rel := rW X.K) q).mono fun v H1 ⟨y, h1, mu1, R1, S1, r1, q1⟩ =>
    ⟨_, env, h1, R1, (PostS.out (rel := rT X.K) q1).mono fun ov H2 ⟨x, h2, mu2, R2, S2, r2, q2⟩ => ⟨_, env, h2, R2, (PostS.out (rel := rT X.K) q2).mono fun u H3 ⟨kv, h3, mu3, R3, S3, r3, q3⟩ => by
      unfold setAtD at q3
      cases eh : heapD x h3 with
      | none => rw [eh] at q3; exact q3.elim
      | some nw =>
        rw [eh] at q3
        obtain ⟨n, kvs⟩ := nw
        obtain ⟨rfl, e1⟩ := heapD_some eh
        dsimp only at q3
        split at q3
        · rename_i hz
          rw [Bool.and_eq_true] at hz
          obtain ⟨key, rfl, rfl⟩ := wKey_of R3 r3 hz.1
          obtain ⟨b, rfl, m⟩ := RT.inv_ref R3 (r2.step S3 R3)
          cases R3.hdct e1 m with
          | @dK ks us eD rr =>
            obtain ⟨us', e5, r5⟩ := put_rel (k := key) ((r1.step S2.toStepS).step S3.toStepS) rr
            have iN : (G.at mu3).N b := .inr (.inl (List.mem_of_getElem? m))
            have hl : us.length = ks.length := by rw [rr.length, List.length_map]
            have hz2 := lt_line hz.2
            rw [zip_len hl] at hz2
            rw [e5] at q3
            obtain ⟨R4, S4⟩ := R3.objput (n := n) (ho := .dK (L2.putK ks key v)) m (fun _ _ z => by rw [eD] at z; cases z) (.dct (.dK upd_same (r5.keep (keeps_at iN) (Longer.refl _))))
            exact ⟨b, _, rfl, DPut.k eD hz2, q3 _ _ _ R4 S4.toStepS⟩
        · exact q3.elim⟩⟩⟩
/-! loops -/
theorem sw_for {sl : List Nat} {g : Tg} {si : SI} (hp : PassesOwn (model X.prog X.w) X.A X.env X.xe) (hc : X.calm = true) (hi : PIS X Wx tg iter si) (hg : PGW X tg sl g) (hb : PSsW X Wx body k) (hs : ∀ x, foldedSetIterable iter X.env x = pure x) : PSW X Wx (.For tg iter body [] pos) (kFor si g k) :=
  PS.weak (ps_for hp hc hi hg hb hs) fun D σ H ⟨G, env, h, R, q⟩ => ⟨G, env, h, R, (PostS.out (rel := riS X.K) q).mono fun J H1 ⟨ws, h1, mu1, R1, S1, its, q1⟩ => by
    refine ⟨fun i m σ H => m + i = ws.length ∧ ∃ G' env' h', Rel X.K G' env' h' σ H ∧ StepS (G.at mu1) H1 G' H ∧ PostS X.K G' H Wx D (forL g k (ws.drop i) env' h'), ⟨ws.length, rfl, _, env, h1, R1, StepS.refl _ _, q1⟩, ?_⟩
    rintro i m σ' H' ⟨hm, G', env', h', R', S', q'⟩
    by_cases hi : i < ws.length
    · refine .inr ⟨its.go i _ H' S'.keepN hi, fun σ H => (m - 1) + (i + 1) = ws.length ∧ ∃ G' env' h', Rel X.K G' env' h' σ H ∧ StepS (G.at mu1) H1 G' H ∧ PostS X.K G' H Wx D (forL g k (ws.drop (i + 1)) env' h'), fun σ2 H2 z => ⟨m - 1, by omega, z⟩, fun x H2 y => ?_⟩
      have ew : ws[i]? = some ws[i] := by simp [hi]
      obtain ⟨ext, rx⟩ := its.yld i G'.mu _ H' x H2 ws[i] S'.keepN (fun b => R'.there) S'.mu ew y
      rw [List.drop_eq_getElem_cons hi] at q'
      have R2 : Rel X.K G' env' h' σ' H2 := R'.ext ext
      have S2 : StepS G' H' G' H2 := (Step.ext R' ext).toStepS
      have q2 : PostS X.K G' H2 Wx D (match g ws[i] env' with
        | none => .bad
        | some e => match k e h' with
          | .nx e h => forL g k (ws.drop (i + 1)) e h
          | .ct e h => forL g k (ws.drop (i + 1)) e h
          | .br e h => .nx e h
          | o => o) := PostS.later q' S2
      cases eg : g ws[i] env' with
      | none => rw [eg] at q2; exact q2.elim
      | some env2 =>
        rw [eg] at q2
        dsimp only at q2
        refine ⟨G', env', h', ws[i], R2, rx, env2, eg, fun σ3 R3 _ _ => ⟨G', env2, h', R3, ?_⟩⟩
        have S02 := S'.trans S2
        cases ek : k env2 h' with
        | nx e h => rw [ek] at q2; exact fun G4 σ4 H4 R4 S4 => ⟨by omega, G4, e, h, R4, S02.trans S4, q2.later S4⟩
        | ct e h => rw [ek] at q2; exact fun G4 σ4 H4 R4 S4 => ⟨by omega, G4, e, h, R4, S02.trans S4, q2.later S4⟩
        | br e h => rw [ek] at q2; exact fun G4 σ4 H4 R4 S4 => q2 G4 σ4 H4 R4 S4
        | rt w h => rw [ek] at q2; exact q2
        | ex c p e h => rw [ek] at q2; exact q2
        | bad => rw [ek] at q2; exact q2
    · have hd : ws.drop i = [] := List.drop_eq_nil_of_le (by omega)
      rw [hd] at q'
      exact .inl ⟨its.stop i _ H' S'.keepN (by omega), PostS.nx (env := env') (h := h') q' R'⟩⟩
theorem sw_while {fuel : Nat} (hp : PassesOwn (model X.prog X.w) X.A X.env X.xe) (hc : PTW X Wx c t) (hb : PSsW X Wx body k) : PSW X Wx (.While c body [] pos) (kWhile fuel t k) :=
  PS.weak (ps_while hp hc hb) fun D σ H ⟨G, env, h, R, q⟩ => by
    refine ⟨fun m σ H => ∃ G env h, Rel X.K G env h σ H ∧ PostS X.K G H Wx D (whileL t k m env h), ⟨fuel, G, env, h, R, q⟩, ?_⟩
    rintro m σ1 H1 ⟨G1, env1, h1, R1, q1⟩
    cases m with
    | zero => exact q1.elim
    | succ m =>
      have q1' : PostS X.K G1 H1 Wx D ((t env1 h1).out env1 fun c h => if c = true then (match k env1 h with
        | .nx e h => whileL t k m e h
        | .ct e h => whileL t k m e h
        | .br e h => .nx e h
        | o => o) else .nx env1 h) := q1
      refine ⟨G1, env1, h1, R1, (PostS.out (rel := rB) q1').mono fun b H2 ⟨b', h2, mu2, R2, S2, eb, q2⟩ => ?_⟩
      have eb' : b' = b := eb
      subst eb'
      cases b' with
      | false => exact PostS.nx q2 R2
      | true =>
        rw [if_pos rfl]
        rw [if_pos rfl] at q2
        refine ⟨fun σ H => ∃ G env h, Rel X.K G env h σ H ∧ PostS X.K G H Wx D (whileL t k m env h), fun σ' H' z => ⟨m, Nat.lt_succ_self m, z⟩, _, env1, h2, R2, ?_⟩
        cases ek : k env1 h2 with
        | nx e h => rw [ek] at q2; exact fun G4 σ4 H4 R4 S4 => ⟨G4, e, h, R4, q2.later S4⟩
        | ct e h => rw [ek] at q2; exact fun G4 σ4 H4 R4 S4 => ⟨G4, e, h, R4, q2.later S4⟩
        | br e h => rw [ek] at q2; exact fun G4 σ4 H4 R4 S4 => q2 G4 σ4 H4 R4 S4
        | rt w h => rw [ek] at q2; exact q2
        | ex c p e h => rw [ek] at q2; exact q2
        | bad => rw [ek] at q2; exact q2
end
end MP
end

section
set_option Elab.async false
set_option linter.all false
set_option maxRecDepth 100000
set_option autoImplicit false
/-! MP14: from a def's body to its promise. -/
namespace MP
open PySem PySem.Spec PyProof.Rows L2
/-! ### what a callee lays is forgotten -/
section
variable {K : PySem.W.Frag} {mu mu2 : List Addr} {N N2 : Addr → Prop} {H : Hp} {n : Nat}
/-- the first n stay -/
def Upto (n : Nat) (mu mu2 : List Addr) : Prop := ∀ (m : Nat) (a : Addr), m < n → mu[m]? = some a → mu2[m]? = some a
theorem blt_lt {m n : Nat} (h : Nat.blt m n = true) : m < n := Nat.le_of_ble_eq_true h
theorem cleanKv_ws : ∀ {kvs : List (Key × V)} {ws : List W}, ws.length = kvs.length → cleanKv n ((kvs.map fun p => wKey p.1).zip ws) = true → cleanWs n ws = true
  | [], [], _, _ => rfl
  | _ :: kvs, w :: ws, hl, e => Bool.and_eq_true_iff.mpr ⟨(Bool.and_eq_true_iff.mp (Bool.and_eq_true_iff.mp e).1).2, cleanKv_ws (kvs := kvs) (by simpa using hl) (Bool.and_eq_true_iff.mp e).2⟩
  | [], _ :: _, hl, _ => nomatch hl
  | _ :: _, [], hl, _ => nomatch hl
theorem rws_len {kvs : List (Key × V)} {ws : List W} (r : RWs K mu N H ws (kvs.map (·.2))) : ws.length = kvs.length := by rw [r.length, List.length_map]
mutual
theorem RW.clean (k : Keeps N H N2 H) (u : Upto n mu mu2) : ∀ {w : W} {v : V}, RW K mu N H w v → cleanW n w = true → RW K mu2 N2 H w v
  | _, _, .non, _ => .non
  | _, _, .bl b, _ => .bl b
  | _, _, .int i, _ => .int i
  | _, _, .str s, _ => .str s
  | _, _, .tup t r, e => .tup (t.keep k) (RWs.clean k u r e)
  | _, _, .lst t r, e => .lst (k _ _ t.1 t.2) (RWs.clean k u r e)
  | _, _, .scr t, e => .scr (t.keep k)
  | _, _, .dK h m r, e => .dK (k _ _ h m).1 (k _ _ h m).2 (RWs.clean k u r (cleanKv_ws (rws_len r) e))
  | _, _, .ref h, e => .ref (u _ _ (blt_lt e) h)
theorem RWs.clean (k : Keeps N H N2 H) (u : Upto n mu mu2) : ∀ {ws : List W} {vs : List V}, RWs K mu N H ws vs → cleanWs n ws = true → RWs K mu2 N2 H ws vs
  | _, _, .nil, _ => .nil
  | _, _, .cons r t, e => .cons (RW.clean k u r (Bool.and_eq_true_iff.mp e).1) (RWs.clean k u t (Bool.and_eq_true_iff.mp e).2)
end
theorem RFs.clean (k : Keeps N H N2 H) (u : Upto n mu mu2) : ∀ {fs : List (Nm × W)} {gs : List (Str × V)}, RFs K mu N H fs gs → cleanF n fs = true → RFs K mu2 N2 H fs gs
  | _, _, .nil, _ => .nil
  | _, _, .cons r t, e => .cons (RW.clean k u r (Bool.and_eq_true_iff.mp e).1) (RFs.clean k u t (Bool.and_eq_true_iff.mp e).2)
theorem RC.clean (k : Keeps N H N2 H) (u : Upto n mu mu2) {a : Addr} {w : W} (r : RC K mu N H a w) (e : cleanW n w = true) : RC K mu2 N2 H a w := by
  cases r with
  | lst h r => exact .lst h (RWs.clean k u r e)
  | dK h r => exact .dK h (RWs.clean k u r (cleanKv_ws (rws_len r) e))
theorem RO.clean (k : Keeps N H N2 H) (u : Upto n mu mu2) {a : Addr} {o : O} (r : RO K mu N H a o) (e : cleanO n o = true) : RO K mu2 N2 H a o := by
  cases r with
  | lst c => exact .lst (c.clean k u e)
  | dct c => exact .dct (c.clean k u e)
  | ins h r => exact .ins h (r.clean k u e)
  | opq h => exact .opq h
theorem cleanH_get : ∀ {h : Hea} {m : Nat} {o : O}, cleanH n h = true → h[m]? = some o → cleanO n o = true
  | [], m, o, _, e => by simp at e
  | x :: h, 0, o, c, e => by
    simp at e
    subst e
    exact (Bool.and_eq_true_iff.mp c).1
  | x :: h, m + 1, o, c, e => cleanH_get (h := h) (m := m) (Bool.and_eq_true_iff.mp c).2 (by simpa using e)
end
section
variable {K : PySem.W.Frag} {G : Gh} {h : Hea} {H : Hp} {n : Nat}
/-- a bare frame's ghost with fewer objects -/
theorem cut_keeps (o : ∀ i, G.own i = none) : Keeps G.N H (G.at (G.mu.take n)).N H := fun a ob e q => ⟨e, fun z => q (by
  rcases z with z | z | ⟨i, z⟩
  · exact .inl z
  · exact .inr (.inl (List.mem_of_mem_take z))
  · exact .inr (.inr ⟨i, z⟩))⟩
theorem cut_upto : Upto n G.mu (G.mu.take n) := fun m a hm e => by
  rw [List.getElem?_take, if_pos hm]
  exact e
theorem Rel.cut (R : Rel K G [] h [] H) (o : ∀ i, G.own i = none) (hn : n ≤ h.length) (c : cleanH n (h.take n) = true) : Rel K (G.at (G.mu.take n)) [] (h.take n) [] H where
  len := rfl
  val := fun i w e => by simp at e
  own := fun i w e => by simp at e
  hp := by
    refine ⟨by show (h.take n).length = (G.mu.take n).length; rw [List.length_take, List.length_take, R.hp.len], fun m ob a e1 e2 => ?_, ?_⟩
    · have e1' := e1
      rw [List.getElem?_take] at e1'
      have e2' : (G.mu.take n)[m]? = some a := e2
      rw [List.getElem?_take] at e2'
      by_cases q : m < n
      · rw [if_pos q] at e1' e2'
        exact (R.hp.obj m ob a e1' e2').clean (cut_keeps o) cut_upto (cleanH_get c e1)
      · rw [if_neg q] at e1'
        cases e1'
    · exact R.hp.nd.sublist (List.take_sublist n G.mu)
  oi := fun i j a e => by
    have e' : G.own i = some a := e
    rw [o i] at e'
    cases e'
  om := fun i a e => by
    have e' : G.own i = some a := e
    rw [o i] at e'
    cases e'
  mn := fun a m => R.mn a (List.mem_of_mem_take m)
  nn := R.nn
mutual
theorem RW.settle (R : Rel K G [] h [] H) (o : ∀ i, G.own i = none) : ∀ {w w' : W} {v : V}, RW K G.mu G.N H w v → settle n h w = some w' → RW K (G.mu.take n) (G.at (G.mu.take n)).N H w' v
  | _, _, _, .non, e => by cases e; exact .non
  | _, _, _, .bl b, e => by cases e; exact .bl b
  | _, _, _, .int b, e => by cases e; exact .int b
  | _, _, _, .str b, e => by cases e; exact .str b
  | _, _, _, .tup (ws := ws) t r, e => by
    have e' : (settles n h ws).map W.tup = some _ := e
    cases q : settles n h ws with
    | none => rw [q] at e'; cases e'
    | some ws' =>
      rw [q] at e'
      cases e'
      exact .tup (t.keep (cut_keeps o)) (RWs.settle R o r q)
  | _, _, _, .lst (ws := ws) t r, e => by
    have e' : (settles n h ws).map W.lst = some _ := e
    cases q : settles n h ws with
    | none => rw [q] at e'; cases e'
    | some ws' =>
      rw [q] at e'
      cases e'
      exact .lst (cut_keeps o _ _ t.1 t.2) (RWs.settle R o r q)
  | _, _, _, .scr t, e => by
    cases e
    exact .scr (t.keep (cut_keeps o))
  | _, _, _, .dK (kvs := kvs) (ws := ws) t m r, e => by
    have e' : (if cleanKv n ((kvs.map fun p => wKey p.1).zip ws) then some (W.dct ((kvs.map fun p => wKey p.1).zip ws)) else none) = some _ := e
    split at e'
    · rename_i q
      cases e'
      exact .dK (cut_keeps (n := n) o _ _ t m).1 (cut_keeps (n := n) o _ _ t m).2 (RWs.clean (cut_keeps o) cut_upto r (cleanKv_ws (rws_len r) q))
    · cases e'
  | _, _, _, .ref (n := m) (a := a) hm, e => by
    have e' : (if Nat.blt m n then some (W.ref m) else match h[m]? with
      | some (.lst ws) => if cleanWs n ws then some (W.lst ws) else none
      | _ => none) = some _ := e
    split at e'
    · rename_i q
      cases e'
      exact .ref (cut_upto m a (blt_lt q) hm)
    · rename_i q
      cases z : h[m]? with
      | none => rw [z] at e'; cases e'
      | some ob =>
        rw [z] at e'
        cases ob with
        | lst ws =>
          have e2 : (if cleanWs n ws then some (W.lst ws) else none) = some _ := e'
          split at e2
          · rename_i c
            cases e2
            obtain ⟨xs, ea, rr⟩ : ∃ xs, H a = some (.lst xs) ∧ RWs K G.mu G.N H ws xs := by
              cases R.hp.obj m _ a z hm with
              | lst c => cases c with
                | lst e r => exact ⟨_, e, r⟩
            refine .lst ⟨ea, fun y => ?_⟩ (RWs.clean (cut_keeps o) cut_upto rr c)
            rcases y with y | y | ⟨i, y⟩
            · exact R.mn a (List.mem_of_getElem? hm) y
            · have y' : a ∈ G.mu.take n := y
              obtain ⟨j, hj, ej⟩ := List.mem_iff_getElem.mp y'
              rw [List.getElem_take] at ej
              obtain ⟨k1, k2⟩ := List.getElem?_eq_some_iff.mp hm
              have := (List.getElem_inj R.hp.nd).mp (ej.trans k2.symm)
              rw [List.length_take] at hj
              have q' : ¬ m < n := fun w => q (Nat.ble_eq_true_of_le w)
              omega
            · have y' : G.own i = some a := y
              rw [o i] at y'
              cases y'
          · cases e2
        | _ => cases e'
theorem RWs.settle (R : Rel K G [] h [] H) (o : ∀ i, G.own i = none) : ∀ {ws ws' : List W} {vs : List V}, RWs K G.mu G.N H ws vs → settles n h ws = some ws' → RWs K (G.mu.take n) (G.at (G.mu.take n)).N H ws' vs
  | _, _, _, .nil, e => by cases e; exact .nil
  | _, _, _, .cons (w := w) (ws := ws) r t, e => by
    have e' : (match MP.settle n h w with
      | some y => (settles n h ws).map (y :: ·)
      | none => none) = some _ := e
    cases q : MP.settle n h w with
    | none => rw [q] at e'; cases e'
    | some y =>
      rw [q] at e'
      cases z : settles n h ws with
      | none =>
        have e2 : (settles n h ws).map (y :: ·) = some _ := e'
        rw [z] at e2
        cases e2
      | some ys =>
        have e2 : (settles n h ws).map (y :: ·) = some _ := e'
        rw [z] at e2
        cases e2
        exact .cons (RW.settle R o r q) (RWs.settle R o t z)
end
end
section
variable {K : PySem.W.Frag} {G G1 : Gh} {h h1 : Hea} {H H1 : Hp} {Q : VK} {E : XK}
theorem at_bare (o : ∀ i, G.own i = none) (S : StepS G H G1 H1) : G.at G1.mu = G1.bare := by
  obtain ⟨n0, mu, own⟩ := G
  obtain ⟨n1, mu1, own1⟩ := G1
  have e : n1 = n0 := S.n0
  have eo : own = fun _ => none := funext o
  subst e
  subst eo
  rfl
theorem step_bare (o : ∀ i, G.own i = none) (S : StepS G H G1 H1) : Step G H (G.at G1.mu) H1 := by
  rw [at_bare o S]
  exact ⟨S.bare, funext fun i => (o i).symm, fun i a e => by rw [o i] at e; cases e⟩
/-- fewer objects, the same heap -/
theorem step_cut {n : Nat} {mu1 : List Addr} (o : ∀ i, G.own i = none) (S : Step G H (G.at mu1) H1) (hn : G.mu.length ≤ n) : Step G H (G.at (mu1.take n)) H1 := by
  refine ⟨⟨fun a ob e q => ⟨(S.keep a ob e q).1, fun z => (S.keep a ob e q).2 ?_⟩, fun m a e => ?_, rfl, S.fz⟩, rfl, S.oc⟩
  · rcases z with z | z
    · exact .inl (List.mem_of_mem_take z)
    · exact .inr z
  · have hm : m < G.mu.length := (List.getElem?_eq_some_iff.mp e).1
    show (mu1.take n)[m]? = some a
    rw [List.getElem?_take, if_pos (by omega)]
    exact S.mu m a e
theorem mu_le (S : Longer G.mu G1.mu) : G.mu.length ≤ G1.mu.length := by
  cases q : G.mu.length with
  | zero => exact Nat.zero_le _
  | succ k =>
    have e : G.mu[k]? = some (G.mu[k]'(by omega)) := List.getElem?_eq_getElem (by omega)
    have := (List.getElem?_eq_some_iff.mp (S k _ e)).1
    omega
/-- a body's way out by return is the call's -/
theorem ends_ok {keep : Bool} {w : W} {v : V} (R0 : Rel K G [] h [] H) (o : ∀ i, G.own i = none) (R1 : Rel K G1 [] h1 [] H1) (o1 : ∀ i, G1.own i = none) (S : StepS G H G1 H1) (r : RW K G1.mu G1.N H1 w v)
    (p : PostR K G [] [] H (fun cls d _ H' => E cls d H') (rW K) Q (ends keep h.length w h1)) : Q v H1 := by
  have eb : G1 = G1.bare := by
    obtain ⟨n1, mu1, own1⟩ := G1
    have eo : own1 = fun _ => none := funext o1
    subst eo
    rfl
  have ea : G.at G1.mu = G1 := (at_bare o S).trans eb.symm
  unfold ends at p
  cases keep with
  | true => exact p v G1.mu H1 (by rw [ea]; exact R1) (step_bare o S) (by rw [ea]; exact r)
  | false =>
    rw [if_neg Bool.false_ne_true] at p
    cases q : settle h.length h1 w with
    | none => rw [q] at p; exact p.elim
    | some w' =>
      rw [q] at p
      dsimp only at p
      split at p
      · rename_i c
        have hl : G.mu.length = h.length := R0.hp.len.symm
        have hle : h.length ≤ h1.length := by
          have := mu_le S.mu
          rw [← R1.hp.len] at this
          omega
        have ea1 : (G.at G1.mu).at (G1.mu.take h.length) = G1.at (G1.mu.take h.length) := by rw [ea]
        have ea2 : G.at (G1.mu.take h.length) = G1.at (G1.mu.take h.length) := ea1
        refine p v (G1.mu.take h.length) H1 ?_ (step_cut o (step_bare o S) (by omega)) ?_
        · rw [ea2]
          exact R1.cut o1 hle c
        · show RW K (G1.mu.take h.length) (G.at (G1.mu.take h.length)).N H1 w' v
          rw [ea2]
          exact RW.settle R1 o1 r q
      · exact p.elim
end
/-! ### a def's promise -/
theorem starts_at (n : Nat) (ws : List W) (i : Nat) (b : Bool) (w : W) (e : (starts n ws)[i]? = some (some (b, w))) : b = false ∧ ws[i]? = some w := by
  unfold starts at e
  by_cases q : i < ws.length
  · rw [List.getElem?_append_left (by rw [List.length_map]; exact q), List.getElem?_map, List.getElem?_eq_getElem q] at e
    have e2 : (false, ws[i]) = (b, w) := by simpa using e
    cases e2
    exact ⟨rfl, List.getElem?_eq_getElem q⟩
  · rw [List.getElem?_append_right (by rw [List.length_map]; omega), List.getElem?_replicate] at e
    split at e <;> cases e
theorem start_at {N : List Str} {vs : List V} {i : Nat} {v : V} (e : vs[i]? = some v) : (L2.start N vs)[i]? = some (some v) := by
  unfold L2.start
  have hi := (List.getElem?_eq_some_iff.mp e).1
  rw [List.getElem?_append_left (by rw [List.length_map]; exact hi), List.getElem?_map, e]
  rfl
theorem Rel.start {K : PySem.W.Frag} {G : Gh} {h : Hea} {H : Hp} {N : List Str} {ws : List W} {vs : List V} (R : Rel K G [] h [] H) (o : ∀ i, G.own i = none) (r : RWs K G.mu G.N H ws vs) (hz : vs.length ≤ N.length) : Rel K G (starts N.length ws) h (L2.start N vs) H where
  len := by
    unfold starts L2.start
    rw [List.length_append, List.length_append, List.length_map, List.length_map, List.length_replicate, List.length_replicate, r.length]
  val := fun i w e => by
    obtain ⟨_, e1⟩ := starts_at _ _ _ _ _ e
    obtain ⟨v, e2, r2⟩ := r.get e1
    exact ⟨v, start_at e2, r2⟩
  own := fun i w e => by
    obtain ⟨z, _⟩ := starts_at _ _ _ _ _ e
    cases z
  hp := R.hp
  oi := R.oi
  om := R.om
  mn := R.mn
  nn := R.nn
/-- the walk of a def's body is the def's promise -/
theorem fnok_step {P : Program} {w : World} {K : PySem.W.Frag} {mg : Str → Option Value} {base : Heap} {x qual : Str} {params : Arguments} {body : List Stmt} {scope : Scope} {a : Addr} {fd : FuncData} {N ps : List Str} {T : Nat → Option Df} {k f : Nat} {d : Df}
    (F : FunD K x qual params body scope [] [] a fd) (b : Binds K fd ps []) (S : FnScope N ps scope) (hT : T f = some d) (hs : d.slots = N.length) (hp : d.ps = ps.length)
    (walk : ∀ (cdv : Value) (A : Around) (outer : List PySem.Env) (s : Shared) (H : Hp) (E : XK), Room (2 * k + 1) (A.deeper (envOfC qual scope s.heap.objs.size a cdv)) →
      PSsW (cxOf (L2.CX P w) P w K mg base N qual scope a cdv A outer s H E) (fun cls d _ H => E cls d H) body (d.body (callF T k))) :
    FnOk P w K mg base (L2.CX P w) (2 * (k + 1)) a fd ps (spF K (callF T (k + 1)) f ps.length) := by
  refine FunD.ok (k := 2 * k + 1) F S (fun vs H Q E ⟨G, h, ws, o, hn, _⟩ => hn) fun cdv A outer s H vs Q E hr ⟨G, h, ws, o, hn, R, rs, q⟩ => ⟨_, walk cdv A outer s H E hr, ?_⟩
  have hl : ws.length = d.ps := by rw [rs.length, hn, hp]
  have q2 : PostR K G [] [] H (fun cls d _ H' => E cls d H') (rW K) Q (match d.body (callF T k) (starts d.slots ws) h with
    | .nx _ h' => ends d.keep h.length .non h'
    | .rt w h' => ends d.keep h.length w h'
    | .ex c p _ h' => if d.keep then .ex c p h' else (if cleanW h.length p && cleanH h.length (h'.take h.length) then .ex c p (h'.take h.length) else .bad)
    | _ => .bad) := by
    have e : callF T (k + 1) f ws h = (match T f with
      | some d => d.run (callF T k) ws h
      | none => .bad) := rfl
    rw [e, hT] at q
    have q' : PostR K G [] [] H (fun cls d _ H' => E cls d H') (rW K) Q (d.run (callF T k) ws h) := q
    unfold Df.run at q'
    rw [if_pos (by rw [hl]; simp)] at q'
    exact q'
  have hz : vs.length ≤ N.length := by
    rw [hn]
    have := congrArg List.length S.pre
    rw [List.length_take] at this
    omega
  refine ⟨G, starts N.length ws, h, R.start o rs hz, ?_⟩
  rw [← hs]
  cases eo : d.body (callF T k) (starts d.slots ws) h with
  | nx e h' =>
    rw [eo] at q2
    exact fun G' σ' H' R' S' => ends_ok R o R'.bare (fun _ => rfl) S'.bare .non q2
  | rt w h' =>
    rw [eo] at q2
    exact fun G' H' v R' o' S' r' => ends_ok R o R' o' S' r' q2
  | br e h' => rw [eo] at q2; exact q2.elim
  | ct e h' => rw [eo] at q2; exact q2.elim
  | bad => rw [eo] at q2; exact q2.elim
  | ex c p e h' =>
    rw [eo] at q2
    intro cls dx G' σ' H' R' S' ex
    have Rb := R'.bare
    have ea : G.at G'.mu = G'.bare := at_bare o S'
    dsimp only at q2
    have exb : EX K G'.bare H' c p cls dx := ⟨ex.1, by
      rcases ex.2 with z | ⟨dd, v, z1, z2, z3⟩
      · exact .inl z
      · exact .inr ⟨dd, v, z1, z2, z3.keep bare_keeps (Longer.refl _)⟩⟩
    split at q2
    · exact q2 cls dx G'.mu H' (by rw [ea]; exact Rb) (step_bare o S') (by rw [ea]; exact exb)
    · split at q2
      · rename_i c0 c
        rw [Bool.and_eq_true] at c
        have hl2 : G.mu.length = h.length := R.hp.len.symm
        have hle : h.length ≤ h'.length := by
          have := mu_le S'.mu
          rw [← R'.hp.len] at this
          omega
        have ea1 : (G.at G'.mu).at (G'.mu.take h.length) = G'.bare.at (G'.mu.take h.length) := by rw [ea]
        have ea2 : G.at (G'.mu.take h.length) = G'.bare.at (G'.mu.take h.length) := ea1
        refine q2 cls dx (G'.mu.take h.length) H' ?_ (step_cut o (step_bare o S') (by omega)) ?_
        · rw [ea2]
          exact Rb.cut (fun _ => rfl) hle c.2
        · rw [ea2]
          refine ⟨exb.1, ?_⟩
          rcases exb.2 with z | ⟨dd, v, z1, z2, z3⟩
          · exact .inl z
          · exact .inr ⟨dd, v, z1, z2, RW.clean (cut_keeps (G := G'.bare) fun _ => rfl) (cut_upto (G := G'.bare)) z3 c.1⟩
      · exact q2.elim
theorem fok_step {P : Program} {w : World} {K : PySem.W.Frag} {mg : Str → Option Value} {base : Heap} {x qual : Str} {params : Arguments} {body : List Stmt} {scope : Scope} {a : Addr} {fd : FuncData} {N ps : List Str} {T : Nat → Option Df} {k f : Nat} {d : Df}
    (F : FunD K x qual params body scope [] [] a fd) (b : Binds K fd ps []) (S : FnScope N ps scope) (hT : T f = some d) (hs : d.slots = N.length) (hp : d.ps = ps.length)
    (walk : ∀ (cdv : Value) (A : Around) (outer : List PySem.Env) (s : Shared) (H : Hp) (E : XK), Room (2 * k + 1) (A.deeper (envOfC qual scope s.heap.objs.size a cdv)) →
      PSsW (cxOf (L2.CX P w) P w K mg base N qual scope a cdv A outer s H E) (fun cls d _ H => E cls d H) body (d.body (callF T k))) :
    FOk P w K mg base (2 * (k + 1)) (callF T (k + 1)) f ps.length a := ⟨⟨fd, ps, fnok_step F b S hT hs hp walk, b⟩, F.kp⟩
/-- where nothing is let out -/
theorem fnok_bare {P : Program} {w : World} {K : PySem.W.Frag} {mg : Str → Option Value} {base : Heap} {k : Nat} {a : Addr} {fd : FuncData} {ps : List Str} {sp : Sp} (F : FnOk P w K mg base (L2.CX P w) k a fd ps sp) : FnOk P w K mg base CX0 k a fd ps (fun vs H Q _ => sp vs H Q fun _ _ _ => False) := by
  refine ⟨fun vs H Q E h => F.len vs H Q _ h, fun A outer s H args us vs Q E hr e0 b r h => codeAny_mono (F.run A outer s H args us vs Q _ hr e0 b r h) fun r s' z => ?_⟩
  unfold CR at z ⊢
  first
    | exact z
    | (split at z <;> first
        | exact z
        | (obtain ⟨_, _, _, _, _, _, _, _, _, _, _, _, z⟩ := z; exact z.elim))
/-- at no depth nothing is promised -/
theorem fok_zero {P : Program} {w : World} {K : PySem.W.Frag} {mg : Str → Option Value} {base : Heap} {x qual : Str} {params : Arguments} {body : List Stmt} {scope : Scope} {a : Addr} {fd : FuncData} {N ps : List Str} {T : Nat → Option Df} {f : Nat}
    (F : FunD K x qual params body scope [] [] a fd) (b : Binds K fd ps []) : FOk P w K mg base 0 (callF T 0) f ps.length a := by
  refine ⟨⟨fd, ps, ⟨fun vs H Q E ⟨G, h, ws, o, hn, _⟩ => hn, fun A outer s H args us vs Q E _ _ _ _ ⟨G, h, ws, o, hn, R, rs, q⟩ => ?_⟩, b⟩, F.kp⟩
  exact False.elim q
end MP
end

section
set_option Elab.async false
set_option linter.all false
set_option maxRecDepth 100000
set_option autoImplicit false
/-! MP15: displays, a module's table, a, *b = t, comprehensions of two clauses, name = a comprehension. -/
namespace MP
open PySem PySem.Spec PyProof.Rows L2
/-! ### a dict's display -/
abbrev PKW (X : Cx) (Wx : WX) : List (Expr × Expr) → List (SE × SE) → Prop
  | [], [] => True
  | (k, v) :: r, (sk, sv) :: sr => PEW X Wx k sk ∧ PEW X Wx v sv ∧ PKW X Wx r sr
  | _, _ => False
inductive RKv (K : PySem.W.Frag) (mu : List Addr) (N : Addr → Prop) (H : Hp) : List (W × W) → List (V × V) → Prop
  | nil : RKv K mu N H [] []
  | cons {k w : W} {x v : V} {ws : List (W × W)} {vs : List (V × V)} : RW K mu N H k x → RW K mu N H w v → RKv K mu N H ws vs → RKv K mu N H ((k, w) :: ws) ((x, v) :: vs)
abbrev rKv (K : PySem.W.Frag) : RL (List (W × W)) (List (V × V)) := fun G _ H w v => RKv K G.mu G.N H w v
structure PPW (X : Cx) (Wx : WX) (pos : Pos) (ks : List (Option Expr)) (vs : List Expr) (l : List (SE × SE)) : Prop where
  ex : ∃ trs : List (TE × TE), PPs X pos ks vs trs ∧ ∀ (G : Gh) (env : MP.Env) (h : Hea) (σ : Sg) (H : Hp) (Q : List (V × V) → Hp → Prop), Rel X.K G env h σ H → PostR X.K G env σ H Wx (rKv X.K) Q (aKv l env h) → tPairs trs σ H Q
section
variable {X : Cx} {Wx : WX} {e o i a b k v : Expr} {ks : List (Option Expr)} {vs es : List Expr} {s sa sb so si sk sv : SE} {l : List (SE × SE)} {ss : SA} {x y : Str} {p p2 pos cpos apos : Pos}
theorem ppw_nil : PPW X Wx pos [] [] [] := ⟨[], pps_nil, fun G env h σ H Q R q => PostR.here (v := ([] : List (V × V))) q R .nil⟩
theorem ppw_cons (hk : PEW X Wx k sk) (hv : PEW X Wx v sv) (hr : PPW X Wx pos ks vs l) : PPW X Wx pos (some k :: ks) (v :: vs) ((sk, sv) :: l) := by
  obtain ⟨trs, h1, h2⟩ := hr.ex
  refine ⟨_, pps_cons hk hv h1, fun G env h σ H Q R q => ?_⟩
  have q' : PostR X.K G env σ H Wx (rKv X.K) Q ((sk env h).bind fun x h => (sv env h).bind fun y h => (aKv l env h).bind fun l h => .ok ((x, y) :: l) h) := q
  refine ⟨G, env, h, R, (PostR.bind (rel := rW X.K) q').mono fun u H1 ⟨w, h1, mu1, R1, S1, r1, q1⟩ => ⟨_, env, h1, R1, (PostR.bind (rel := rW X.K) q1).mono fun t H2 ⟨z, h2', mu2, R2, S2, r2, q2⟩ => ?_⟩⟩
  refine h2 _ env h2' σ H2 _ R2 ((PostR.bind (rel := rKv X.K) q2).mono fun ps H3 ⟨kvs, h3, mu3, R3, S3, r3, q3⟩ => ?_)
  exact PostR.here (v := (u, t) :: ps) q3 R3 (.cons ((r1.step S2.toStepS).step S3.toStepS) (r2.step S3.toStepS) r3)
theorem kvs_of {K : PySem.W.Frag} {G : Gh} {env : MP.Env} {h : Hea} {σ : Sg} {H : Hp} (R : Rel K G env h σ H) : ∀ {kvs : List (W × W)} {ps : List (V × V)}, RKv K G.mu G.N H kvs ps → kvOk kvs = true →
    ∃ (ks : List (Key × V)) (ws : List W), ps = ks.map (fun kv => (kV kv.1, kv.2)) ∧ kvs = (ks.map fun p => wKey p.1).zip ws ∧ RWs K G.mu G.N H ws (ks.map (·.2))
  | _, _, .nil, _ => ⟨[], [], rfl, rfl, .nil⟩
  | _, _, .cons rk rv t, e => by
    obtain ⟨e1, e2⟩ := Bool.and_eq_true_iff.mp e
    obtain ⟨key, rfl, rfl⟩ := wKey_of R (.inl rk) e1
    obtain ⟨ks, ws, rfl, rfl, r⟩ := kvs_of R t e2
    exact ⟨(key, _) :: ks, _ :: ws, rfl, rfl, .cons rv r⟩
theorem merge_rel {K : PySem.W.Frag} {mu : List Addr} {N : Addr → Prop} {H : Hp} : ∀ {more acc : List (Key × V)} {wm wa : List W}, RWs K mu N H wa (acc.map (·.2)) → RWs K mu N H wm (more.map (·.2)) →
    ∃ ws, mergeW ((acc.map fun p => wKey p.1).zip wa) ((more.map fun p => wKey p.1).zip wm) = ((mergeK acc more).map fun p => wKey p.1).zip ws ∧ RWs K mu N H ws ((mergeK acc more).map (·.2))
  | [], acc, wm, wa, ra, rm => by
    cases rm
    exact ⟨wa, rfl, ra⟩
  | (k, v) :: more, acc, wm, wa, ra, rm => by
    cases rm with
    | cons r1 t =>
      obtain ⟨ws', e1, r2⟩ := put_rel (k := k) r1 ra
      obtain ⟨ws, e2, r3⟩ := merge_rel (more := more) r2 t
      refine ⟨ws, ?_, r3⟩
      rw [← e1] at e2
      exact e2
theorem kv_len {ks : List (Key × V)} {ws : List W} (hl : ws.length = ks.length) : ((ks.map fun p => wKey p.1).zip ws).length = ks.length := by
  rw [List.length_zip, List.length_map, hl, Nat.min_self]
theorem pf_disp (h : PPW X Wx pos ks vs l) (hall : ks.all (·.isSome) = true) (hl : ks.length = vs.length) (h0 : ks ≠ []) (h15 : ks.length ≤ 15) : PEF X Wx (.Dict ks vs pos) (sDct l) := by
  obtain ⟨trs, h1, h2⟩ := h.ex
  refine PE.weak (pe_disp h1 hall hl h0 h15) fun σ H Q ⟨G, env, h, R, q⟩ D hD => ?_
  have q' : PostF X.K G env σ H Wx Q ((aKv l env h).bind fun kvs h => if kvOk15 kvs = true then .ok (.dct (mergeW [] kvs)) h else .bad) := q
  have RD : Rel X.K (G.plus D G.mu) env h σ (L2.upd H D (.dK [])) := R.plus hD
  have SD : Step G H G (L2.upd H D (.dK [])) := Step.upd R hD
  refine h2 _ env h σ _ _ RD ?_
  generalize aKv l env h = r at q'
  -- what the items do to the heap keeps D
  cases r with
  | bad => exact q'
  | ex c pp h' =>
    intro cls d mu' H' R' S' ex
    refine q' cls d mu' H' (R'.fewer rfl rfl fun b z => .inl z) ?_ ⟨ex.1, ?_⟩
    · refine ⟨⟨fun b u eb nb => ?_, S'.mu, rfl, fun a od u e => S'.fz a od u (by rw [upd_ne (ne_of_none e hD)]; exact e)⟩, rfl, fun j b e => (S'.oc j b e).trans (SD.oc j b e)⟩
      have ne : b ≠ D := ne_of_none eb hD
      obtain ⟨e1, n1⟩ := S'.keep b u (by rw [upd_ne ne]; exact eb) nb
      exact ⟨e1, n1⟩
    · rcases ex.2 with z | ⟨dd, v, z1, z2, z3⟩
      · exact .inl z
      · exact .inr ⟨dd, v, z1, z2, z3.keep (N' := (G.at mu').N) (fun b o e n => ⟨e, fun z => n (z.elim (fun z => .inl (.inl z)) .inr)⟩) (Longer.refl _)⟩
  | ok kvs h' =>
    intro ps mu' H' R' S' rk
    have q2 : PostF X.K G env σ H Wx Q (if kvOk15 kvs = true then .ok (.dct (mergeW [] kvs)) h' else .bad) := q'
    split at q2
    · rename_i hk
      obtain ⟨k1, k2⟩ := Bool.and_eq_true_iff.mp hk
      have nM : ¬ (G.plus D G.mu).M D := fun z => by
        rcases z with z | ⟨j, z⟩
        · exact RD.mn D z (.inr rfl)
        · exact (RD.om j D z).2.1 (.inr rfl)
      have eD : H' D = some (.dK []) := (S'.keep D _ upd_same nM).1
      obtain ⟨ks', ws', rfl, rfl, rr⟩ := kvs_of R' rk k1
      have hl' : ws'.length = ks'.length := rws_len rr
      rw [kv_len hl'] at k2
      obtain ⟨wz, ez, rz⟩ := merge_rel (acc := []) (wa := []) .nil rr
      have ez' : mergeW [] ((ks'.map fun p => wKey p.1).zip ws') = ((mergeK [] ks').map fun p => wKey p.1).zip wz := ez
      rw [ez'] at q2
      have hn : (G.plus D mu').n0 D := .inr rfl
      have kp : Keeps (G.plus D mu').N H' (G.plus D mu').N (L2.upd H' D (.dK (mergeK [] ks'))) := keeps_at (G := G.plus D mu') (.inl hn)
      refine ⟨eD, ks', rfl, Nat.le_of_ble_eq_true k2, q2 D mu' _ (Rel.n0upd (G := G.plus D mu') R' hn) ?_ hD (.dK upd_same (rz.keep kp (Longer.refl _)))⟩
      refine ⟨⟨fun b u eb nb => ?_, S'.mu, rfl, fun a od u e => by rw [upd_ne (ne_of_none e hD)]; exact S'.fz a od u (by rw [upd_ne (ne_of_none e hD)]; exact e)⟩, rfl, fun j b e => ?_⟩
      · have ne : b ≠ D := ne_of_none eb hD
        obtain ⟨e1, n1⟩ := S'.keep b u (by rw [upd_ne ne]; exact eb) nb
        exact ⟨by rw [upd_ne ne]; exact e1, n1⟩
      · have ne : b ≠ D := some_ne (R.om j b e).2.2 hD
        rw [upd_ne ne]
        exact (S'.oc j b e).trans (SD.oc j b e)
    · exact q2.elim
/-! ### a table of the module with text keys -/
theorem nsIn_miss {K : PySem.W.Frag} {P : Params} {d : Addr} {ks : List Str} {z : Str} (h : He.dicW K d = some (He.keysIn P ks)) (hz : z ∉ ks) : PySem.W.nsIn K d z = some none := by
  unfold He.dicW at h
  unfold PySem.W.nsIn
  cases q : K.lookup d with
  | none => rw [q] at h; cases h
  | some ob =>
    obtain ⟨oc, od, dt, osl⟩ := ob
    rw [q] at h
    cases oc with
    | type c =>
      cases od with
      | none =>
        cases dt with
        | dict es n =>
          have h1 : (match decide (c = "dict") && (osl.isEmpty && !(d == sysModules)) with
            | true => some (es.toList.map He.keyOf)
            | false => none) = some (He.keysIn P ks) := h
          have e1 : es.toList.map He.keyOf = He.keysIn P ks := by
            split at h1
            · exact Option.some.inj h1
            · cases h1
          clear h h1 q
          dsimp only
          generalize es.toList = l at e1
          have main : l.find? (·.key.isStr z) = none ∧ l.any (·.refKey) = false := by
            induction l generalizing ks with
            | nil => exact ⟨rfl, rfl⟩
            | cons e l ih =>
              cases ks with
              | nil => cases e1
              | cons k ks =>
                have e2 : He.keyOf e :: l.map He.keyOf = some (k, PyData.keyHash P k) :: He.keysIn P ks := e1
                injection e2 with e3 e4
                obtain ⟨i1, i2⟩ := ih (fun m => hz (List.mem_cons_of_mem _ m)) e4
                unfold He.keyOf at e3
                split at e3
                · rename_i xx t qq
                  obtain ⟨h5, h6⟩ := Prod.mk.inj (Option.some.inj e3)
                  have nz : ¬ xx = z := fun w => hz (by rw [← w, h5]; exact List.mem_cons_self ..)
                  have b1 : e.key.isStr z = false := by
                    rw [qq]
                    first
                      | simpa [Value.isStr] using nz
                      | (simp [Value.isStr]; exact nz)
                      | (simp [Value.isStr]; exact fun w => nz w.symm)
                  have b2 : e.refKey = false := by
                    unfold DictEntry.refKey
                    rw [qq]
                  exact ⟨by rw [List.find?_cons, b1]; exact i1, by rw [List.any_cons, b2, i2]; rfl⟩
                · cases e3
          rw [main.1]
          dsimp only
          rw [main.2]
          rfl
        | _ => cases h
      | some b => cases dt <;> cases h
    | _ => cases od <;> cases dt <;> cases h
end
end MP
end

section
set_option Elab.async false
set_option linter.all false
set_option maxRecDepth 100000
set_option autoImplicit false
/-! MP16: a module's table, a, *b = t, comprehensions of two clauses, name = a comprehension, sorted of texts. -/
namespace MP
open PySem PySem.Spec PyProof.Rows L2
section
variable {X : Cx} {Wx : WX} {e o i a b k v elt tg iter tg1 iter1 : Expr} {es ifs ifs1 : List Expr} {s sa sb so sk sv : SE} {ss : SA} {x y : Str} {p p2 pos cpos apos spos : Pos} {d : Addr}
/-- the table t stands at d -/
structure TabOk (K : PySem.W.Frag) (w : World) (d : Addr) (t : List (Nm × W)) : Prop where
  kd : ∃ es n, KDict K w d es n
  hit : ∀ (s : Nm) (c : W), lookN s t = some c → ∃ (u : Value) (v : V), PySem.W.nsIn K d (toS s) = some (some u) ∧ RelV v u ∧ ∀ mu N H, RW K mu N H c v
  miss : ∀ s : Nm, lookN s t = none → PySem.W.nsIn K d (toS s) = some none
theorem pw_tab {t : List (Nm × W)} {u : Value} (T : TabOk X.K X.w d t) (hg : Gl X x) (hm : X.mg x = some u) (ru : RelV (.ref d) u) (hd : (x == ("__debug__" : Str)) = false) (he : PEW X Wx a sa) (hf : PEW X Wx b sb) (m : M2 X (.Name x p) "get" apos a b cpos) : PEW X Wx (.Call (.Attribute (.Name x p) "get" apos) [a, b] [] cpos) (sTab t sa sb) := by
  refine ⟨fun pins s σ H Q I ⟨G, env, h, R, q⟩ => ?_⟩
  have q' : PostR X.K G env σ H Wx (rW X.K) Q ((sa env h).bind fun kv h => (sb env h).bind fun xv h => match kv with
    | .str s => .ok ((lookN s t).getD xv) h
    | _ => .bad) := q
  obtain ⟨es, n, D⟩ := T.kd
  refine wpAny_Call_method m.base m.few m.line PySem.F.plainAttrs_dict PySem.F.slot_dict_get PySem.F.type_dict_get (thn ((pe_glob hg hm ru hd).run pins s σ H (fun z H1 => z = .ref d ∧ H1 = H) I ⟨rfl, rfl⟩) fun u1 s1 ⟨z, H1, I1, rz, ez, eH⟩ => ?_)
  subst ez
  subst eH
  obtain rfl : u1 = Value.ref d := rz
  have t1 : s1.TypeIs (.ref d) "dict" := kd_type D I1
  have t2 : ∀ b, Value.ref d = .ref b → ∃ ob, s1.heap.get? b = some ob ∧ ob.dict = none := fun b eb => by
    cases eb
    exact ⟨_, I1.kIn _ _ D.at_, rfl⟩
  refine ⟨t1, t2, ?_⟩
  rw [m.trees]
  refine Calls.callWith_builtin rfl (Calls.evalArgs_plain (Calls.spliced_cons (thn (he.run pins s1 σ H1 _ I1 ⟨G, env, h, R, PostR.bind (rel := rW X.K) q'⟩) fun iv s2 ⟨kv, H2, I2, rk, w, h2, mu2, R2, S2, r2, q2⟩ =>
    Calls.spliced_cons (thn (hf.run pins s2 σ H2 _ I2 ⟨_, env, h2, R2, PostR.bind (rel := rW X.K) q2⟩) fun fv s3 ⟨xv, H3, I3, rx, w', h3, mu3, R3, S3, r3, q3⟩ => Calls.spliced_nil ?_))))
  cases w with
  | str sk =>
    rw [r2.inv_str] at rk
    obtain ⟨tk, rfl⟩ := rk
    have mp := PySem.W.mapOf_K (prog := X.prog) (w := X.w) I3.kIn D.at_ D.lit
    refine call_meetsIn PySem.F.slot_dict_get (kd_type D I3) PySem.F.entry_dict_get (PySem.F.args_dict_get_3 _ _ _) (meets_dict_get_default (strKind X.prog X.w) d (PySem.strKind_is X.prog X.w (toS sk) tk) D.low fv) ⟨_, mp, ?_⟩
    cases el : lookN sk t with
    | some c =>
      obtain ⟨u0, v0, e1, rv, rw0⟩ := T.hit sk c el
      have q4 : PostR X.K ((G.at mu2).at mu3) env σ H3 Wx (rW X.K) Q (.ok c h3) := by
        have q5 : PostR X.K ((G.at mu2).at mu3) env σ H3 Wx (rW X.K) Q (.ok ((lookN sk t).getD w') h3) := q3
        rw [el] at q5
        exact q5
      rw [PySem.W.find_K D.at_ e1]
      exact ⟨v0, H3, I3.tok _, rv, PostR.hW q4 R3 (rw0 _ _ _)⟩
    | none =>
      have q4 : PostR X.K ((G.at mu2).at mu3) env σ H3 Wx (rW X.K) Q (.ok w' h3) := by
        have q5 : PostR X.K ((G.at mu2).at mu3) env σ H3 Wx (rW X.K) Q (.ok ((lookN sk t).getD w') h3) := q3
        rw [el] at q5
        exact q5
      rw [PySem.W.find_K D.at_ (T.miss sk el)]
      exact ⟨xv, H3, I3.tok _, rx, PostR.hW q4 R3 r3⟩
  | _ => exact False.elim q3
/-! ### a, *b = a tuple -/
theorem star_unpack {prog : Program} {w : World} {A : Around} {E : Value → Shared → Prop} {s : Shared} {l : Addr} {items : Array Value} {n i : Nat} {Q : List Value → Shared → Prop} (hl : IsTup s.heap l items) (hh : A.handled = none) (hi : i < n) (hn : n ≤ items.size + 1) (hz : items.size ≤ sizeLine)
    (h : ∀ (h₂ : Heap) (tk : Nat), (∀ b o, s.heap.get? b = some o → h₂.get? b = some o) →
      Q (items.toList.take i ++ [.ref h₂.objs.size] ++ (items.toList.drop i).drop (items.size + 1 - n)) { s with heap := h₂.push { cls := .type "list", data := .seq ((items.toList.drop i).take (items.size + 1 - n)).toArray }, toks := tk }) : wpAny (model prog w) A (unpackItems (.ref l) n (some i)) Q E s := by
  have hlt : l ≠ s.heap.objs.size := by obtain ⟨o, ho, _⟩ := hl; exact Nat.ne_of_lt (Heap.lt_size ho)
  unfold unpackItems
  refine wpAny_bind ?_
  unfold notIterableAtAll
  refine wpAny_bind (wpAny_specialOf hl.typeIs slot_tuple_iter.lookup ?_)
  refine wpAny_pure ?_
  simp only [Bool.false_eq_true, if_false]
  refine wpAny_bind (wpAny_holding (iter_tuple hl ?_))
  refine wpAny_bind (wpAny_holding (draw_tuple hlt i 0 _ _ ⟨_, Heap.get?_push_size _ rfl, rfl, rfl⟩ (hl.push _) (by omega) fun h₁ hit₁ hs₁ => ?_))
  have hl₁ : IsTup h₁ l items := (hl.push _).extBut hs₁.extBut hlt
  rw [Nat.zero_add] at hit₁
  have hit₁' := hit₁
  obtain ⟨oi, hoi, _⟩ := hit₁'
  have hl₁' := hl₁
  obtain ⟨ol, hol, _⟩ := hl₁'
  rw [List.drop_zero]
  have hfl : (items.toList.take i).length = i := by rw [List.length_take, Array.length_toList]; omega
  rw [if_neg (show ¬ ((items.toList.take i).length < i) by rw [hfl]; omega)]
  refine wpAny_bind (wpAny_holding (PySem.W.kun_collect (s := { s with heap := h₁ }) (T := "tuple_iterator") (.inr (.inr (.inr rfl))) (Walks.tuple (A := A.in1) hh s.heap.objs.size l hlt items) (fun j u st => st.1.typeIs) (k := i) (by omega) ⟨hit₁, hl₁⟩ (Heap.lt_size hoi) (Heap.lt_size hol) (fun h₂ tk hk => ?_) hz))
  have hrl : (items.toList.drop i).length = items.size - i := by rw [List.length_drop, Array.length_toList]
  have hmid : (items.toList.drop i).length - (n - 1 - i) = items.size + 1 - n := by rw [hrl]; omega
  show wpAny _ _ (if (items.toList.drop i).length < n - 1 - i then _ else _) _ _ _
  rw [if_neg (by rw [hrl]; omega)]
  show wpAny _ _ (newList ((items.toList.drop i).take ((items.toList.drop i).length - (n - 1 - i))) >>= fun d => pure (items.toList.take i ++ [d] ++ (items.toList.drop i).drop ((items.toList.drop i).length - (n - 1 - i)))) _ _ _
  rw [hmid]
  have old : ∀ b o, s.heap.get? b = some o → h₂.get? b = some o := fun b o e => hk b o (Nat.ne_of_lt (Heap.lt_size e)) (hs₁.extBut b o (Nat.ne_of_lt (Heap.lt_size e)) (Heap.get?_push_of_some _ e))
  exact wpAny_bind (wpAny_newList (s := { s with heap := h₂, toks := tk }) (wpAny_pure (h h₂ tk old)) (by rw [List.length_take, hrl]; omega))
/-- the slots, the list -/
def gStar2 (K : PySem.W.Frag) (i j : Nat) : TG := fun v σ H Q => ∃ a x0 rest, v = .ref a ∧ SqT K H a (x0 :: rest) ∧ ∀ D, H D = none → Q ((σ.set i (some x0)).set j (some (.ref D))) (L2.upd H D (.lst rest))
theorem pg_star2 {i j : Nat} {x y : Str} {px py ps : Pos} {k : Nat} (hc : X.calm = true) (hN : X.N.Nodup) (hi : X.N[i]? = some x) (hj : X.N[j]? = some y) (hx : Loc X.env.scope x) (hy : Loc X.env.scope y) (fx : X.fn x = true ∨ X.env.scope.names.lookup x = some .local) (fy : X.fn y = true ∨ X.env.scope.names.lookup y = some .local)
    (ha : assignEach [.Name x px, .Starred (.Name y py) ps] X.env = [(false, assign (.Name x px) X.env), (true, assign (.Name y py) X.env)]) : PG X (.Tuple [.Name x px, .Starred (.Name y py) ps] k pos) (gStar2 X.K i j) := by
  refine ⟨fun pins s σ H v u Q I r hw => ?_⟩
  obtain ⟨a, x0, rest, e1, hq, hw⟩ := hw
  subst e1
  cases r
  obtain ⟨its, rv, ht, hz⟩ := I.tuple hq
  rw [assign_Tuple]
  refine wpAny_bind (wpAny_standAt ?_)
  unfold unpack
  rw [ha]
  have hl := rv.length
  refine wpAny_bind (wpAny_holding (star_unpack (n := 2) (i := 1) ht (I.ok.hd hc) (by decide) (by rw [List.size_toArray, ← hl]; simp) (by rw [List.size_toArray, ← hl]; exact hz) fun h₂ tk old => ?_))
  cases rv with
  | @cons _ u0 _ us r0 rr =>
    have e1 : (([u0] ++ us).toArray.size + 1 - 2) = us.length := by simp
    have I1 : Inv X pins σ H { s with heap := h₂, toks := tk } := I.kept (t' := tk) old
    have hz' : rest.length ≤ sizeLine := by
      have : (x0 :: rest).length ≤ sizeLine := hz
      rw [List.length_cons] at this
      omega
    have hd : (((u0 :: us).toArray.toList.drop 1).take ((u0 :: us).toArray.size + 1 - 2)) = us := by simp
    have hd2 : (((u0 :: us).toArray.toList.drop 1).drop ((u0 :: us).toArray.size + 1 - 2)) = [] := by simp
    have hd3 : (u0 :: us).toArray.toList.take 1 = [u0] := by simp
    rw [hd, hd2, hd3]
    have I2 : Inv X pins σ (L2.upd H h₂.objs.size (.lst rest)) { s with heap := h₂.push { cls := .type "list", data := .seq us.toArray }, toks := tk } := Inv.lnew (s := { s with heap := h₂, toks := tk }) (t' := tk) I1 rr hz'
    show wpAny _ _ (assignInOrder [assign (.Name x px) X.env, assign (.Name y py) X.env] [u0, .ref h₂.objs.size]) _ _ _
    refine PyProof.Rows.assignInOrder_cons (wpAny_assign_Name (store_ok I2 hN hi hx r0 (fun s3 I3 => ?_) fx))
    refine PyProof.Rows.assignInOrder_cons (wpAny_assign_Name (store_ok (v := V.ref h₂.objs.size) I3 hN hj hy rfl (fun s4 I4 => PyProof.Rows.assignInOrder_nil ?_) fy))
    exact ⟨_, _, I4, hw _ (I1.hok.fresh (Nat.le_refl _))⟩
theorem sw_star {i j : Nat} {x y : Str} {px py ps pt : Pos} {k : Nat} (hc : X.calm = true) (hN : X.N.Nodup) (hi : X.N[i]? = some x) (hj : X.N[j]? = some y) (hx : Loc X.env.scope x) (hy : Loc X.env.scope y) (fx : X.fn x = true ∨ X.env.scope.names.lookup x = some .local) (fy : X.fn y = true ∨ X.env.scope.names.lookup y = some .local)
    (ha : assignEach [.Name x px, .Starred (.Name y py) ps] X.env = [(false, assign (.Name x px) X.env), (true, assign (.Name y py) X.env)]) (he : PEW X Wx e s) (hs : swapsWithSole [.Tuple [.Name x px, .Starred (.Name y py) ps] k pt] e pos.line X.env = pure false) (hw : swappedStores [.Tuple [.Name x px, .Starred (.Name y py) ps] k pt] e X.env = pure none)
    (h1 : (assignEach [.Tuple [.Name x px, .Starred (.Name y py) ps] k pt] X.env).map (·.2) = [assign (.Tuple [.Name x px, .Starred (.Name y py) ps] k pt) X.env]) : PSW X Wx (.Assign [.Tuple [.Name x px, .Starred (.Name y py) ps] k pt] e pos) (kStar i j s) :=
  PS.weak (ps_asg he (pg_star2 hc hN hi hj hx hy fx fy ha) hs hw h1) fun D σ H ⟨G, env, h, R, q⟩ => ⟨G, env, h, R, (PostS.out (rel := rW X.K) q).mono fun v H1 ⟨w, h1, mu1, R1, S1, r1, q1⟩ => by
    cases w with
    | tup ws =>
      cases ws with
      | nil => exact False.elim q1
      | cons w0 ws =>
        have q2 : PostS X.K (G.at mu1) H1 Wx D (if (Nat.blt i env.length && Nat.blt j env.length) = true then .nx ((env.set i (some (false, w0))).set j (some (false, .lst ws))) h1 else .bad) := q1
        split at q2
        · rename_i hz
          rw [Bool.and_eq_true] at hz
          have l1 : i < env.length := blt_lt hz.1
          have l2 : j < env.length := blt_lt hz.2
          obtain ⟨a, xs, rfl, t, rr⟩ := r1.inv_tup
          obtain ⟨x0, rest, rfl, r0, rr⟩ := RWs.inv_cons rr
          refine ⟨a, x0, rest, rfl, t.sq, fun L hL => ?_⟩
          have R2 : Rel X.K (G.at mu1) env h1 σ (L2.upd H1 L (.lst rest)) := R1.upd hL
          have S2 : Step (G.at mu1) H1 (G.at mu1) (L2.upd H1 L (.lst rest)) := Step.upd R1 hL
          have R3 := R2.set (r0.step S2.toStepS) l1
          exact q2 _ _ _ (R3.set (i := j) (w := .lst ws) (v := .ref L) (.lst ⟨upd_same, R1.fresh hL⟩ (rr.step S2.toStepS)) (by rw [List.length_set]; exact l2)) S2.toStepS
        · exact q2.elim
    | _ => exact False.elim q1⟩
/-! ### name = a comprehension on one line -/
theorem heap_of {σ : Sg} {H : Hp} {Q : VK} (z : tR X.K Wx (rW X.K) (sHeap s) σ H Q) : tF X.K Wx s σ H Q := by
  obtain ⟨G, env, h, R, q⟩ := z
  refine ⟨G, env, h, R, ?_⟩
  have q' : PostR X.K G env σ H Wx (rW X.K) Q ((s env h).bind heapW) := q
  generalize s env h = r at q' ⊢
  cases r with
  | ok w h' =>
    intro a mu' H' R' S n c
    have q2 : PostR X.K G env σ H Wx (rW X.K) Q (heapW w h') := q'
    have nb := n0_none R n
    have lm : h'.length = mu'.length := R'.hp.len
    have last : (mu' ++ [a])[h'.length]? = some a := by rw [lm]; simp
    cases w with
    | lst xs => exact q2 (.ref a) (mu' ++ [a]) H' (R'.adopt nb (.lst c)) (S.adopt n) (.ref last)
    | dct kvs => exact q2 (.ref a) (mu' ++ [a]) H' (R'.adopt nb (.dct c)) (S.adopt n) (.ref last)
    | _ => exact False.elim q2
  | ex c p h' => exact q'
  | bad => exact q'
theorem w_of {σ : Sg} {H : Hp} {Q : VK} (z : tR X.K Wx (rW X.K) s σ H Q) : tF X.K Wx s σ H Q := by
  obtain ⟨G, env, h, R, q⟩ := z
  exact ⟨G, env, h, R, PostF.w R q⟩
/-- the three ways to keep what was just made -/
inductive Kept (i : Nat) (s : SE) : SS → Prop
  | own : Kept i s (kSetO i s)
  | val : Kept i s (kSet i s)
  | heap : Kept i s (kSet i (sHeap s))
theorem Kept.tF {i : Nat} {s : SE} {k : SS} (kp : Kept i s k) {D : Ends} {σ : Sg} {H : Hp} (z : tS X.K Wx k D σ H) : MP.tF X.K Wx s σ H fun v H1 => D.nx (σ.set i (some v)) H1 := by
  cases kp with
  | own => exact setO_of z
  | val => exact w_of (set_of z)
  | heap => exact heap_of (set_of z)
variable {scope : Scope} {own : List (Str × Nat)} {si si1 : SI} {sl sl1 vs1 : List Nat} {g g1 : Tg} {t t1 : MP.ST} {kk : SS}
theorem sw_lc {i : Nat} {py : Pos} (kp : Kept i (sLc si (own.map (·.2)) g t s) kk) (hc : X.calm = true) (hN : X.N.Nodup) (hy : X.N[i]? = some y) (hyl : X.env.scope.names.lookup y = some .local) (hsw : swapsWith (.ListComp elt [⟨tg, iter, ifs, 0⟩] scope pos) (some (.Name y py)) spos.line X.env = pure true)
    (hi : PIC X Wx tg iter si) (ok : BlkOk X.N X.env.scope scope own) (sub : ∀ j, inS j sl = true → j ∈ own.map (·.2))
    (hg : ∀ (s0 : Shared) (H : Hp) (C : Addr) (cl : List (Str × Addr)) (fp : List Addr), PGW (X.blk s0 H scope (compEnvC scope cl C X.env) fp) tg sl g) (ht : ∀ (s0 : Shared) (H : Hp) (C : Addr) (cl : List (Str × Addr)) (fp : List Addr), PTsW (X.blk s0 H scope (compEnvC scope cl C X.env) fp) W0 ifs t)
    (he : ∀ (s0 : Shared) (H : Hp) (C : Addr) (cl : List (Str × Addr)) (fp : List Addr), PEW (X.blk s0 H scope (compEnvC scope cl C X.env) fp) W0 elt s) (hs : ∀ x, foldedSetIterable iter X.env x = pure x) :
    PSW X Wx (.Assign [.Name y py] (.ListComp elt [⟨tg, iter, ifs, 0⟩] scope pos) spos) kk :=
  PS.weak (ps_setLc hc hN hy hyl hsw hi ok hg ht he hs) fun D σ H z => tLc_of sub (kp.tF z)
end
end MP
end

section
set_option Elab.async false
set_option linter.all false
set_option maxRecDepth 100000
set_option autoImplicit false
/-! MP17: comprehensions of two clauses, sorted of texts. -/
namespace MP
open PySem PySem.Spec PyProof.Rows L2
theorem lc2_loop {K : PySem.W.Frag} {J : It} {ws acc0 xs : List W} {vacc0 : List V} {env : MP.Env} {σ : Sg} {G : Gh} {h0 hf : Hea} {H0 : Hp} {D : Addr} {vs sl vs1 sl1 : List Nat} {g g1 : Tg} {t t1 : MP.ST} {s : SE} {si1 : SI} {Ex : Hp → Prop}
    (R0 : Rel K G env h0 σ H0) (hD : G.n0 D) (D0 : H0 D = some (.lst vacc0)) (A0 : RWs K G.mu G.N H0 acc0 vacc0) (itc : Itc K G H0 J ws) (sub : ∀ j, inS j sl = true → j ∈ vs) (sub1 : ∀ j, inS j sl1 = true → j ∈ vs1)
    (run : lcL2 (wipeE env vs) g t si1 vs1 g1 t1 s ws acc0 h0 = .ok xs hf)
    (fin : ∀ mu H vacc, Rel K (G.at mu) env hf σ H → StepX D G H0 (G.at mu) H → H D = some (.lst vacc) → RWs K mu (G.at mu).N H xs vacc → Ex H) :
    ∃ W : Nat → Nat → Hp → Prop, (∃ m, W 0 m H0) ∧ ∀ i m H, W i m H →
      (J.stop i H ∧ Ex H) ∨ (J.go i H ∧ ∃ Nx : Hp → Prop, (∀ H', Nx H' → ∃ m', m' < m ∧ W (i + 1) m' H') ∧ ∀ x H', J.yld i H x H' → tG K sl g x (wipe σ vs) H' fun σ2 H2 => wipe σ2 vs = wipe σ vs ∧ tR K W0 rB t σ2 H2 fun b H3 =>
        if b = true then tR K W0 (riC K) si1 σ2 H3 fun J1 H4 => ∃ W1 : Nat → Nat → Hp → Prop, (∃ m, W1 0 m H4) ∧ ∀ j k H, W1 j k H →
          (J1.stop j H ∧ Nx H) ∨ (J1.go j H ∧ ∃ Nx1 : Hp → Prop, (∀ H', Nx1 H' → ∃ k', k' < k ∧ W1 (j + 1) k' H') ∧ ∀ x H', J1.yld j H x H' → tG K sl1 g1 x (wipe σ2 vs1) H' fun σ3 H5 => wipe σ3 vs1 = wipe σ2 vs1 ∧ tR K W0 rB t1 σ3 H5 fun b H6 =>
            if b = true then tR K W0 (rW K) s σ3 H6 fun y H7 => ∃ acc, H7 D = some (.lst acc) ∧ acc.length < sizeLine ∧ Nx1 (L2.upd H7 D (.lst (acc ++ [y]))) else Nx1 H6)
        else Nx H3) := by
  refine ⟨fun i m H => m + i = ws.length ∧ ∃ mu acc vacc h, Rel K (G.at mu) env h σ H ∧ StepX D G H0 (G.at mu) H ∧ H D = some (.lst vacc) ∧ RWs K mu (G.at mu).N H acc vacc ∧ lcL2 (wipeE env vs) g t si1 vs1 g1 t1 s (ws.drop i) acc h = .ok xs hf,
    ⟨ws.length, rfl, G.mu, acc0, vacc0, h0, R0, StepX.refl, D0, A0, run⟩, ?_⟩
  rintro i m H ⟨hm, mu, acc, vacc, h, R, S, hDl, A, rn⟩
  have kN : Keeps G.N H0 (G.at mu).N H := S.keepN hD
  by_cases hi : i < ws.length
  · refine .inr ⟨itc.go i _ H kN S.fz S.oc hi, fun H' => (m - 1) + (i + 1) = ws.length ∧ ∃ mu acc vacc h, Rel K (G.at mu) env h σ H' ∧ StepX D G H0 (G.at mu) H' ∧ H' D = some (.lst vacc) ∧ RWs K mu (G.at mu).N H' acc vacc ∧ lcL2 (wipeE env vs) g t si1 vs1 g1 t1 s (ws.drop (i + 1)) acc h = .ok xs hf,
      fun H' z => ⟨m - 1, by omega, z⟩, fun x H2 y => ?_⟩
    have ew : ws[i]? = some ws[i] := by simp [hi]
    obtain ⟨ext, rx⟩ := itc.yld i mu _ H x H2 ws[i] kN (fun b => R.there) S.mu S.fz S.oc ew y
    have ed : ws.drop i = ws[i] :: ws.drop (i + 1) := (List.drop_eq_getElem_cons hi)
    rw [ed] at rn
    have R2 : Rel K (G.at mu) env h σ H2 := R.ext ext
    have S2 : StepX D G H0 (G.at mu) H2 := S.trans (Step.ext R ext).x
    have D2 : H2 D = some (.lst vacc) := ext _ _ hDl
    have A2 : RWs K mu (G.at mu).N H2 acc vacc := A.keep ext.keeps (Longer.refl _)
    have rn1 : (match g ws[i] (wipeE env vs) with
      | none => MP.R.bad
      | some e' => match t e' h with
        | .ok true h => (match si1 e' h with
          | .ok ws1 h => (match lcL (wipeE e' vs1) g1 t1 s ws1 acc h with
            | .ok acc h => lcL2 (wipeE env vs) g t si1 vs1 g1 t1 s (ws.drop (i + 1)) acc h
            | _ => .bad)
          | _ => .bad)
        | .ok false h => lcL2 (wipeE env vs) g t si1 vs1 g1 t1 s (ws.drop (i + 1)) acc h
        | _ => .bad) = .ok xs hf := rn
    cases eg : g ws[i] (wipeE env vs) with
    | none => rw [eg] at rn1; cases rn1
    | some env' =>
      rw [eg] at rn1
      refine ⟨G.at mu, wipeE env vs, h, ws[i], R2.wiped vs, rx, env', eg, fun σ2 R3 l3 s3 => ⟨wipe_same sub l3 s3, G.at mu, env', h, R3, ?_⟩⟩
      dsimp only at rn1
      have nM : ¬ (G.at mu).M D := fun z => by
        rcases z with z | ⟨j, z⟩
        · exact R.mn D z hD
        · exact (R.om j D z).2.1 hD
      cases et : t env' h with
      | ok b h2 =>
        rw [et] at rn1
        intro b' mu' H3 R4 S4 eb
        have eb' : b = b' := eb
        subst eb'
        have D3 : H3 D = some (.lst vacc) := (S4.keep D _ D2 nM).1
        have S4' : StepX D G H0 ((G.at mu).at mu') H3 := S2.trans S4.x
        have A3 : RWs K mu' ((G.at mu).at mu').N H3 acc vacc := A2.step S4.toStepS
        cases b with
        | false =>
          rw [if_neg Bool.false_ne_true]
          exact ⟨by omega, mu', acc, vacc, h2, R2.back S4 R4, S4', D3, A3, rn1⟩
        | true =>
          rw [if_pos rfl]
          refine ⟨_, env', h2, R4, ?_⟩
          dsimp only at rn1
          cases es : si1 env' h2 with
          | ok ws1 h3 =>
            rw [es] at rn1
            dsimp only at rn1
            intro J1 mu'' H4 R5 S5 itc1
            have nM3 : ¬ ((G.at mu).at mu').M D := (S4.keep D _ D2 nM).2
            have D4 : H4 D = some (.lst vacc) := (S5.keep D _ D3 nM3).1
            have S5' : StepX D G H0 (((G.at mu).at mu').at mu'') H4 := S4'.trans S5.x
            have A4 := A3.step S5.toStepS
            have Rb : Rel K (G.at mu'') env h3 σ H4 := R2.back (S4.trans S5) R5
            cases el : lcL (wipeE env' vs1) g1 t1 s ws1 acc h3 with
            | ok acc2 h4 =>
              rw [el] at rn1
              refine lc_loop (Ex := fun H' => (m - 1) + (i + 1) = ws.length ∧ ∃ mu acc vacc h, Rel K (G.at mu) env h σ H' ∧ StepX D G H0 (G.at mu) H' ∧ H' D = some (.lst vacc) ∧ RWs K mu (G.at mu).N H' acc vacc ∧ lcL2 (wipeE env vs) g t si1 vs1 g1 t1 s (ws.drop (i + 1)) acc h = .ok xs hf) R5 hD D4 A4 itc1 sub1 el fun mu3 H' vacc' R6 S6 D6 A6 => ?_
              exact ⟨by omega, mu3, acc2, vacc', h4, Rel.backX (G := G.at mu'') Rb S6 hD R6, S5'.trans S6, D6, A6, rn1⟩
            | ex c p h4 => rw [el] at rn1; cases rn1
            | bad => rw [el] at rn1; cases rn1
          | ex c p h3 => rw [es] at rn1; cases rn1
          | bad => rw [es] at rn1; cases rn1
      | ex c p h2 => rw [et] at rn1; cases rn1
      | bad => rw [et] at rn1; cases rn1
  · have ei : ws.length ≤ i := by omega
    refine .inl ⟨itc.stop i _ H kN S.fz S.oc ei, ?_⟩
    rw [List.drop_eq_nil_of_le ei] at rn
    have e2 : MP.R.ok acc h = .ok xs hf := rn
    cases e2
    exact fin mu H vacc R S hDl A
section
variable {X : Cx} {Wx : WX} {elt tg iter tg1 iter1 : Expr} {ifs ifs1 : List Expr} {scope : Scope} {own : List (Str × Nat)} {pos spos : Pos} {si si1 : SI} {sl sl1 vs1 : List Nat} {g g1 : Tg} {t t1 : MP.ST} {s : SE} {y : Str} {kk : SS}
theorem tLc2_of {K : PySem.W.Frag} {vs : List Nat} {σ : Sg} {H : Hp} {Q : VK} (sub : ∀ j, inS j sl = true → j ∈ vs) (sub1 : ∀ j, inS j sl1 = true → j ∈ vs1) (z : tF K Wx (sLc2 si vs g t si1 vs1 g1 t1 s) σ H Q) :
    tLc2 (tR K Wx (riC K) si) (tG K sl g) (tR K W0 rB t) (tR K W0 (riC K) si1) (tG K sl1 g1) (tR K W0 rB t1) (tR K W0 (rW K) s) vs vs1 σ H Q := by
  obtain ⟨G, env, h, R, q⟩ := z
  refine ⟨G, env, h, R, (PostF.bind (rel := riC K) q).mono fun J H1 ⟨ws, h1, mu1, R1, S1, itc, q1⟩ D hD => ?_⟩
  have q2 : PostF K (G.at mu1) env σ H1 Wx Q (if noOwn env vs = true then mapR W.lst (lcL2 (wipeE env vs) g t si1 vs1 g1 t1 s ws [] h1) else .bad) := q1
  split at q2
  · cases er : lcL2 (wipeE env vs) g t si1 vs1 g1 t1 s ws [] h1 with
    | ok xs hf =>
      rw [er] at q2
      have R2 : Rel K ((G.at mu1).plus D mu1) env h1 σ (L2.upd H1 D (.lst [])) := R1.plus hD
      have kn : Keeps (G.at mu1).N H1 ((G.at mu1).plus D mu1).N (L2.upd H1 D (.lst [])) := keeps_new R1 hD
      have oc : ∀ j a, (G.at mu1).own j = some a → L2.upd H1 D (.lst []) a = H1 a := fun j a e => upd_ne (some_ne (R1.om j a e).2.2 hD)
      have itc2 : Itc K ((G.at mu1).plus D mu1) (L2.upd H1 D (.lst [])) J ws := ⟨fun i N1 H2 k z o => itc.go i N1 H2 (fun a u e n => let ⟨e1, n1⟩ := kn a u e n; k a u e1 n1) (fun a od u e => z a od u (by rw [upd_ne (ne_of_none e hD)]; exact e)) (fun j a e => (o j a e).trans (oc j a e)),
        fun i N1 H2 k z o => itc.stop i N1 H2 (fun a u e n => let ⟨e1, n1⟩ := kn a u e n; k a u e1 n1) (fun a od u e => z a od u (by rw [upd_ne (ne_of_none e hD)]; exact e)) (fun j a e => (o j a e).trans (oc j a e)),
        fun i m N1 H2 x H3 w k nn l z o => itc.yld i m N1 H2 x H3 w (fun a u e n => let ⟨e1, n1⟩ := kn a u e n; k a u e1 n1) nn l (fun a od u e => z a od u (by rw [upd_ne (ne_of_none e hD)]; exact e)) (fun j a e => (o j a e).trans (oc j a e))⟩
      refine lc2_loop (Ex := fun H => Q (.ref D) H) R2 (.inr rfl) upd_same .nil itc2 sub sub1 er fun mu H' vacc R3 S3 hDl A => ?_
      refine q2 D mu H' R3 ⟨⟨fun a u e n => ?_, S3.mu, rfl, fun a od u e => S3.fz a od u (by rw [upd_ne (ne_of_none e hD)]; exact e)⟩, rfl, fun i a e => ?_⟩ hD (.lst hDl A)
      · have ne : a ≠ D := ne_of_none e hD
        exact S3.keep a u (by rw [upd_ne ne]; exact e) n ne
      · exact (S3.oc i a e).trans (oc i a e)
    | ex c p h2 => rw [er] at q2; exact q2.elim
    | bad => rw [er] at q2; exact q2.elim
  · exact q2.elim
theorem pf_lc2 (hc : X.calm = true) (hN : X.N.Nodup) (hi : PIC X Wx tg iter si) (ok : BlkOk X.N X.env.scope scope own) (sub : ∀ j, inS j sl = true → j ∈ own.map (·.2)) (sub1 : ∀ j, inS j sl1 = true → j ∈ vs1) (hv : ∀ i ∈ vs1, i ∈ own.map (·.2))
    (hg : ∀ (s0 : Shared) (H : Hp) (C : Addr) (cl : List (Str × Addr)) (fp : List Addr), PGW (X.blk s0 H scope (compEnvC scope cl C X.env) fp) tg sl g) (ht : ∀ (s0 : Shared) (H : Hp) (C : Addr) (cl : List (Str × Addr)) (fp : List Addr), PTsW (X.blk s0 H scope (compEnvC scope cl C X.env) fp) W0 ifs t)
    (hi1 : ∀ (s0 : Shared) (H : Hp) (C : Addr) (cl : List (Str × Addr)) (fp : List Addr), PIC (X.blk s0 H scope (compEnvC scope cl C X.env) fp) W0 tg1 iter1 si1)
    (hg1 : ∀ (s0 : Shared) (H : Hp) (C : Addr) (cl : List (Str × Addr)) (fp : List Addr), PGW (X.blk s0 H scope (compEnvC scope cl C X.env) fp) tg1 sl1 g1) (ht1 : ∀ (s0 : Shared) (H : Hp) (C : Addr) (cl : List (Str × Addr)) (fp : List Addr), PTsW (X.blk s0 H scope (compEnvC scope cl C X.env) fp) W0 ifs1 t1)
    (he : ∀ (s0 : Shared) (H : Hp) (C : Addr) (cl : List (Str × Addr)) (fp : List Addr), PEW (X.blk s0 H scope (compEnvC scope cl C X.env) fp) W0 elt s) (hs : ∀ x, foldedSetIterable iter X.env x = pure x) (hs1 : ∀ env x, foldedSetIterable iter1 env x = pure x) :
    PEF X Wx (.ListComp elt [⟨tg, iter, ifs, 0⟩, ⟨tg1, iter1, ifs1, 0⟩] scope pos) (sLc2 si (own.map (·.2)) g t si1 vs1 g1 t1 s) :=
  PE.weak (pe_lc2 hc hN hi ok hv hg ht hi1 hg1 ht1 he hs hs1) fun σ H Q z => tLc2_of sub sub1 z
theorem sw_lc2 {i : Nat} {py : Pos} (kp : Kept i (sLc2 si (own.map (·.2)) g t si1 vs1 g1 t1 s) kk) (hc : X.calm = true) (hN : X.N.Nodup) (hy : X.N[i]? = some y) (hyl : X.env.scope.names.lookup y = some .local) (hsw : swapsWith (.ListComp elt [⟨tg, iter, ifs, 0⟩, ⟨tg1, iter1, ifs1, 0⟩] scope pos) (some (.Name y py)) spos.line X.env = pure true)
    (hi : PIC X Wx tg iter si) (ok : BlkOk X.N X.env.scope scope own) (sub : ∀ j, inS j sl = true → j ∈ own.map (·.2)) (sub1 : ∀ j, inS j sl1 = true → j ∈ vs1) (hv : ∀ i ∈ vs1, i ∈ own.map (·.2))
    (hg : ∀ (s0 : Shared) (H : Hp) (C : Addr) (cl : List (Str × Addr)) (fp : List Addr), PGW (X.blk s0 H scope (compEnvC scope cl C X.env) fp) tg sl g) (ht : ∀ (s0 : Shared) (H : Hp) (C : Addr) (cl : List (Str × Addr)) (fp : List Addr), PTsW (X.blk s0 H scope (compEnvC scope cl C X.env) fp) W0 ifs t)
    (hi1 : ∀ (s0 : Shared) (H : Hp) (C : Addr) (cl : List (Str × Addr)) (fp : List Addr), PIC (X.blk s0 H scope (compEnvC scope cl C X.env) fp) W0 tg1 iter1 si1)
    (hg1 : ∀ (s0 : Shared) (H : Hp) (C : Addr) (cl : List (Str × Addr)) (fp : List Addr), PGW (X.blk s0 H scope (compEnvC scope cl C X.env) fp) tg1 sl1 g1) (ht1 : ∀ (s0 : Shared) (H : Hp) (C : Addr) (cl : List (Str × Addr)) (fp : List Addr), PTsW (X.blk s0 H scope (compEnvC scope cl C X.env) fp) W0 ifs1 t1)
    (he : ∀ (s0 : Shared) (H : Hp) (C : Addr) (cl : List (Str × Addr)) (fp : List Addr), PEW (X.blk s0 H scope (compEnvC scope cl C X.env) fp) W0 elt s) (hs : ∀ x, foldedSetIterable iter X.env x = pure x) (hs1 : ∀ env x, foldedSetIterable iter1 env x = pure x) :
    PSW X Wx (.Assign [.Name y py] (.ListComp elt [⟨tg, iter, ifs, 0⟩, ⟨tg1, iter1, ifs1, 0⟩] scope pos) spos) kk :=
  PS.weak (ps_setLc2 hc hN hy hyl hsw hi ok hv hg ht hi1 hg1 ht1 he hs hs1) fun D σ H z => tLc2_of sub sub1 (kp.tF z)
end
end MP
end

section
set_option Elab.async false
set_option linter.all false
set_option maxRecDepth 100000
set_option autoImplicit false
/-! MP18: what a generated walk leans on. -/
namespace MP
open PySem PySem.Spec PyProof.Rows L2
theorem room65 {A : Around} {k : Nat} (hr : Room k A) : A.units + 65 < cLine := by
  have := hr.un
  omega
theorem inS_sub {sl vs : List Nat} (h : (sl.all fun j => vs.contains j) = true) : ∀ j, inS j sl = true → j ∈ vs := by
  intro j hj
  induction sl with
  | nil => exact absurd hj Bool.false_ne_true
  | cons i r ih =>
    rw [List.all_cons, Bool.and_eq_true] at h
    unfold inS at hj
    rw [Bool.or_eq_true] at hj
    rcases hj with e | e
    · have e' : i = j := by simpa using e
      subst e'
      simpa using h.1
    · exact ih h.2 e
theorem sub_mem {sl vs : List Nat} (h : (sl.all fun j => vs.contains j) = true) : ∀ i ∈ sl, i ∈ vs := fun i hi => by
  have := List.all_eq_true.mp h i hi
  simpa using this
/-! ### constants of the module -/
mutual
/-- the constant w stands as u -/
def wB (K : PySem.W.Frag) : W → Value → Bool
  | .non, u => (match u with
    | .none => true
    | _ => false)
  | .bl b, u => (match u with
    | .bool c => b == c
    | _ => false)
  | .int i, u => (match u with
    | .int j _ => decide (i = j)
    | _ => false)
  | .str s, u => (match u with
    | .str z _ => decide (toS s = z)
    | _ => false)
  | .tup ws, u => (match u with
    | .ref a => (match K.lookup a with
      | some ⟨.type c, _, .seq its _, _⟩ => decide (c = "tuple") && (decide (its.size ≤ sizeLine) && wBs K ws its.toList)
      | _ => false)
    | _ => false)
  | _, _ => false
def wBs (K : PySem.W.Frag) : List W → List Value → Bool
  | [], [] => true
  | w :: ws, u :: us => wB K w u && wBs K ws us
  | _, _ => false
end
/-- what a constant is -/
def Con1 (K : PySem.W.Frag) (w : W) (u : Value) : Prop := ∃ v, RelV v u ∧ ∀ mu N H, RW K mu N H w v
def Con2 (K : PySem.W.Frag) (ws : List W) (us : List Value) : Prop := ∃ vs, Vals vs us ∧ ∀ mu N H, RWs K mu N H ws vs
mutual
theorem wB_ok {K : PySem.W.Frag} : ∀ {w : W} {u : Value}, wB K w u = true → Con1 K w u
  | .non, u, h => by
    unfold wB at h
    split at h
    · exact ⟨.non, rfl, fun _ _ _ => .non⟩
    · cases h
  | .bl b, u, h => by
    unfold wB at h
    split at h
    · rename_i c
      have e : b = c := by simpa using h
      subst e
      exact ⟨.bl b, rfl, fun _ _ _ => .bl b⟩
    · cases h
  | .int i, u, h => by
    unfold wB at h
    split at h
    · have e := of_decide_eq_true h
      subst e
      exact ⟨.int i, ⟨_, rfl⟩, fun _ _ _ => .int i⟩
    · cases h
  | .str s, u, h => by
    unfold wB at h
    split at h
    · have e := of_decide_eq_true h
      subst e
      exact ⟨.str (toS s), ⟨_, rfl⟩, fun _ _ _ => .str s⟩
    · cases h
  | .tup ws, u, h => by
    unfold wB at h
    split at h
    · rename_i a
      split at h
      · rename_i c od its n sl q
        rw [Bool.and_eq_true, Bool.and_eq_true] at h
        obtain ⟨h1, h2, h3⟩ := h
        have e := of_decide_eq_true h1
        subst e
        obtain ⟨vs, r1, r2⟩ := wBs_ok h3
        exact ⟨.ref a, rfl, fun mu N H => .tup (.inr ⟨_, its, n, q, rfl, rfl, of_decide_eq_true h2, r1⟩) (r2 mu N H)⟩
      · cases h
    · cases h
  | .lst _, _, h => by unfold wB at h; cases h
  | .dct _, _, h => by unfold wB at h; cases h
  | .ref _, _, h => by unfold wB at h; cases h
  | .scr _, _, h => by unfold wB at h; cases h
theorem wBs_ok {K : PySem.W.Frag} : ∀ {ws : List W} {us : List Value}, wBs K ws us = true → Con2 K ws us
  | [], [], _ => ⟨[], .nil, fun _ _ _ => .nil⟩
  | w :: ws, u :: us, h => by
    unfold wBs at h
    rw [Bool.and_eq_true] at h
    obtain ⟨v, r1, r2⟩ := wB_ok h.1
    obtain ⟨vs, r3, r4⟩ := wBs_ok h.2
    exact ⟨v :: vs, .cons r1 r3, fun mu N H => .cons (r2 mu N H) (r4 mu N H)⟩
  | [], _ :: _, h => by unfold wBs at h; cases h
  | _ :: _, [], h => by unfold wBs at h; cases h
end
def gB (K : PySem.W.Frag) (x : Str) (w : W) : Bool := match PySem.W.nsIn K mainGlobals x with
  | some (some u) => wB K w u
  | _ => false
/-- x is the module's constant w -/
def KonAt (K : PySem.W.Frag) (mg : Str → Option Value) (x : Str) (w : W) : Prop := ∃ u, mg x = some u ∧ Con1 K w u
theorem gB_ok {K : PySem.W.Frag} {h : Heap} {mg : Str → Option Value} (X : K.In h) (G : h.Ns mainGlobals mg) {x : Str} {w : W} (c : gB K x w = true) : KonAt K mg x w := by
  unfold gB at c
  cases q : PySem.W.nsIn K mainGlobals x with
  | none => rw [q] at c; cases c
  | some r =>
    rw [q] at c
    cases r with
    | none => cases c
    | some u => exact ⟨u, PySem.W.mg_of X G q, wB_ok c⟩
/-- a table's worths -/
def tB (K : PySem.W.Frag) (d : Addr) : List (Nm × W) → Bool
  | [] => true
  | (s, w) :: r => (match PySem.W.nsIn K d (toS s) with
    | some (some u) => wB K w u
    | _ => false) && tB K d r
theorem tab_hit {K : PySem.W.Frag} {d : Addr} : ∀ {t : List (Nm × W)} {s : Nm} {c : W}, tB K d t = true → lookN s t = some c → ∃ (u : Value) (v : V), PySem.W.nsIn K d (toS s) = some (some u) ∧ RelV v u ∧ ∀ mu N H, RW K mu N H c v
  | [], _, _, _, e => nomatch e
  | (k, w) :: r, s, c, h, e => by
    unfold tB at h
    rw [Bool.and_eq_true] at h
    unfold lookN at e
    split at e
    · rename_i q
      have q' : k = s := by simpa using q
      subst q'
      cases e
      have h1 := h.1
      split at h1
      · rename_i u z
        obtain ⟨v, r1, r2⟩ := wB_ok h1
        exact ⟨u, v, z, r1, r2⟩
      · cases h1
    · exact tab_hit h.2 e
theorem look_none {s : Nm} : ∀ {t : List (Nm × W)}, lookN s t = none → s ∉ t.map (·.1)
  | [], _, h => absurd h (by simp)
  | (k, w) :: r, e, h => by
    unfold lookN at e
    split at e
    · cases e
    · rename_i q
      rcases List.mem_cons.mp h with z | z
      · exact q (by simp [z])
      · exact look_none e z
theorem tab_ok {K : PySem.W.Frag} {w : World} {d : Addr} {t : List (Nm × W)} (h1 : He.dicW K d = some (He.keysIn w.params (t.map fun p => toS p.1))) (h2 : tB K d t = true) : TabOk K w d t where
  kd := He.dicW_ok h1
  hit := fun s c e => tab_hit h2 e
  miss := fun s e => nsIn_miss h1 fun m => by
    obtain ⟨p, hp, e1⟩ := List.mem_map.mp m
    exact look_none e (List.mem_map.mpr ⟨p, hp, toS_inj e1⟩)
section
variable {X : Cx} {Wx : WX} {e a b c : Expr} {es : List Expr} {s sa sb sc : SE} {x : Str} {p pos cpos apos : Pos}
theorem pw_k {w : W} (hg : Gl X x) (hm : KonAt X.K X.mg x w) (hd : (x == ("__debug__" : Str)) = false) : PEW X Wx (.Name x pos) (sC w) := by
  obtain ⟨u, h1, v, h2, h3⟩ := hm
  exact PE.weak (pe_glob hg h1 h2 hd) fun σ H Q ⟨G, env, h, R, q⟩ => q.here R (h3 _ _ _)
theorem pw_tabk {t : List (Nm × W)} {d : Addr} (T : TabOk X.K X.w d t) (hg : Gl X x) (hm : X.mg x = some (.ref d)) (hd : (x == ("__debug__" : Str)) = false) (he : PEW X Wx a sa) (hf : PEW X Wx b sb) (m : M2 X (.Name x p) "get" apos a b cpos) : PEW X Wx (.Call (.Attribute (.Name x p) "get" apos) [a, b] [] cpos) (sTab t sa sb) := pw_tab T hg hm rfl hd he hf m
theorem ptw_chain {op op' : CmpOp} {g g' : G2} {r r' : R2} (ho : OpR X (compareOp op) r) (ho' : OpR X (compareOp op') r') (o : OpC X g r) (o' : OpC X g' r') (ha : PET X Wx a sa) (hb : PET X Wx b sb) (hc : PET X Wx c sc)
    (h1 : lastMarks [op, op'] [b, c] = false) : PTW X Wx (.Compare a [op, op'] [b, c] pos) (tV (sChain g g' sa sb sc)) :=
  PT.weak (pt_chain ho ho' ha hb hc h1) fun σ H Q t => by
    obtain ⟨G, env, h, R, q⟩ := tV_of t
    refine ⟨G, env, h, R, ?_⟩
    have q0 : PostR X.K G env σ H Wx (rT X.K) (fun x H1 => ∃ k, x = V.bl k ∧ Q k H1) ((sa env h).bind fun x h => (sb env h).bind fun y h => (g x y h).bind fun z h => match z with
      | .bl true => (sc env h).bind fun u h => g' y u h
      | .bl false => .ok (.bl false) h
      | _ => .bad) := q
    refine (PostR.bind (rel := rT X.K) q0).mono fun v H1 ⟨w, h1, mu1, R1, S1, r1, q1⟩ => ?_
    refine ⟨_, env, h1, R1, (PostR.bind (rel := rT X.K) q1).mono fun u H2 ⟨z, h2, mu2, R2, S2, r2, q2⟩ => ?_⟩
    refine o _ env h2 σ H2 Wx _ w z v u R2 (r1.step S2 R2) r2 ((PostR.bind (rel := rW X.K) q2).mono fun t H3 ⟨y, h3, mu3, R3, S3, r3, q3⟩ => ?_)
    cases y with
    | bl k =>
      refine ⟨k, r3.inv_bl, ?_⟩
      cases k with
      | false =>
        obtain ⟨k', e', q'⟩ := q3 (.bl false) _ H3 R3 (Step.refl _ _) (.inl (.bl false))
        cases e'
        exact ⟨false, rfl, q'⟩
      | true =>
        refine ⟨_, env, h3, R3, (PostR.bind (rel := rT X.K) q3).mono fun s H4 ⟨x, h4, mu4, R4, S4, r4, q4⟩ => ?_⟩
        refine o' _ env h4 σ H4 Wx _ z x u s R4 ((r2.step S3 R3).step S4 R4) r4 ?_
        generalize g' z x h4 = rr at q4
        cases rr with
        | ok w h' => exact fun v mu' H' R' S r => q4 v mu' H' R' S (.inl r)
        | ex c p h' => exact q4
        | bad => exact q4
    | _ => exact False.elim q3
end
end MP
end

section
set_option Elab.async false
set_option linter.all false
set_option maxRecDepth 100000
set_option autoImplicit false
/-! MP19: enumerate, zip, comprehensions of dicts, over d.items(), d.pop(k). -/
namespace MP
open PySem PySem.Spec PyProof.Rows L2
/-! ### enumerate over a tuple, at HandS's level -/
set_option maxHeartbeats 1000000 in
theorem enum_new1 {v : Value} {ob : Obj} {HP : Heap → Prop} (B : Begins v ob HP) :
    Meets (Builtin.«enumerate.__new__» ⟨[.type "enumerate", v], []⟩) (fun _ R st => HP st.heap ∧ R (.ok (.ret (.ref (st.heap.push ob).objs.size)))
      { st with heap := (st.heap.push ob).push { cls := .type "enumerate", data := .fields #[.none, .bool false, .ref st.heap.objs.size, rawInt 0, .none, .none] } }) :=
  .of_wp fun prog w A R st hz => by
    obtain ⟨hp, g, d, tk, os⟩ := st; obtain ⟨h1, hz⟩ := hz
    have hsub := sub_enumerate
    have q1 : ∀ {A' : Around} {E Q : Value → Shared → Prop}, Q (.ref hp.objs.size) ⟨hp.push ob, g, d, tk, os⟩ → wpAny (model prog w) A' (pyIter v) Q E ⟨hp, g, d, tk, os⟩ := fun q => B.iter prog w _ _ ⟨hp, g, d, tk, os⟩ _ h1 q
    wp_walk using q1
    refine wpAny_stack_any fun st => wpAny_pure ?_
    split
    · rename_i c _ _ _ _ _
      cases (c == Value.type "enumerate") <;> (wp_walk using q1) <;> exact ⟨_, rfl, hz⟩
    · wp_walk using q1
      exact ⟨_, rfl, hz⟩
theorem call_enum1 {prog : Program} {w : World} {A : Around} {E Q : Value → Shared → Prop} {st : Shared} {v : Value} {ob : Obj} {HP : Heap → Prop} (B : Begins v ob HP) (h1 : HP st.heap)
    (hq : ∀ h', IsEnum h' (st.heap.objs.size + 1) st.heap.objs.size 0 .none → h'.get? st.heap.objs.size = some ob → (∀ b o, st.heap.get? b = some o → h'.get? b = some o) → Q (.ref (st.heap.objs.size + 1)) { st with heap := h' }) :
    wpAny (model prog w) A (call (.type "enumerate") [v]) Q E st := by
  refine callType_new F.called_enumerate (by decide) (F.typeCall_enumerate_1 _) (F.newCall_enumerate_1 _) (fun obj => F.args_object_init_2 obj _) F.entry_enumerate_new (enum_new1 B) ⟨h1, ?_⟩
  have hz : (st.heap.push ob).objs.size = st.heap.objs.size + 1 := Heap.size_push ..
  show _ ∧ _
  rw [hz]
  have he : IsEnum ((st.heap.push ob).push { cls := .type "enumerate", data := .fields #[.none, .bool false, .ref st.heap.objs.size, rawInt 0, .none, .none] }) (st.heap.objs.size + 1) st.heap.objs.size 0 .none := by
    have q := Heap.get?_push_size (st.heap.push ob) (o := { cls := .type "enumerate", data := .fields #[.none, .bool false, .ref st.heap.objs.size, rawInt 0, .none, .none] }) rfl
    rw [hz] at q
    exact q
  exact ⟨⟨_, he, rfl⟩, hq _ he (Heap.get?_push_of_some _ (Heap.get?_push_size _ B.free)) fun b o x => Heap.get?_push_of_some _ (Heap.get?_push_of_some _ x)⟩
/-- the tuple at a, each item in a new pair -/
def IteT (K : PySem.W.Frag) (a : Addr) : It :=
  ⟨fun i H => ∃ (xs : List V) (x : V), SqT K H a xs ∧ xs[i]? = some x, fun i H v H' => ∃ T x, v = .ref T ∧ H T = none ∧ H' = L2.upd H T (.tup [.int (i : Nat), x]) ∧ ∀ xs, SqT K H a xs → xs[i]? = some x, fun i H => ∃ xs : List V, SqT K H a xs ∧ xs.length ≤ i⟩
theorem turn_enumT {P : Program} {w : World} {K : PySem.W.Frag} {elts : List Expr} {kk : Nat} {tpos : Pos} (a e it : Addr) :
    Turn P w K (.Tuple elts kk tpos) (IteT K a) [e, it] e (fun i h => (∃ old, IsEnum h e it ((i : Nat) : Int) old) ∧ h.IsTupleIter it a i ∧ e ≠ it ∧ a ≠ it ∧ a ≠ e) where
  mem := by simp
  obj := fun i h st b hb => by
    obtain ⟨⟨old, he⟩, ⟨o, ho, hc, hd⟩, _⟩ := st
    have e' : b = e ∨ b = it := by simpa using hb
    rcases e' with z | z
    · rw [z]; exact ⟨_, he, fun v q => nomatch q⟩
    · rw [z]; exact ⟨o, ho, fun v q => by rw [hd] at q; cases q⟩
  keep := fun i h h' st k => let ⟨⟨old, he⟩, hi, hne⟩ := st; ⟨⟨old, k e (by simp) _ he⟩, hi.at fun o q => k it (by simp) o q, hne⟩
  item := by
    intro X hP hw hK hc i pins s σ H E I hf st hg
    subst hP hw hK
    obtain ⟨⟨old, he⟩, hit, hne, hai, hae⟩ := st
    obtain ⟨xs, x, hq, hx⟩ := hg
    obtain ⟨its, rv, p, hz⟩ := I.tuple hq
    have p : s.heap.IsTuple a its.toArray := p
    obtain ⟨u, hu, ru⟩ := rv.get hx
    have hel : e < s.heap.objs.size := Heap.lt_size he
    have hil : it < s.heap.objs.size := by obtain ⟨_, q, _⟩ := hit; exact Heap.lt_size q
    have hlt : i < its.toArray.size := by
      have := (List.getElem?_eq_some_iff.mp hu).1
      simpa using this
    have D := Draws.tuple (prog := X.prog) (w := X.w) (A := X.A.in1) (I.ok.hd hc) it a hai its.toArray
    refine wpAny_pyNext_enum_itemD D he ⟨hit, p⟩ hlt hne (by simp [hne, hae.symm]) fun y h' tk hy ho hit' hT hsz hk => ?_
    have hy : its.toArray[i]? = some y := hy
    have hyu : y = u := by
      have e1 : its[i]? = some y := by simpa using hy
      rw [hu] at e1
      exact (Option.some.inj e1).symm
    subst hyu
    refine ⟨_, rfl, wpAny_letOwnedTupleGo_enum (s := { s with heap := h', toks := tk + 1 }) ho fun h'' he' sb => ?_⟩
    have hT2 : h''.get? s.heap.objs.size = some { cls := .type "tuple", data := .seq #[.int i tk, y] } := (sb.2 _ (Nat.ne_of_gt hel)).trans hT
    have new : ObjOk X.prog X.w (L2.upd H s.heap.objs.size (.tup [.int (i : Nat), x])) h'' s.heap.objs.size (.tup [.int (i : Nat), x]) :=
      ⟨by show 2 ≤ sizeLine; decide, [.int i tk, y], .cons ⟨_, rfl⟩ (.cons ru .nil), ⟨_, hT2, rfl, _, rfl⟩⟩
    have I1 : Inv X pins σ (L2.upd H s.heap.objs.size (.tup [.int (i : Nat), x])) { s with heap := h'', toks := tk + 1 } :=
      I.turnedNew (ch := [e, it]) (fun b ob hb q => (sb.2 b (fun z => hb (by simp [z]))).trans (hk b ob (fun z => hb (by simp [z])) (fun z => hb (by simp [z])) q)) hf (Nat.le_refl _) new
    refine ⟨.ref s.heap.objs.size, _, I1, rfl, ⟨_, x, rfl, I.hok.fresh (Nat.le_refl _), rfl, fun ys hy => by rw [I.tuple_inj hy hq]; exact hx⟩, ⟨⟨y, ?_⟩, hit'.1.at fun o q => (sb.2 it (Ne.symm hne)).trans q, hne, hai, hae⟩, fun b hb => ?_⟩
    · have e1 : ((i + 1 : Nat) : Int) = (i : Int) + 1 := by omega
      rw [e1]; exact he'
    · have hb' : b < s.heap.objs.size := by
        have e' : b = e ∨ b = it := by simpa using hb
        rcases e' with z | z
        · rw [z]; exact hel
        · rw [z]; exact hil
      rw [upd_ne (Nat.ne_of_lt hb')]
      exact (hf b hb).1
  done := by
    intro X hP hw hK hc i pins s σ H E I hf st hg
    subst hP hw hK
    obtain ⟨⟨old, he⟩, hit, hne, hai, hae⟩ := st
    obtain ⟨xs, hq, hx⟩ := hg
    obtain ⟨its, rv, p, hz⟩ := I.tuple hq
    have p : s.heap.IsTuple a its.toArray := p
    obtain ⟨f0, f1, f2, f3, f4, f5⟩ := hf it (by simp)
    have hl := rv.length
    have hT : s.TypeIs (.ref e) "enumerate" := ⟨_, he, rfl⟩
    unfold pyNext
    refine wpAny_bind (wpAny_attempt (wpAny_callSpecial?_slot (name := Str.ofString "__next__") hT F.slot_enumerate_next (wpAny_call_entry F.slot_enumerate_next hT F.entry_enumerate_next ?_ (F.args_enumerate_next_1 _))))
    show wpAny _ _ (field (.ref e) 2 >>= _) _ _ _
    refine wpAny_bind (wpAny_field he rfl (x := .ref it) rfl ?_)
    refine wpAny_bind (wpAny_nextOf_tuple_end (I.ok.hd hc) hit p (by simp; omega) fun h' x eb hx' => ?_)
    obtain ⟨o, ho, hc'⟩ := hx'
    refine wpAny_bind (wpAny_isInstance (T := "StopIteration") (b := true) ⟨o, ho, hc'⟩ isSubtype_stop ?_)
    exact wpAny_pure ⟨rfl, I.turned (t' := s.toks) (fun b o hb q => eb b o hb q) f0 f1 f3 f4 f5⟩
  self := fun A i s Q E st h => let ⟨⟨_, he⟩, _⟩ := st; wpAny_pyIter_enum he h
def iEnumT (K : PySem.W.Frag) (ta : TA) : TI := fun σ H R => ta σ H fun vs H1 => ∃ a xs, vs = [.ref a] ∧ SqT K H1 a xs ∧ R (IteT K a) H1
theorem pi_enumT {X : Cx} {e : Expr} {ta : TA} {p pos tpos : Pos} {elts : List Expr} {kk : Nat} (hg : Gl X "enumerate") (hm : X.mg "enumerate" = none) (ha : PA X [e] ta) (hs : starEach [e] X.env = [(false, eval e X.env)]) :
    PI X (.Tuple elts kk tpos) (.Call (.Name "enumerate" p) [e] [] pos) (iEnumT X.K ta) := by
  refine ⟨fun pins s σ H R I h => ?_⟩
  refine Call_ (ld_blt I hg hm boot_enumerate (PyProof.Rows.callWith_type1 (thn (ha.run pos pins s σ H _ I h) fun us s1 ⟨vs, H1, I1, r1, q1⟩ => ?_) hs rfl))
  obtain ⟨a, xs, ex, hq, q⟩ := q1
  subst ex
  cases r1 with
  | cons r rr =>
    cases rr
    cases r
    obtain ⟨its, rv, p', hz⟩ := I1.tuple hq
    have p' : s1.heap.IsTuple a its.toArray := p'
    have la : a < s1.heap.objs.size := by obtain ⟨_, q, _⟩ := p'; exact Heap.lt_size q
    refine call_enum1 (begins_tuple a its.toArray) p' fun h' he hit hk => wpAny_pyIter_enum he ?_
    have I2 : Inv X pins σ H1 { s1 with heap := h' } := I1.kept (t' := s1.toks) hk
    refine ⟨s1.heap.objs.size + 1, [s1.heap.objs.size + 1, s1.heap.objs.size], _, _, H1, rfl, I2, turn_enumT a (s1.heap.objs.size + 1) s1.heap.objs.size, ⟨⟨.none, he⟩, ⟨_, hit, rfl, rfl⟩, Nat.succ_ne_self _, Nat.ne_of_lt la, Nat.ne_of_lt (Nat.lt_succ_of_lt la)⟩, fun b hb => ?_, q⟩
    have e' : b = s1.heap.objs.size + 1 ∨ b = s1.heap.objs.size := by simpa using hb
    have hle : s1.heap.objs.size ≤ b := by
      rcases e' with z | z
      · rw [z]; exact Nat.le_add_right _ _
      · rw [z]; exact Nat.le_refl _
    exact I1.fpOk hle (I1.hok.fresh hle)
end MP
end

section
set_option Elab.async false
set_option linter.all false
set_option maxRecDepth 100000
set_option autoImplicit false
/-! MP20: the rules for enumerate, zip, comprehensions of dicts and over d.items(), d.pop(k). -/
namespace MP
open PySem PySem.Spec PyProof.Rows L2
section
variable {K : PySem.W.Frag} {G : Gh} {H : Hp} {a b : Addr}
theorem numW_len : ∀ (ws : List W) (n : Nat), (numW n ws).length = ws.length
  | [], _ => rfl
  | _ :: ws, n => by simp [numW, numW_len ws]
theorem numW_get : ∀ (ws : List W) (n i : Nat) {w : W}, (numW n ws)[i]? = some w → ∃ u, ws[i]? = some u ∧ w = .tup [.int ((n + i : Nat) : Int), u]
  | [], _, _, _, e => by simp [numW] at e
  | x :: ws, n, 0, w, e => ⟨x, by simp, by simp [numW] at e; simp [← e]⟩
  | x :: ws, n, i + 1, w, e => by
    have e' : (numW (n + 1) ws)[i]? = some w := by simpa [numW] using e
    obtain ⟨u, h1, h2⟩ := numW_get ws (n + 1) i e'
    exact ⟨u, by simpa using h1, by rw [h2]; congr 3; omega⟩
theorem zipW_len : ∀ (xs ys : List W), (zipW xs ys).length = min xs.length ys.length
  | [], _ => by simp [zipW]
  | _ :: _, [] => by simp [zipW]
  | _ :: xs, _ :: ys => by simp [zipW, zipW_len xs ys]
theorem zipW_get : ∀ (xs ys : List W) (i : Nat) {w : W}, (zipW xs ys)[i]? = some w → ∃ u v, xs[i]? = some u ∧ ys[i]? = some v ∧ w = .tup [u, v]
  | [], _, _, _, e => by simp [zipW] at e
  | _ :: _, [], _, _, e => by simp [zipW] at e
  | x :: xs, y :: ys, 0, w, e => ⟨x, y, by simp, by simp, by simp [zipW] at e; exact e.symm⟩
  | x :: xs, y :: ys, i + 1, w, e => by
    obtain ⟨u, v, h1, h2, h3⟩ := zipW_get xs ys i (w := w) (by simpa [zipW] using e)
    exact ⟨u, v, by simpa using h1, by simpa using h2, h3⟩
/-- a pair just laid -/
theorem pair_new {mu1 : List Addr} {N1 : Addr → Prop} {H1 : Hp} {T : Addr} {x y : V} {u v : W} (hT : H1 T = none) (nn : ∀ b, N1 b → (H1 b).isSome = true) (rx : RW K mu1 N1 H1 u x) (ry : RW K mu1 N1 H1 v y) :
    Ext H1 (L2.upd H1 T (.tup [x, y])) ∧ RW K mu1 N1 (L2.upd H1 T (.tup [x, y])) (.tup [u, v]) (.ref T) := by
  have ex : Ext H1 (L2.upd H1 T (.tup [x, y])) := Ext.upd hT
  refine ⟨ex, .tup (.inl ⟨.inl upd_same, fun z => ?_⟩) (.cons (rx.keep ex.keeps (Longer.refl _)) (.cons (ry.keep ex.keeps (Longer.refl _)) .nil))⟩
  have := nn T z
  rw [hT] at this
  cases this
theorem its_enuL {xs : List V} {ws : List W} (t : SclAt K G.N H a xs) (r : RWs K G.mu G.N H ws xs) : ItS K G H (Ite K a) (numW 0 ws) where
  go := fun i N1 H1 k hi => by
    have hl := r.length
    rw [numW_len] at hi
    exact ⟨xs, xs[i]'(by omega), (t.keep k).sq, by simp⟩
  stop := fun i N1 H1 k hi => ⟨xs, (t.keep k).sq, by rw [← r.length]; rw [numW_len] at hi; exact hi⟩
  yld := fun i m N1 H1 x H2 w k nn l e y => by
    obtain ⟨T, x', rfl, hT, rfl, y⟩ := y
    obtain ⟨u, e0, rfl⟩ := numW_get ws 0 i e
    obtain ⟨v, e1, r1⟩ := r.get e0
    have e2 := y xs (t.keep k).sq
    rw [e1] at e2
    cases e2
    rw [Nat.zero_add]
    exact pair_new hT nn (.int _) (r1.keep k l)
theorem its_enuT {xs : List V} {ws : List W} (t : TupAt K G.N H a xs) (r : RWs K G.mu G.N H ws xs) : ItS K G H (IteT K a) (numW 0 ws) where
  go := fun i N1 H1 k hi => by
    have hl := r.length
    rw [numW_len] at hi
    exact ⟨xs, xs[i]'(by omega), (t.keep k).sq, by simp⟩
  stop := fun i N1 H1 k hi => ⟨xs, (t.keep k).sq, by rw [← r.length]; rw [numW_len] at hi; exact hi⟩
  yld := fun i m N1 H1 x H2 w k nn l e y => by
    obtain ⟨T, x', rfl, hT, rfl, y⟩ := y
    obtain ⟨u, e0, rfl⟩ := numW_get ws 0 i e
    obtain ⟨v, e1, r1⟩ := r.get e0
    have e2 := y xs (t.keep k).sq
    rw [e1] at e2
    cases e2
    rw [Nat.zero_add]
    exact pair_new hT nn (.int _) (r1.keep k l)
theorem its_zip {xs ys : List V} {ws us : List W} (t : SclAt K G.N H a xs) (r : RWs K G.mu G.N H ws xs) (t2 : SclAt K G.N H b ys) (r2 : RWs K G.mu G.N H us ys) : ItS K G H (Itz K a b) (zipW ws us) where
  go := fun i N1 H1 k hi => by
    have hl := r.length
    have hl2 := r2.length
    rw [zipW_len] at hi
    exact ⟨xs, ys, xs[i]'(by omega), ys[i]'(by omega), (t.keep k).sq, (t2.keep k).sq, by simp, by simp⟩
  stop := fun i N1 H1 k hi => ⟨xs, ys, (t.keep k).sq, (t2.keep k).sq, by
    have hl := r.length
    have hl2 := r2.length
    rw [zipW_len] at hi
    omega⟩
  yld := fun i m N1 H1 x H2 w k nn l e y => by
    obtain ⟨T, x', y', rfl, hT, rfl, yx, yy⟩ := y
    obtain ⟨u, v, e0, e3, rfl⟩ := zipW_get ws us i e
    obtain ⟨v1, e1, r1⟩ := r.get e0
    obtain ⟨v2, e4, r4⟩ := r2.get e3
    have q1 := yx xs (t.keep k).sq
    have q2 := yy ys (t2.keep k).sq
    rw [e1] at q1
    rw [e4] at q2
    cases q1
    cases q2
    exact pair_new hT nn (r1.keep k l) (r4.keep k l)
end
section
variable {X : Cx} {Wx : WX} {e e2 a : Expr} {sa sb : SE} {ss : SA} {pos p tpos : Pos} {elts : List Expr} {kk : Nat}
theorem pis_enu (hg : Gl X "enumerate") (hm : X.mg "enumerate" = none) (ha : PAW X Wx [e] ss) (hs : starEach [e] X.env = [(false, eval e X.env)]) :
    PIS X Wx (.Tuple elts kk tpos) (.Call (.Name "enumerate" p) [e] [] pos) (iEnu ss) :=
  PI.weak (PI.or (pi_enum hg hm ha hs) (pi_enumT hg hm ha hs)) fun σ H Q ⟨G, env, h, R, q⟩ => by
    have q0 : PostR X.K G env σ H Wx (riS X.K) Q ((ss env h).bind fun xs h => match xs with
      | [x] => ofO ((itemsOf x).map (numW 0)) h
      | _ => .bad) := q
    cases es : ss env h with
    | ok ws h' =>
      rw [es] at q0
      cases ws with
      | nil => exact q0.elim
      | cons w r =>
        cases r with
        | cons _ _ => exact q0.elim
        | nil =>
          have q1 : PostR X.K G env σ H Wx (riS X.K) Q (ofO ((itemsOf w).map (numW 0)) h') := q0
          cases w with
          | tup ws =>
            refine .inr ⟨G, env, h, R, ?_⟩
            rw [es]
            intro vs mu' H' R' S r
            obtain ⟨v, r', rfl, rx, rn⟩ := RWs.inv_cons r
            cases RWs.inv_nil rn
            obtain ⟨b, xs, rfl, t, rr⟩ := RW.inv_tup rx
            exact ⟨b, xs, rfl, t.sq, q1 _ mu' H' R' S (its_enuT t rr)⟩
          | lst ws =>
            refine .inl ⟨G, env, h, R, ?_⟩
            rw [es]
            intro vs mu' H' R' S r
            obtain ⟨v, r', rfl, rx, rn⟩ := RWs.inv_cons r
            cases RWs.inv_nil rn
            obtain ⟨b, xs, rfl, t, rr⟩ := RW.inv_lst rx
            exact ⟨b, xs, rfl, SqL.of t.1, q1 _ mu' H' R' S (its_enuL (.inl ⟨.inl t.1, t.2⟩) rr)⟩
          | scr ws =>
            refine .inl ⟨G, env, h, R, ?_⟩
            rw [es]
            intro vs mu' H' R' S r
            obtain ⟨v, r', rfl, rx, rn⟩ := RWs.inv_cons r
            cases RWs.inv_nil rn
            cases rx with
            | scr t => exact ⟨_, _, rfl, t.sq, q1 _ mu' H' R' S (its_enuL t (ints_rw ws))⟩
          | _ => exact q1.elim
    | ex c p h' =>
      rw [es] at q0
      refine .inl ⟨G, env, h, R, ?_⟩
      rw [es]
      exact q0
    | bad =>
      rw [es] at q0
      exact q0.elim
theorem pis_zip (hg : Gl X "zip") (hm : X.mg "zip" = none) (ha : PAW X Wx [e, e2] ss) (hs : starEach [e, e2] X.env = (false, eval e X.env) :: starEach [e2] X.env) (hpl : (backTo pos (starEach [e2] X.env)).any (·.1) = false) :
    PIS X Wx (.Tuple elts kk tpos) (.Call (.Name "zip" p) [e, e2] [] pos) (iZip2 ss) :=
  PI.weak (pi_zip hg hm ha hs hpl) fun σ H Q ⟨G, env, h, R, q⟩ => ⟨G, env, h, R, by
    have q0 : PostR X.K G env σ H Wx (riS X.K) Q ((ss env h).bind zipOf) := q
    cases es : ss env h with
    | ok ws h' =>
      rw [es] at q0
      intro vs mu' H' R' S r
      have q1 : PostR X.K G env σ H Wx (riS X.K) Q (zipOf ws h') := q0
      have zo : ∃ as bs, ws = [.lst as, .lst bs] := by
        unfold zipOf at q1
        split at q1
        · exact ⟨_, _, rfl⟩
        · exact q1.elim
      obtain ⟨as, bs, rfl⟩ := zo
      obtain ⟨v, r', rfl, rx, rn⟩ := RWs.inv_cons r
      obtain ⟨v2, r2, rfl, ry, rn⟩ := RWs.inv_cons rn
      cases RWs.inv_nil rn
      obtain ⟨b, xs, rfl, t, rr⟩ := RW.inv_lst rx
      obtain ⟨b2, ys, rfl, t2, rr2⟩ := RW.inv_lst ry
      exact ⟨b, b2, xs, ys, rfl, SqL.of t.1, SqL.of t2.1, q1 _ mu' H' R' S (its_zip (.inl ⟨.inl t.1, t.2⟩) rr (.inl ⟨.inl t2.1, t2.2⟩) rr2)⟩
    | ex c p h' =>
      rw [es] at q0
      exact q0
    | bad =>
      rw [es] at q0
      exact q0.elim⟩
end
/-! ### d.pop(k) -/
theorem drop_rel {K : PySem.W.Frag} {mu : List Addr} {N : Addr → Prop} {H : Hp} {k : Key} : ∀ {kvs : List (Key × V)} {ws : List W}, RWs K mu N H ws (kvs.map (·.2)) →
    ∃ ws', dropW (wKey k) ((kvs.map fun p => wKey p.1).zip ws) = ((dropK kvs k).map fun p => wKey p.1).zip ws' ∧ RWs K mu N H ws' ((dropK kvs k).map (·.2))
  | [], ws, r => by
    cases r
    exact ⟨[], rfl, .nil⟩
  | (k', v') :: kvs, ws, r => by
    cases r with
    | cons r1 t =>
      rename_i w' ws'
      obtain ⟨us, e1, r2⟩ := drop_rel (k := k) t
      have e2 : dropW (wKey k) ((((k', v') :: kvs).map fun p => wKey p.1).zip (w' :: ws')) = (if eqW (wKey k') (wKey k) = true then dropW (wKey k) ((kvs.map fun p => wKey p.1).zip ws') else (wKey k', w') :: dropW (wKey k) ((kvs.map fun p => wKey p.1).zip ws')) := rfl
      rw [e2, e1, eq_wKey]
      by_cases q : k' = k
      · have e3 : dropK ((k', v') :: kvs) k = dropK kvs k := by simp [dropK, List.filter_cons, q]
        rw [decide_eq_true q, if_pos rfl, e3]
        exact ⟨us, rfl, r2⟩
      · have e3 : dropK ((k', v') :: kvs) k = (k', v') :: dropK kvs k := by simp [dropK, List.filter_cons, q]
        rw [decide_eq_false q, if_neg Bool.false_ne_true, e3]
        exact ⟨w' :: us, rfl, .cons r1 r2⟩
section
variable {X : Cx} {Wx : WX} {o a kx : Expr} {so sk : SE} {pos apos cpos : Pos}
theorem sw_pop (ho : PEW X Wx o so) (hk : PEW X Wx kx sk) (m : M1 X o "pop" apos kx cpos) (hsw : swapsWith (.Call (.Attribute o "pop" apos) [kx] [] cpos) none pos.line X.env = pure false) :
    PSW X Wx (.Expr (.Call (.Attribute o "pop" apos) [kx] [] cpos) pos) (kPop so sk) :=
  PS.weak (ps_expr (pe_dpop1 ho hk m) hsw) fun D σ H ⟨G, env, h, R, q⟩ => ⟨G, env, h, R, (PostS.out (rel := rW X.K) q).mono fun u H1 ⟨w, h1, mu1, R1, S1, r1, q1⟩ => by
    cases eh : heapD w h1 with
    | none => rw [eh] at q1; exact q1.elim
    | some nw =>
      rw [eh] at q1
      obtain ⟨n, kvs⟩ := nw
      obtain ⟨rfl, e1⟩ := heapD_some eh
      obtain ⟨b, rfl, mm⟩ := r1.inv_ref
      refine ⟨b, rfl, ?_, _, env, h1, R1, (PostS.out (rel := rW X.K) q1).mono fun y H2 ⟨kv, h2, mu2, R2, S2, r2, q2⟩ => ?_⟩
      · cases R1.hdct e1 mm with
        | dK eD _ => exact .inl ⟨_, .inl eD⟩
      · unfold popAt at q2
        cases eh2 : heapD (.ref n) h2 with
        | none => rw [eh2] at q2; exact q2.elim
        | some nw2 =>
          rw [eh2] at q2
          obtain ⟨n2, kvs2⟩ := nw2
          obtain ⟨e3, e4⟩ := heapD_some eh2
          cases e3
          dsimp only at q2
          have m2 : mu2[n]? = some b := S2.mu n b mm
          split at q2
          · rename_i hz
            rw [Bool.and_eq_true] at hz
            obtain ⟨key, rfl, rfl⟩ := wKey_of R2 (.inl r2) hz.1
            cases R2.hdct e4 m2 with
            | @dK ks us eD rr =>
              obtain ⟨us', e5, r5⟩ := drop_rel (k := key) rr
              rcases look_or (k := key) rr with ⟨w', v', z1, z2, z3⟩ | ⟨z1, z2⟩
              · have iN : (G.at mu2).N b := .inr (.inl (List.mem_of_getElem? m2))
                rw [e5] at q2
                obtain ⟨R4, S4⟩ := R2.objput (n := n) (ho := .dK (dropK ks key)) m2 (fun _ _ z => by rw [eD] at z; cases z) (.dct (.dK upd_same (r5.keep (keeps_at iN) (Longer.refl _))))
                exact ⟨ks, key, v', eD, rfl, z2, q2 _ _ _ R4 S4.toStepS⟩
              · have := hz.2
                rw [z1] at this
                cases this
          · exact q2.elim⟩
end
/-! ### a dict's comprehension -/
theorem dc_loop {K : PySem.W.Frag} {J : It} {ws : List W} {kvf : List (W × W)} {env : MP.Env} {σ : Sg} {G : Gh} {h0 hf : Hea} {H0 : Hp} {D : Addr} {vs sl : List Nat} {g : Tg} {t : MP.ST} {sk sv : SE} {Ex : Hp → Prop}
    (R0 : Rel K G env h0 σ H0) (hD : G.n0 D) (D0 : H0 D = some (.dK [])) (itc : Itc K G H0 J ws) (sub : ∀ j, inS j sl = true → j ∈ vs)
    (run : dcL (wipeE env vs) g t sk sv ws [] h0 = .ok kvf hf)
    (fin : ∀ mu H ks us, Rel K (G.at mu) env hf σ H → StepX D G H0 (G.at mu) H → H D = some (.dK ks) → kvf = (ks.map fun (p : Key × V) => wKey p.1).zip us → RWs K mu (G.at mu).N H us (ks.map fun (p : Key × V) => p.2) → Ex H) :
    ∃ W : Nat → Nat → Hp → Prop, (∃ m, W 0 m H0) ∧ ∀ i m H, W i m H →
      (J.stop i H ∧ Ex H) ∨ (J.go i H ∧ ∃ Nx : Hp → Prop, (∀ H', Nx H' → ∃ m', m' < m ∧ W (i + 1) m' H') ∧ ∀ x H', J.yld i H x H' → tG K sl g x (wipe σ vs) H' fun σ2 H2 => wipe σ2 vs = wipe σ vs ∧ tR K W0 rB t σ2 H2 fun b H3 =>
        if b = true then tR K W0 (rW K) sk σ2 H3 fun y H4 => tR K W0 (rW K) sv σ2 H4 fun z H5 => ∃ kvs k, y = kV k ∧ H5 D = some (.dK kvs) ∧ kvs.length < sizeLine ∧ Nx (L2.upd H5 D (.dK (L2.putK kvs k z))) else Nx H3) := by
  refine ⟨fun i m H => m + i = ws.length ∧ ∃ (mu : List Addr) (ks : List (Key × V)) (us : List W) (h : Hea), Rel K (G.at mu) env h σ H ∧ StepX D G H0 (G.at mu) H ∧ H D = some (.dK ks) ∧ RWs K mu (G.at mu).N H us (ks.map fun (p : Key × V) => p.2) ∧ dcL (wipeE env vs) g t sk sv (ws.drop i) ((ks.map fun (p : Key × V) => wKey p.1).zip us) h = .ok kvf hf,
    ⟨ws.length, rfl, G.mu, [], [], h0, R0, StepX.refl, D0, .nil, run⟩, ?_⟩
  rintro i m H ⟨hm, mu, ks, us, h, R, S, hDl, A, rn⟩
  have kN : Keeps G.N H0 (G.at mu).N H := S.keepN hD
  by_cases hi : i < ws.length
  · refine .inr ⟨itc.go i _ H kN S.fz S.oc hi, fun H' => (m - 1) + (i + 1) = ws.length ∧ ∃ (mu : List Addr) (ks : List (Key × V)) (us : List W) (h : Hea), Rel K (G.at mu) env h σ H' ∧ StepX D G H0 (G.at mu) H' ∧ H' D = some (.dK ks) ∧ RWs K mu (G.at mu).N H' us (ks.map (·.2)) ∧ dcL (wipeE env vs) g t sk sv (ws.drop (i + 1)) ((ks.map fun (p : Key × V) => wKey p.1).zip us) h = .ok kvf hf,
      fun H' z => ⟨m - 1, by omega, z⟩, fun x H2 y => ?_⟩
    have ew : ws[i]? = some ws[i] := by simp [hi]
    obtain ⟨ext, rx⟩ := itc.yld i mu _ H x H2 ws[i] kN (fun b => R.there) S.mu S.fz S.oc ew y
    have ed : ws.drop i = ws[i] :: ws.drop (i + 1) := (List.drop_eq_getElem_cons hi)
    rw [ed] at rn
    have R2 : Rel K (G.at mu) env h σ H2 := R.ext ext
    have S2 : StepX D G H0 (G.at mu) H2 := S.trans (Step.ext R ext).x
    have D2 : H2 D = some (.dK ks) := ext _ _ hDl
    have A2 : RWs K mu (G.at mu).N H2 us (ks.map (·.2)) := A.keep ext.keeps (Longer.refl _)
    have rn1 : (match g ws[i] (wipeE env vs) with
      | none => MP.R.bad
      | some e' => match t e' h with
        | .ok true h => (match sk e' h with
          | .ok kx h => (match sv e' h with
            | .ok x h => if (keyW kx && Nat.blt ((ks.map fun (p : Key × V) => wKey p.1).zip us).length line) = true then dcL (wipeE env vs) g t sk sv (ws.drop (i + 1)) (MP.putK kx x ((ks.map fun (p : Key × V) => wKey p.1).zip us)) h else .bad
            | _ => .bad)
          | _ => .bad)
        | .ok false h => dcL (wipeE env vs) g t sk sv (ws.drop (i + 1)) ((ks.map fun (p : Key × V) => wKey p.1).zip us) h
        | _ => .bad) = .ok kvf hf := rn
    cases eg : g ws[i] (wipeE env vs) with
    | none => rw [eg] at rn1; cases rn1
    | some env' =>
      rw [eg] at rn1
      refine ⟨G.at mu, wipeE env vs, h, ws[i], R2.wiped vs, rx, env', eg, fun σ2 R3 l3 s3 => ⟨wipe_same sub l3 s3, G.at mu, env', h, R3, ?_⟩⟩
      dsimp only at rn1
      have nM : ¬ (G.at mu).M D := fun z => by
        rcases z with z | ⟨j, z⟩
        · exact R.mn D z hD
        · exact (R.om j D z).2.1 hD
      cases et : t env' h with
      | ok b h2 =>
        rw [et] at rn1
        intro b' mu' H3 R4 S4 eb
        have eb' : b = b' := eb
        subst eb'
        have D3 : H3 D = some (.dK ks) := (S4.keep D _ D2 nM).1
        have S4' : StepX D G H0 ((G.at mu).at mu') H3 := S2.trans S4.x
        have A3 : RWs K mu' ((G.at mu).at mu').N H3 us (ks.map (·.2)) := A2.step S4.toStepS
        cases b with
        | false =>
          rw [if_neg Bool.false_ne_true]
          exact ⟨by omega, mu', ks, us, h2, R2.back S4 R4, S4', D3, A3, rn1⟩
        | true =>
          rw [if_pos rfl]
          refine ⟨_, env', h2, R4, ?_⟩
          dsimp only at rn1
          cases es : sk env' h2 with
          | ok kx h3 =>
            rw [es] at rn1
            dsimp only at rn1
            intro y' mu3 H4 R5 S5 r5
            refine ⟨_, env', h3, R5, ?_⟩
            cases es2 : sv env' h3 with
            | ok z h4 =>
              rw [es2] at rn1
              dsimp only at rn1
              split at rn1
              · rename_i hz
                obtain ⟨hk, hz2⟩ := Bool.and_eq_true_iff.mp hz
                intro z' mu4 H5 R6 S6 r6
                obtain ⟨key, rfl, rfl⟩ := wKey_of R5 (.inl r5) hk
                have nM3 : ¬ ((G.at mu).at mu').M D := (S4.keep D _ D2 nM).2
                have q4 := S5.keep D _ D3 nM3
                have D4 : H4 D = some (.dK ks) := q4.1
                have D5 : H5 D = some (.dK ks) := (S6.keep D _ D4 q4.2).1
                have S6' : StepX D G H0 (G.at mu4) H5 := (S4'.trans S5.x).trans S6.x
                have A5 := (A3.step S5.toStepS).step S6.toStepS
                have Rb : Rel K (G.at mu4) env h4 σ H5 := R2.back ((S4.trans S5).trans S6) R6
                have kD : Keeps (G.at mu4).N H5 (G.at mu4).N (L2.upd H5 D (.dK (L2.putK ks key z'))) := fun b u e n => ⟨by rw [upd_ne (fun q => n (.inl (n0_of hD q)))]; exact e, n⟩
                have hl : us.length = ks.length := by rw [A.length, List.length_map]
                obtain ⟨us', e5, r7⟩ := put_rel (k := key) r6 A5
                refine ⟨ks, key, rfl, D5, by rw [← zip_len hl]; exact lt_line hz2, by omega, mu4, L2.putK ks key z', us', h4, Rb.n0upd hD, S6'.trans (StepX.upd Rb hD (fun od u q => by rw [D5] at q; cases q)), upd_same, r7.keep kD (Longer.refl _), ?_⟩
                rw [← e5]
                exact rn1
              · cases rn1
            | ex c p h3 => rw [es2] at rn1; cases rn1
            | bad => rw [es2] at rn1; cases rn1
          | ex c p h3 => rw [es] at rn1; cases rn1
          | bad => rw [es] at rn1; cases rn1
      | ex c p h2 => rw [et] at rn1; cases rn1
      | bad => rw [et] at rn1; cases rn1
  · have ei : ws.length ≤ i := by omega
    refine .inl ⟨itc.stop i _ H kN S.fz S.oc ei, ?_⟩
    rw [List.drop_eq_nil_of_le ei] at rn
    have e2 : MP.R.ok ((ks.map fun p => wKey p.1).zip us) h = .ok kvf hf := rn
    cases e2
    exact fin mu H ks us R S hDl rfl A
section
variable {X : Cx} {Wx : WX} {kx vx elt tg iter : Expr} {ifs : List Expr} {scope : Scope} {own : List (Str × Nat)} {pos : Pos} {si : SI} {sl : List Nat} {g : Tg} {t : MP.ST} {sk sv : SE}
theorem itc_over {K : PySem.W.Frag} {G : Gh} {env : MP.Env} {h : Hea} {σ : Sg} {H : Hp} {J : It} {ws : List W} {D : Addr} {ob : HO} (R : Rel K G env h σ H) (hD : H D = none) (itc : Itc K G H J ws) : Itc K (G.plus D G.mu) (L2.upd H D ob) J ws := by
  have kn : Keeps G.N H (G.plus D G.mu).N (L2.upd H D ob) := keeps_new R hD
  have oc : ∀ j a, G.own j = some a → L2.upd H D ob a = H a := fun j a e => upd_ne (some_ne (R.om j a e).2.2 hD)
  have fz : ∀ {H2 : Hp}, Fz (L2.upd H D ob) H2 → Fz H H2 := fun z a od u e => z a od u (by rw [upd_ne (ne_of_none e hD)]; exact e)
  exact ⟨fun i N1 H2 k z o => itc.go i N1 H2 (fun a u e n => let ⟨e1, n1⟩ := kn a u e n; k a u e1 n1) (fz z) (fun j a e => (o j a e).trans (oc j a e)),
    fun i N1 H2 k z o => itc.stop i N1 H2 (fun a u e n => let ⟨e1, n1⟩ := kn a u e n; k a u e1 n1) (fz z) (fun j a e => (o j a e).trans (oc j a e)),
    fun i m N1 H2 x H3 w k nn l z o => itc.yld i m N1 H2 x H3 w (fun a u e n => let ⟨e1, n1⟩ := kn a u e n; k a u e1 n1) nn l (fz z) (fun j a e => (o j a e).trans (oc j a e))⟩
theorem pf_dc (hc : X.calm = true) (hN : X.N.Nodup) (hi : PIC X Wx tg iter si) (ok : BlkOk X.N X.env.scope scope own) (sub : ∀ j, inS j sl = true → j ∈ own.map (·.2))
    (hg : ∀ (s0 : Shared) (H : Hp) (C : Addr) (cl : List (Str × Addr)) (fp : List Addr), PGW (X.blk s0 H scope (compEnvC scope cl C X.env) fp) tg sl g) (ht : ∀ (s0 : Shared) (H : Hp) (C : Addr) (cl : List (Str × Addr)) (fp : List Addr), PTsW (X.blk s0 H scope (compEnvC scope cl C X.env) fp) W0 ifs t)
    (hk : ∀ (s0 : Shared) (H : Hp) (C : Addr) (cl : List (Str × Addr)) (fp : List Addr), PEW (X.blk s0 H scope (compEnvC scope cl C X.env) fp) W0 kx sk)
    (he : ∀ (s0 : Shared) (H : Hp) (C : Addr) (cl : List (Str × Addr)) (fp : List Addr), PEW (X.blk s0 H scope (compEnvC scope cl C X.env) fp) W0 vx sv) (hs : ∀ x, foldedSetIterable iter X.env x = pure x) :
    PEF X Wx (.DictComp kx vx [⟨tg, iter, ifs, 0⟩] scope pos) (sDc si (own.map (·.2)) g t sk sv) :=
  PE.weak (pe_dc hc hN hi ok hg ht hk he hs) fun σ H Q ⟨G, env, h, R, q⟩ => ⟨G, env, h, R, (PostF.bind (rel := riC X.K) q).mono fun J H1 ⟨ws, h1, mu1, R1, S1, itc, q1⟩ D hD => by
    have q2 : PostF X.K (G.at mu1) env σ H1 Wx Q (if noOwn env (own.map (·.2)) = true then mapR W.dct (dcL (wipeE env (own.map (·.2))) g t sk sv ws [] h1) else .bad) := q1
    split at q2
    · cases er : dcL (wipeE env (own.map (·.2))) g t sk sv ws [] h1 with
      | ok kvf hf =>
        rw [er] at q2
        have R2 : Rel X.K ((G.at mu1).plus D mu1) env h1 σ (L2.upd H1 D (.dK [])) := R1.plus hD
        have itc2 : Itc X.K ((G.at mu1).plus D mu1) (L2.upd H1 D (.dK [])) J ws := itc_over (G := G.at mu1) R1 hD itc
        refine dc_loop (Ex := fun H => Q (.ref D) H) R2 (.inr rfl) upd_same itc2 sub er fun mu H' ks us R3 S3 hDl ek A => ?_
        subst ek
        refine q2 D mu H' R3 ⟨⟨fun a u e n => ?_, S3.mu, rfl, fun a od u e => S3.fz a od u (by rw [upd_ne (ne_of_none e hD)]; exact e)⟩, rfl, fun i a e => ?_⟩ hD (.dK hDl A)
        · have ne : a ≠ D := ne_of_none e hD
          exact S3.keep a u (by rw [upd_ne ne]; exact e) n ne
        · exact (S3.oc i a e).trans (upd_ne (some_ne (R1.om i a e).2.2 hD))
      | ex c p h2 => rw [er] at q2; exact q2.elim
      | bad => rw [er] at q2; exact q2.elim
    · exact q2.elim⟩
end
/-! ### over d.items() -/
theorem rw_key {K : PySem.W.Frag} {mu : List Addr} {N : Addr → Prop} {H : Hp} (k : Key) : RW K mu N H (wKey k) (kV k) := by
  cases k with
  | inl i => exact .int i
  | inr s =>
    have e : (V.str s) = V.str (toS s.cps.toList) := by
      congr 1
    show RW K mu N H (.str s.cps.toList) (V.str s)
    rw [e]
    exact .str _
theorem pairs_len {ks : List (Key × V)} {us : List W} (hl : us.length = ks.length) : (pairsW ((ks.map fun p => wKey p.1).zip us)).length = ks.length := by
  unfold pairsW
  rw [List.length_map, zip_len hl]
theorem itc_items {K : PySem.W.Frag} {G : Gh} {H : Hp} {a : Addr} {od : Obj} {ks : List (Key × V)} {us : List W} (e : H a = some (.frz od (.dK ks))) (r : RWs K G.mu G.N H us (ks.map (·.2))) : Itc K G H (Iti a od ks) (pairsW ((ks.map fun p => wKey p.1).zip us)) := by
  have hl : us.length = ks.length := by rw [r.length, List.length_map]
  exact {
    go := fun i N1 H1 k z oc hi => ⟨z a od _ e, by rw [pairs_len hl] at hi; exact hi⟩
    stop := fun i N1 H1 k z oc hi => ⟨z a od _ e, by rw [pairs_len hl] at hi; exact hi⟩
    yld := fun i m N1 H1 x H2 w k nn l z oc ew y => by
      obtain ⟨T, k1, v1, e1, rfl, hT, rfl⟩ := y
      have hi : i < ks.length := (List.getElem?_eq_some_iff.mp e1).1
      have e2 : (ks.map (·.2))[i]? = some v1 := by rw [List.getElem?_map, e1]; rfl
      have hu : i < us.length := by omega
      obtain ⟨v2, e4, r4⟩ := r.get (List.getElem?_eq_getElem hu)
      rw [e2] at e4
      cases e4
      have e5 : (pairsW ((ks.map fun p => wKey p.1).zip us))[i]? = some (.tup [wKey k1, us[i]]) := by
        unfold pairsW
        have e6 : ((ks.map fun p => wKey p.1).zip us)[i]? = some (wKey k1, us[i]) := List.getElem?_zip_eq_some.mpr ⟨by rw [List.getElem?_map, e1]; rfl, List.getElem?_eq_getElem hu⟩
        rw [List.getElem?_map, e6]
        rfl
      rw [e5] at ew
      cases ew
      exact pair_new hT nn (rw_key k1) (r4.keep k l) }
section
variable {X : Cx} {Wx : WX} {o elt : Expr} {elts ifs : List Expr} {kk : Nat} {tpos apos cpos pos : Pos} {scope : Scope} {own : List (Str × Nat)} {so : SE} {sl : List Nat} {g : Tg} {t : MP.ST} {s : SE}
theorem pf_lcI (hc : X.calm = true) (hN : X.N.Nodup) (ho : PET X Wx o so) (hbase : attributeBase o "items" X.env (eval o X.env) = eval o X.env) (hline : (apos.endLine == cpos.line) = true) (ok : BlkOk X.N X.env.scope scope own) (sub : ∀ j, inS j sl = true → j ∈ own.map (·.2))
    (hg : ∀ (s0 : Shared) (H : Hp) (C : Addr) (cl : List (Str × Addr)) (fp : List Addr), PGW (X.blk s0 H scope (compEnvC scope cl C X.env) fp) (.Tuple elts kk tpos) sl g) (ht : ∀ (s0 : Shared) (H : Hp) (C : Addr) (cl : List (Str × Addr)) (fp : List Addr), PTsW (X.blk s0 H scope (compEnvC scope cl C X.env) fp) W0 ifs t)
    (he : ∀ (s0 : Shared) (H : Hp) (C : Addr) (cl : List (Str × Addr)) (fp : List Addr), PEW (X.blk s0 H scope (compEnvC scope cl C X.env) fp) W0 elt s) (hs : ∀ x, foldedSetIterable (.Call (.Attribute o "items" apos) [] [] cpos) X.env x = pure x) :
    PEF X Wx (.ListComp elt [⟨.Tuple elts kk tpos, .Call (.Attribute o "items" apos) [] [] cpos, ifs, 0⟩] scope pos) (sLcI so (own.map (·.2)) g t s) :=
  PE.weak (pe_lock (pe_lc hc hN (pi_items ho hbase hline) ok hg ht he hs)) fun σ H Q ⟨G, env, h, R, q⟩ => by
    unfold sLcI at q
    cases es : so env h with
    | ex c p h' => rw [es] at q; exact q.elim
    | bad => rw [es] at q; exact q.elim
    | ok w h' =>
      rw [es] at q
      cases w with
      | ref n =>
        dsimp only at q
        cases en : h[n]? with
        | none => rw [en] at q; exact q.elim
        | some ob =>
          rw [en] at q
          cases ob with
          | dct kvs =>
            dsimp only at q
            have hn : n < h.length := (List.getElem?_eq_some_iff.mp en).1
            have hm : n < G.mu.length := by rw [← R.hp.len]; exact hn
            have m : G.mu[n]? = some G.mu[n] := List.getElem?_eq_getElem hm
            generalize G.mu[n] = a at m
            have am : a ∈ G.mu := List.mem_of_getElem? m
            have iN : G.N a := .inr (.inl am)
            cases R.hdct en m with
            | @dK ks us eD rr =>
              refine ⟨a, .dK ks, eD, trivial, fun od => ?_⟩
              obtain ⟨R1, S1⟩ := R.objput (n := n) (ho := .frz od (.dK ks)) (ob := .opq) m (fun _ _ z => by rw [eD] at z; cases z) (.opq upd_same)
              refine ⟨G, env, _, R1, ?_⟩
              unfold lcItems at q
              cases es1 : so env (h.set n .opq) with
              | ex c p h' => rw [es1] at q; exact q.elim
              | bad => rw [es1] at q; exact q.elim
              | ok x h2 =>
                rw [es1] at q
                dsimp only at q
                cases en2 : h2[n]? with
                | none => rw [en2] at q; exact q.elim
                | some ob2 =>
                  rw [en2] at q
                  cases ob2 with
                  | opq =>
                    dsimp only at q
                    split at q
                    · rename_i hz
                      obtain ⟨hx, hno⟩ := Bool.and_eq_true_iff.mp hz
                      cases x with
                      | ref n2 =>
                        have hx : (n2 == n) = true := hx
                        have en3 : n2 = n := by simpa using hx
                        subst en3
                        intro v mu2 H2 R2 S2 rv
                        obtain ⟨b, rfl, mb⟩ := RT.inv_ref R2 rv
                        have ma := S2.mu n2 a m
                        have mb' : mu2[n2]? = some b := mb
                        rw [ma] at mb'
                        cases mb'
                        have e2 : H2 a = some (.frz od (.dK ks)) := S2.fz a od _ upd_same
                        refine ⟨a, od, ks, rfl, e2, fun D hD => ?_⟩
                        cases er : lcL (wipeE env (own.map (·.2))) g t s (pairsW ((ks.map fun p => wKey p.1).zip us)) [] h2 with
                        | ex c p h3 => rw [er] at q; exact q.elim
                        | bad => rw [er] at q; exact q.elim
                        | ok xs hf =>
                          rw [er] at q
                          unfold unopq at q
                          dsimp only at q
                          cases en4 : hf[n2]? with
                          | none => rw [en4] at q; exact q.elim
                          | some ob4 =>
                            rw [en4] at q
                            cases ob4 with
                            | opq =>
                              dsimp only at q
                              have R3 : Rel X.K ((G.at mu2).plus D mu2) env h2 σ (L2.upd H2 D (.lst [])) := R2.plus hD
                              have rr1 : RWs X.K G.mu G.N (L2.upd H a (.frz od (.dK ks))) us (ks.map (·.2)) := rr.keep (keeps_at iN) (Longer.refl _)
                              have itc : Itc X.K (G.at mu2) H2 (Iti a od ks) (pairsW ((ks.map fun p => wKey p.1).zip us)) := itc_items e2 (rr1.step S2.toStepS)
                              refine lc_loop (Ex := fun H' => H' a = some (.frz od (.dK ks)) ∧ Q (.ref D) (L2.upd H' a (.dK ks))) R3 (.inr rfl) upd_same .nil (itc_over (G := G.at mu2) R2 hD itc) sub er fun mu H' vacc R4 S4 hDl A => ?_
                              have aD : a ≠ D := ne_of_none e2 hD
                              have e4 : H' a = some (.frz od (.dK ks)) := S4.fz a od _ (by rw [upd_ne aD]; exact e2)
                              have m4 : mu[n2]? = some a := S4.mu n2 a ma
                              refine ⟨e4, ?_⟩
                              have S12 : Step G H (G.at mu2) H2 := S1.trans S2
                              have rr4 : RWs X.K mu ((G.at mu2).plus D mu).N H' us (ks.map (·.2)) := by
                                have k0 : Keeps (G.at mu2).N H2 ((G.at mu2).plus D mu2).N (L2.upd H2 D (.lst [])) := keeps_new R2 hD
                                exact (((rr1.step S2.toStepS).keep k0 (Longer.refl _)).keep (S4.keepN (.inr rfl)) S4.mu)
                              have iN4 : ((G.at mu2).plus D mu).N a := .inr (.inl (List.mem_of_getElem? m4))
                              have R5 : Rel X.K ((G.at mu2).plus D mu) env (hf.set n2 (.dct ((ks.map fun p => wKey p.1).zip us))) σ (L2.upd H' a (.dK ks)) := R4.objput0 (G := (G.at mu2).plus D mu) (n := n2) m4 (.dct (.dK upd_same (rr4.keep (keeps_at iN4) (Longer.refl _))))
                              refine q D mu _ R5 ⟨⟨fun b u eb nb => ?_, fun k b e => S4.mu k b (S12.mu k b e), rfl, fun b od' u eb => ?_⟩, rfl, fun i b e => ?_⟩ (none_back R2 S12 hD) (.lst (by rw [upd_ne aD.symm]; exact hDl) (A.keep (keeps_at iN4) (Longer.refl _)))
                              · obtain ⟨e5, n5⟩ := S12.keep b u eb nb
                                have ne : b ≠ D := ne_of_none e5 hD
                                obtain ⟨e6, n6⟩ := S4.keep b u (by rw [upd_ne ne]; exact e5) n5 ne
                                have nea : b ≠ a := fun z => nb (.inl (by rw [z]; exact am))
                                exact ⟨by rw [upd_ne nea]; exact e6, n6⟩
                              · have nea : b ≠ a := fun z => by rw [z, eD] at eb; cases eb
                                have e5 := S12.fz b od' u eb
                                rw [upd_ne nea]
                                exact S4.fz b od' u (by rw [upd_ne (ne_of_none e5 hD)]; exact e5)
                              · have nea : b ≠ a := fun z => (R.om i b e).1 (by rw [z]; exact am)
                                have neD : b ≠ D := some_ne (by rw [S12.oc i b e]; exact (R.om i b e).2.2) hD
                                rw [upd_ne nea, S4.oc i b e, upd_ne neD]
                                exact S12.oc i b e
                            | _ => exact q.elim
                      | _ => exact absurd hx Bool.false_ne_true
                    · exact q.elim
                  | _ => exact q.elim
          | _ => exact q.elim
      | _ => exact q.elim
end
end MP
end

section
set_option Elab.async false
set_option linter.all false
set_option maxRecDepth 100000
set_option autoImplicit false
/-! MP21: targets that may be attributes. -/
namespace MP
open PySem PySem.Spec PyProof.Rows L2
def gAtt (K : PySem.W.Frag) (ta : TE) (f : Str) : TG := fun v σ H Q => ta σ H fun x H1 => ∃ a C dx fs, x = .ref a ∧ H1 a = some (.ins C dx fs) ∧ Cls K C ∧ NoAttr K C f ∧ fs.length < 1000 ∧ Q σ (L2.upd H1 a (.ins C dx (L2.putF f v fs)))
theorem pg_att {X : Cx} {o : Expr} {ta : TE} {f : Str} {pos : Pos} (ho : PE X o ta) : PG X (.Attribute o f pos) (gAtt X.K ta f) := by
  refine ⟨fun pins s σ H v u Q I r h => ?_⟩
  rw [assign_Attribute]
  refine wpAny_bind (wpAny_holding (thn (ho.run pins s σ H _ I h) fun ov s1 ⟨x, H1, I1, r1, a, C, dx, fs, ex, ea, c, n, l, q⟩ => ?_))
  subst ex
  obtain rfl : ov = Value.ref a := r1
  refine wpAny_bind (wpAny_standAt (wpAny_bind (wpAny_holding (setattr_ok I1 ea c n l r fun s3 I3 => ?_))))
  exact wpAny_release ⟨σ, _, I3, q⟩
def tGH (K : PySem.W.Frag) (g : TgH) : TG := fun v σ H Q => ∃ G env h w, Rel K G env h σ H ∧ RW K G.mu G.N H w v ∧ ∃ env' h', g w env h = some (env', h') ∧
  ∀ G' σ' H', Rel K G' env' h' σ' H' → StepS G H G' H' → Q σ' H'
abbrev PGH (X : Cx) (tg : Expr) (g : TgH) : Prop := PG X tg (tGH X.K g)
def tGHs (K : PySem.W.Frag) (g : TgHs) : TGs := fun vs σ H Q => ∃ G env h ws, Rel K G env h σ H ∧ RWs K G.mu G.N H ws vs ∧ ∃ env' h', g ws env h = some (env', h') ∧
  ∀ G' σ' H', Rel K G' env' h' σ' H' → StepS G H G' H' → Q σ' H'
abbrev PGHs (X : Cx) (ts : List Expr) (g : TgHs) : Prop := PGs X ts (tGHs X.K g)
section
variable {X : Cx} {Wx : WX} {t e o : Expr} {ts : List Expr} {pos : Pos} {s so : SE}
theorem pgh_nm {i : Nat} {sl : List Nat} (q : PGW X t sl (gNm i)) : PGH X t (hNm i) :=
  PG.weak q fun v σ H Q ⟨G, env, h, w, R, r, env', h', e, z⟩ => by
    unfold hNm at e
    cases eg : gNm i w env with
    | none => rw [eg] at e; cases e
    | some env2 =>
      rw [eg] at e
      cases e
      exact ⟨G, env, h, w, R, r, _, eg, fun σ' R' _ _ => z G σ' H R' (StepS.refl G H)⟩
theorem pgh_at {cl : Nat} {f : Nm} {fS : Str} (hf : fS = toS f) (hC : Cls X.K (ca X.K cl)) (hA : NoAttr X.K (ca X.K cl) fS) (ho : PET X W0 o so) : PGH X (.Attribute o fS pos) (hAt cl so f) := by
  subst hf
  refine PG.weak (pg_att ho) fun v σ H Q ⟨G, env, h, w, R, r, env', h', e, z⟩ => ⟨G, env, h, R, ?_⟩
  unfold hAt hPut at e
  cases es : so env h with
  | ex c p h2 => rw [es] at e; cases e
  | bad => rw [es] at e; cases e
  | ok x h2 =>
    rw [es] at e
    dsimp only at e
    cases ep : putAt cl f x w h2 with
    | none => rw [ep] at e; cases e
    | some h3 =>
      rw [ep] at e
      cases e
      intro u mu' H' R' S' ru
      obtain ⟨n, fs, rfl, e1, e2, rfl⟩ := putAt_some ep
      obtain ⟨a, rfl, m⟩ := RT.inv_ref R' ru
      obtain ⟨dx, gs, e3, rf⟩ := R'.ins e1 m
      have am : (G.at mu').N a := .inr (.inl (List.mem_of_getElem? m))
      have kp : Keeps (G.at mu').N H' (G.at mu').N (L2.upd H' a (.ins (ca X.K cl) dx (L2.putF (toS f) v gs))) := fun b ub eb nb => ⟨by rw [upd_ne (np nb am)]; exact eb, nb⟩
      have rv := r.step S'.toStepS
      obtain ⟨R2, S2⟩ := R'.objput (ho := .ins (ca X.K cl) dx (L2.putF (toS f) v gs)) (ob := .ins cl (putN f w fs)) m (fun _ _ z => by rw [e3] at z; cases z) (.ins upd_same ((rf.put rv).keep kp (Longer.refl _)))
      exact ⟨a, _, dx, gs, rfl, e3, hC, hA, by rw [rf.length]; omega, z _ _ _ R2 (S'.toStepS.trans S2.toStepS)⟩
theorem pghs_nil : PGHs X [] hsNil := PGs.weak pgs_nil fun v σ H Q ⟨G, env, h, ws, R, r, env', h', e, q⟩ => by
  unfold hsNil at e
  cases ws with
  | nil =>
    cases e
    exact ⟨RWs.inv_nil r, q G σ H R (StepS.refl G H)⟩
  | cons _ _ => cases e
theorem pghs_cons {g : TgH} {u : TgHs} (h1 : PGH X t g) (h2 : PGHs X ts u) (hs : (assignEach (t :: ts) X.env).map (·.2) = assign t X.env :: (assignEach ts X.env).map (·.2)) : PGHs X (t :: ts) (hsCons g u) :=
  PGs.weak (pgs_cons h1 h2 hs) fun v σ H Q ⟨G, env, h, ws, R, r, env', h', e, q⟩ => by
    cases ws with
    | nil => cases e
    | cons w ws =>
      obtain ⟨x, r', rfl, rx, rr⟩ := RWs.inv_cons r
      have e' : (match g w env h with
        | some p => u ws p.1 p.2
        | none => none) = some (env', h') := e
      cases eg : g w env h with
      | none => rw [eg] at e'; cases e'
      | some p =>
        rw [eg] at e'
        obtain ⟨env1, hp1⟩ := p
        exact ⟨x, r', rfl, G, env, h, w, R, rx, env1, hp1, eg, fun G1 σ1 H1 R1 S1 => ⟨G1, env1, hp1, ws, R1, rr.step S1, env', h', e', fun G2 σ2 H2 R2 S2 => q G2 σ2 H2 R2 (S1.trans S2)⟩⟩
theorem pgh_tu {k n : Nat} {u : TgHs} (hc : X.calm = true) (h : PGHs X ts u) (hn : (assignEach ts X.env).length = n) (hst : (assignEach ts X.env).findIdx? (·.1) = none) : PGH X (.Tuple ts k pos) (hTu n u) :=
  PG.weak (pg_tup hc h hn hst) fun v σ H Q ⟨G, env, h, w, R, r, env', h', e, q⟩ => by
    cases w with
    | tup ws =>
      have e' : (if (ws.length == n) = true then u ws env h else none) = some (env', h') := e
      split at e'
      · rename_i hl
        obtain ⟨a, xs, rfl, t, rr⟩ := r.inv_tup
        exact ⟨a, xs, rfl, t.sq, by rw [← rr.length]; simpa using hl, G, env, h, ws, R, rr, env', h', e', q⟩
      · cases e'
    | _ => cases e
theorem sw_tgH {g : TgH} {tg : Expr} (he : PEW X Wx e s) (hg : PGH X tg g) (hs : swapsWithSole [tg] e pos.line X.env = pure false) (hw : swappedStores [tg] e X.env = pure none) (h1 : (assignEach [tg] X.env).map (·.2) = [assign tg X.env]) : PSW X Wx (.Assign [tg] e pos) (kTgH g s) :=
  PS.weak (ps_asg he hg hs hw h1) fun D σ H ⟨G, env, h, R, q⟩ => ⟨G, env, h, R, (PostS.out (rel := rW X.K) q).mono fun v H1 ⟨w, h1, mu1, R1, S1, r1, q1⟩ => by
      cases eg : g w env h1 with
      | none => rw [eg] at q1; exact q1.elim
      | some p =>
        rw [eg] at q1
        obtain ⟨env', h'⟩ := p
        exact ⟨_, env, h1, w, R1, r1, env', h', eg, fun G' σ' H' R' S' => PostS.nx (q1.later S') R'⟩⟩
end
end MP
end

section
set_option linter.all false
set_option maxRecDepth 100000
/-! what the defs compute, as the small semantics says it: printed by gen.py -/
namespace MP
abbrev fuel : Nat := 100000
abbrev x0 : Nm := [98, 111, 117, 110, 100, 115]
abbrev x1 : Nm := [107, 110, 111, 119, 110]
abbrev x2 : Nm := [116, 111, 116, 97, 108]
abbrev x3 : Nm := [116, 105, 109, 101, 115]
abbrev x4 : Nm := [121, 111, 117, 114, 115]
abbrev x5 : Nm := [109, 105, 110, 101]
abbrev x6 : Nm := [111, 116, 104, 101, 114]
abbrev x7 : Nm := [111, 110, 101]
abbrev x8 : Nm := [101, 110, 100, 115]
abbrev x9 : Nm := [108, 101, 102, 116]
abbrev x10 : Nm := [111, 112, 101, 110, 95, 111, 110, 101, 115]
abbrev x11 : Nm := [108, 101, 97, 115, 116]
abbrev x12 : Nm := [109, 111, 115, 116]
abbrev x13 : Nm := [108, 97, 110, 101]
abbrev x14 : Nm := [119, 111, 114, 116, 104, 115]
abbrev x15 : Nm := [105, 115, 95, 109, 111, 100]
abbrev x16 : Nm := [105, 115, 95, 115, 97, 109, 101]
abbrev x17 : Nm := [105, 115, 95, 102, 97, 114]
abbrev x18 : Nm := [116, 117, 114, 110]
abbrev x19 : Nm := [114, 101, 103]
abbrev x20 : Nm := [105, 110, 112, 117, 116]
abbrev x21 : Nm := [110, 117, 109]
abbrev x22 : Nm := [115, 117, 109]
abbrev x23 : Nm := [108, 101, 115, 115]
abbrev x24 : Nm := [108, 97, 110, 101, 115]
abbrev x25 : Nm := [109, 101, 116]
abbrev x26 : Nm := [105, 110, 112, 117, 116, 115]
abbrev x27 : Nm := [98, 108, 111, 99, 107]
abbrev x28 : Nm := [104, 101, 97, 100, 95, 102, 105, 116, 115]
abbrev x29 : Nm := [110, 101, 101, 100]
abbrev x30 : Nm := [97, 116]
abbrev x31 : Nm := [102, 114, 111, 109]
abbrev x32 : Nm := [114, 111, 119, 115]
abbrev x33 : Nm := [100, 101, 101, 100]
abbrev x34 : Nm := [102, 111, 114, 109]
abbrev x35 : Nm := [102, 111, 117, 110, 100]
abbrev x36 : Nm := [110, 111, 119]
abbrev x37 : Nm := [119, 111, 114, 100, 115]
abbrev x38 : Nm := [115, 104, 117, 116]
abbrev x39 : Nm := [119, 105, 116, 104, 95, 119, 111, 114, 100]
abbrev x40 : Nm := [102, 101, 110, 99, 101]
abbrev x41 : Nm := [112, 117, 116]
abbrev x42 : Nm := [116, 117, 114, 110, 115]
abbrev x43 : Nm := [105, 116, 101, 109]
abbrev x44 : Nm := []
abbrev x45 : Nm := [119, 114, 105, 116, 101]
abbrev x46 : Nm := [105, 102]
abbrev x47 : Nm := [114, 101, 97, 100]
abbrev x48 : Nm := [120]
abbrev x49 : Nm := [115, 97, 109, 101]
abbrev x50 : Nm := [99, 97, 115, 101, 115]
abbrev x51 : Nm := [102, 97, 114]
abbrev x52 : Nm := [109, 111, 100]
abbrev x53 : Nm := [98, 101, 108, 111, 119]
abbrev x54 : Nm := [117]
abbrev x55 : Nm := [97, 98, 99, 100, 101, 102, 103, 104, 105, 106, 107, 108, 109, 110, 111, 112, 113, 114, 115, 116, 117, 118, 119, 120, 121, 122]
abbrev x56 : Nm := [108, 111, 111, 112]
abbrev x57 : Nm := [114, 101, 115, 116]
abbrev x58 : Nm := [115, 101, 116]
abbrev x59 : Nm := [108, 97, 115, 116]
abbrev x60 : Nm := [110, 101, 120, 116]
abbrev x61 : Nm := [116, 104, 105, 115]
abbrev x62 : Nm := [102, 114, 101, 101]
abbrev x63 : Nm := [115, 111, 109, 101]
abbrev x64 : Nm := [110, 111, 110, 101]
abbrev k_UNKNOWNS : W := (W.int 5)
abbrev k_CASES : W := (W.str x50)
abbrev k_MOD : W := (W.str x52)
abbrev k_SAME : W := (W.str x49)
abbrev k_FAR : W := (W.str x51)
abbrev k_LETTERS : W := (W.str x55)
abbrev k_MOST_NAME : W := (W.int 8)
abbrev k_LOOP : W := (W.str x56)
abbrev k_TURNS : W := (W.str x42)
abbrev k_IF : W := (W.str x46)
abbrev k_MOST_TIMES : W := (W.int 9)
abbrev k_MOST_NUMBER : W := (W.int 99)
abbrev k_TESTS : W := (W.tup [(W.str x30), (W.str x53), (W.str x31)])
abbrev k_REST : W := (W.str x57)
abbrev k_MOST_WORTHS : W := (W.int 4)
abbrev k_MOST_COUNT : W := (W.int 6)
abbrev k_SET : W := (W.str x58)
abbrev k_READ : W := (W.str x47)
abbrev k_WRITE : W := (W.str x45)
abbrev k_MOST_ARRAY : W := (W.int 3)
abbrev k_FENCE : W := (W.str x40)
abbrev k_MOST_WITHIN : W := (W.int 6)
abbrev k_MOST_DEEDS : W := (W.int 40)
abbrev k_MOST_TOUCHES : W := (W.int 100)
abbrev k_ALL : W := (W.tup [(W.tup [(W.int 0), (W.int 1), (W.int 0)])])
abbrev k_LAST : W := (W.str x59)
abbrev k_NEXT : W := (W.str x60)
abbrev k_THIS : W := (W.str x61)
abbrev k_FREE : W := (W.str x62)
abbrev k_SOME : W := (W.str x63)
abbrev k_NONE : W := (W.str x64)
abbrev t_SIZES : List (Nm × W) := [(x47, (W.int 4)), (x45, (W.int 4)), (x58, (W.int 3)), (x40, (W.int 1)), (x56, (W.int 4)), (x42, (W.int 4)), (x46, (W.int 4))]
def m_Sight___init__ (c : Calls) : SS := (kSeq (kTgH (hTu 2 (hsCons (hAt 13 (sVT 0) x7) (hsCons (hAt 13 (sVT 0) x6) hsNil))) (sV 2)) (kSeq (kTgH (hTu 2 (hsCons (hAt 13 (sVT 0) x5) (hsCons (hAt 13 (sVT 0) x4) hsNil))) (sV 3)) (kSeq (kTgH (hTu 3 (hsCons (hAt 13 (sVT 0) x0) (hsCons (hAt 13 (sVT 0) x3) (hsCons (hAt 13 (sVT 0) x2) hsNil)))) (sCut (sVT 1) (some (sC (W.int 3))) none)) (kFld 13 (sVT 0) x1 (sHeap (sDc (iSeq (sTup (aCons (sC (W.int 0)) (aCons (sC (W.int 1)) aNil)))) [4] (gNm 4) (tV (sB gEq (sB gIx (sFld 13 (sVT 0) x0) (sVT 4)) (sC (W.int 1)))) (sV 4) (sC (W.int 0))))))))
def d_Sight___init__ : Df := ⟨5, 4, true, m_Sight___init__⟩
def m_Sight_left (c : Calls) : SS := (kRet (sB gSub (sFld 13 (sVT 0) x2) (sBi bSum (aCons (sLcI (sFld 13 (sVT 0) x1) [1, 2] (gTu 2 (gsCons (gNm 1) (gsCons (gNm 2) gsNil))) MP.tYes (sB gMul (sB gIx (sFld 13 (sVT 0) x3) (sVT 1)) (sVT 2))) aNil))))
def d_Sight_left : Df := ⟨3, 1, true, m_Sight_left⟩
def m_Sight_open_ones (c : Calls) : SS := (kRet (sLc (iRg1 (aCons (sC k_UNKNOWNS) aNil)) [1] (gNm 1) (tAnd (tV (sB gNotInD (sVT 1) (sFld 13 (sVT 0) x1))) (tV (sB gNe (sB gIx (sFld 13 (sVT 0) x3) (sVT 1)) (sC (W.int 0))))) (sV 1)))
def d_Sight_open_ones : Df := ⟨2, 1, true, m_Sight_open_ones⟩
def m_Sight_ends (c : Calls) : SS := (kSeq (kSet 2 (sB gMul (sB gIx (sFld 13 (sVT 0) x3) (sVT 1)) (sB gSub (sB gIx (sFld 13 (sVT 0) x0) (sVT 1)) (sC (W.int 1))))) (kSeq (kIf (tV (sB gGt (sB gIx (sFld 13 (sVT 0) x3) (sVT 1)) (sC (W.int 0)))) (kRet (sTup (aCons (sC (W.int 0)) (aCons (sIfE (tV (sB gGt (sB gIx (sFld 13 (sVT 0) x0) (sVT 1)) (sC (W.int 0)))) (sV 2) (sC W.non)) aNil)))) kNx) (kRet (sTup (aCons (sIfE (tV (sB gGt (sB gIx (sFld 13 (sVT 0) x0) (sVT 1)) (sC (W.int 0)))) (sV 2) (sC W.non)) (aCons (sC (W.int 0)) aNil))))))
def d_Sight_ends : Df := ⟨3, 2, true, m_Sight_ends⟩
def m_Sight_least (c : Calls) : SS := (kSeq (kSet 2 (sLc (iSeq (sVT 1)) [3] (gNm 3) MP.tYes (sB gIx (sMeth c 13 35 2 x8 (sV 0) (aCons (sV 3) aNil)) (sC (W.int 0))))) (kRet (sIfE (tV (sB gIn (sC W.non) (sVT 2))) (sC W.non) (sBi bSum (aCons (sVT 2) aNil)))))
def d_Sight_least : Df := ⟨4, 2, true, m_Sight_least⟩
def m_Sight_most (c : Calls) : SS := (kSeq (kSet 2 (sLc (iSeq (sVT 1)) [3] (gNm 3) MP.tYes (sB gIx (sMeth c 13 35 2 x8 (sV 0) (aCons (sV 3) aNil)) (sC (W.int 1))))) (kRet (sIfE (tV (sB gIn (sC W.non) (sVT 2))) (sC W.non) (sBi bSum (aCons (sVT 2) aNil)))))
def d_Sight_most : Df := ⟨4, 2, true, m_Sight_most⟩
def m_Sight_is_far (c : Calls) : SS := (kSeq (kPar 1 2 (aCons (sMeth c 13 36 2 x11 (sV 0) (aCons (sMeth c 13 34 1 x10 (sV 0) aNil) aNil)) (aCons (sMeth c 13 37 2 x12 (sV 0) (aCons (sMeth c 13 34 1 x10 (sV 0) aNil) aNil)) aNil))) (kRet (sOr (sAnd (sNotN (sVT 1)) (sB gGt (sVT 1) (sMeth c 13 33 1 x9 (sV 0) aNil))) (sAnd (sNotN (sVT 2)) (sB gLt (sVT 2) (sMeth c 13 33 1 x9 (sV 0) aNil))))))
def d_Sight_is_far : Df := ⟨3, 1, true, m_Sight_is_far⟩
def m_Sight_is_mod (c : Calls) : SS := (kSeq (kIf (tV (sBi bAny (aCons (sLc (iSeq (sMeth c 13 34 1 x10 (sV 0) aNil)) [2] (gNm 2) MP.tYes (sB gNe (sB gMod (sB gIx (sFld 13 (sVT 0) x3) (sVT 2)) (sVT 1)) (sC (W.int 0)))) aNil))) (kRet (sC (W.bl false))) kNx) (kRet (sB gNe (sB gMod (sMeth c 13 33 1 x9 (sV 0) aNil) (sVT 1)) (sC (W.int 0)))))
def d_Sight_is_mod : Df := ⟨3, 2, true, m_Sight_is_mod⟩
def m_Sight_lane (c : Calls) : SS := (kSeq (kSet 2 (sB gIx (sTup (aCons (sFld 13 (sVT 0) x5) (aCons (sFld 13 (sVT 0) x4) aNil))) (sVT 1))) (kRet (sIfE (tV (sB gInD (sVT 1) (sFld 13 (sVT 0) x1))) (sB gAdd (sB gIx (sVT 2) (sC (W.int 0))) (sB gMul (sB gIx (sVT 2) (sC (W.int 1))) (sB gIxD (sFld 13 (sVT 0) x1) (sVT 1)))) (sC W.non))))
def d_Sight_lane : Df := ⟨3, 2, true, m_Sight_lane⟩
def m_Sight_is_same (c : Calls) : SS := (kSeq (kIf (tAnd (tV (sNotN (sMeth c 13 40 2 x13 (sV 0) (aCons (sC (W.int 0)) aNil)))) (tV (sNotN (sMeth c 13 40 2 x13 (sV 0) (aCons (sC (W.int 1)) aNil))))) (kRet (sB gEq (sMeth c 13 40 2 x13 (sV 0) (aCons (sC (W.int 0)) aNil)) (sMeth c 13 40 2 x13 (sV 0) (aCons (sC (W.int 1)) aNil)))) kNx) (kSeq (kIf (tOr (tV (sBi bAny (aCons (sLc (iSeq (sMeth c 13 34 1 x10 (sV 0) aNil)) [2] (gNm 2) MP.tYes (sB gGt (sVT 2) (sC (W.int 1)))) aNil))) (tOr (tV (sB gNe (sB gIx (sFld 13 (sVT 0) x7) (sC (W.int 0))) (sB gIx (sFld 13 (sVT 0) x6) (sC (W.int 0))))) (tV (sB gEq (sB gIx (sFld 13 (sVT 0) x7) (sC (W.int 0))) (sC (W.int 0)))))) (kRet (sC (W.bl false))) kNx) (kSeq (kSet 1 (sBi bSum (aCons (sLcI (sFld 13 (sVT 0) x1) [2, 3] (gTu 2 (gsCons (gNm 2) (gsCons (gNm 3) gsNil))) (tV (sB gGt (sVT 2) (sC (W.int 1)))) (sB gMul (sB gIx (sFld 13 (sVT 0) x3) (sVT 2)) (sVT 3))) aNil))) (kRet (sB gEq (sB gAdd (sB gSub (sB gIx (sFld 13 (sVT 0) x7) (sC (W.int 3))) (sB gIx (sFld 13 (sVT 0) x6) (sC (W.int 3)))) (sVT 1)) (sC (W.int 0)))))))
def d_Sight_is_same : Df := ⟨4, 1, true, m_Sight_is_same⟩
def m_Sight_worths (c : Calls) : SS := (kSeq (kSet 2 (sLc (iSeq (sMeth c 13 34 1 x10 (sV 0) aNil)) [7] (gNm 7) (tV (sB gNe (sVT 7) (sVT 1))) (sV 7))) (kSeq (kPar 3 4 (aCons (sB gIx (sFld 13 (sVT 0) x3) (sVT 1)) (aCons (sMeth c 13 33 1 x9 (sV 0) aNil) aNil))) (kSeq (kSet 5 (sIfE (tV (sB gGt (sVT 3) (sC (W.int 0)))) (sMeth c 13 36 2 x11 (sV 0) (aCons (sV 2) aNil)) (sMeth c 13 37 2 x12 (sV 0) (aCons (sV 2) aNil)))) (kSeq (kSet 6 (sC W.non)) (kSeq (kIf (tV (sNotN (sVT 5))) (kSet 6 (sBi bMax2 (aCons (sC (W.int 0)) (aCons (sIfE (tV (sB gGt (sVT 3) (sC (W.int 0)))) (sB gAdd (sB gDiv (sB gSub (sVT 4) (sVT 5)) (sVT 3)) (sC (W.int 1))) (sB gAdd (sB gDiv (sB gSub (sVT 5) (sVT 4)) (sB gSub (sC (W.int 0)) (sVT 3))) (sC (W.int 1)))) aNil)))) kNx) (kSeq (kIf (tV (sB gGt (sB gIx (sFld 13 (sVT 0) x0) (sVT 1)) (sC (W.int 0)))) (kSet 6 (sIfE (tV (sIsN (sVT 6))) (sB gIx (sFld 13 (sVT 0) x0) (sVT 1)) (sBi bMin2 (aCons (sVT 6) (aCons (sB gIx (sFld 13 (sVT 0) x0) (sVT 1)) aNil))))) kNx) (kRet (sV 6))))))))
def d_Sight_worths : Df := ⟨8, 2, true, m_Sight_worths⟩
def m_shows (c : Calls) : SS := (kSeq (kIf (tOr (tNot (tV (sIsI (sVT 1) .tuple))) (tOr (tV (sB gEq (sVT 1) (sTup aNil))) (tNot (tV (sIsI (sB gIx (sVT 1) (sC (W.int 0))) .str))))) (kRet (sC (W.bl false))) kNx) (kSeq (kStar 2 3 (sV 1)) (kSeq (kIf (tV (sB gIn (sVT 2) (sTup (aCons (sC k_SAME) (aCons (sC k_FAR) aNil))))) (kRet (sAnd (sB gEq (sVT 3) (sLst aNil)) (sIfE (tV (sB gEq (sVT 2) (sC k_SAME))) (sMeth c 13 41 1 x16 (sV 0) aNil) (sMeth c 13 38 1 x17 (sV 0) aNil)))) kNx) (kSeq (kIf (tV (sBi bAny (aCons (sLc (iSeq (sCut (sVT 3) none (some (sC (W.int 1))))) [4] (gNm 4) MP.tYes (sOr (sIsI (sVT 4) .bool) (sNot (sIsI (sVT 4) .int)))) aNil))) (kRet (sC (W.bl false))) kNx) (kSeq (kIf (tV (sB gEq (sVT 2) (sC k_MOD))) (kRet (sAnd (sB gEq (sBi bLen (aCons (sVT 3) aNil)) (sC (W.int 1))) (sAnd (sB gGt (sB gIx (sVT 3) (sC (W.int 0))) (sC (W.int 1))) (sMeth c 13 39 2 x15 (sV 0) (aCons (sB gIx (sVT 3) (sC (W.int 0))) aNil))))) kNx) (kSeq (kIf (tOr (tV (sB gNe (sVT 2) (sC k_CASES))) (tOr (tV (sB gNe (sBi bLen (aCons (sVT 3) aNil)) (sC (W.int 2)))) (tOr (tV (sB gNotIn (sB gIx (sVT 3) (sC (W.int 0))) (sMeth c 13 34 1 x10 (sV 0) aNil))) (tNot (tV (sIsI (sB gIx (sVT 3) (sC (W.int 1))) .tuple)))))) (kRet (sC (W.bl false))) kNx) (kSeq (kIf (tV (sB gNe (sMeth c 13 42 2 x14 (sV 0) (aCons (sB gIx (sVT 3) (sC (W.int 0))) aNil)) (sBi bLen (aCons (sB gIx (sVT 3) (sC (W.int 1))) aNil)))) (kRet (sC (W.bl false))) kNx) (kSeq (kFor (iEnu (aCons (sB gIx (sVT 3) (sC (W.int 1))) aNil)) (gTu 2 (gsCons (gNm 5) (gsCons (gNm 4) gsNil))) (kSeq (kIxD (sFld 13 (sVT 0) x1) (sB gIx (sVT 3) (sC (W.int 0))) (sV 5)) (kSeq (kSet 6 (sCall c 88 2 (aCons (sV 0) (aCons (sV 4) aNil)))) (kSeq (kPop (sFld 13 (sVT 0) x1) (sB gIx (sVT 3) (sC (W.int 0)))) (kIf (tNot (tV (sVT 6))) (kRet (sC (W.bl false))) kNx))))) (kRet (sC (W.bl true)))))))))))
def d_shows : Df := ⟨7, 2, true, m_shows⟩
def m_is_whole (c : Calls) : SS := (kRet (sAnd (sIsI (sVT 0) .int) (sAnd (sNot (sIsI (sVT 0) .bool)) (sChain gLe gLe (sVT 1) (sVT 0) (sVT 2)))))
def d_is_whole : Df := ⟨3, 3, true, m_is_whole⟩
def m_is_name (c : Calls) : SS := (kSeq (kIf (tOr (tNot (tV (sIsI (sVT 0) .str))) (tNot (tV (sChain gLe gLe (sC (W.int 1)) (sBi bLen (aCons (sVT 0) aNil)) (sC k_MOST_NAME))))) (kRet (sC (W.bl false))) kNx) (kRet (sBi bAll (aCons (sLc (MP.iStr (sVT 0)) [1] (gNm 1) MP.tYes (sB gIn (sVT 1) (sC k_LETTERS))) aNil))))
def d_is_name : Df := ⟨2, 1, true, m_is_name⟩
def m_blocks_of (c : Calls) : SS := (kSeq (kIf (tV (sB gEq (sB gIx (sVT 0) (sC (W.int 0))) (sC k_IF))) (kRet (sLst (aCons (sB gIx (sVT 0) (sC (W.int 2))) (aCons (sB gIx (sVT 0) (sC (W.int 3))) aNil)))) kNx) (kRet (sIfE (tV (sB gIn (sB gIx (sVT 0) (sC (W.int 0))) (sTup (aCons (sC k_LOOP) (aCons (sC k_TURNS) aNil))))) (sLst (aCons (sB gIx (sVT 0) (sC (W.int 3))) aNil)) (sLst aNil))))
def d_blocks_of : Df := ⟨1, 1, true, m_blocks_of⟩
def m_is_place (c : Calls) : SS := (kSeq (kIf (tOr (tNot (tV (sIsI (sVT 0) .tuple))) (tOr (tV (sB gNe (sBi bLen (aCons (sVT 0) aNil)) (sC (W.int 3)))) (tNot (tV (sIsI (sB gIx (sVT 0) (sC (W.int 1))) .tuple))))) (kRet (sC (W.bl false))) kNx) (kSeq (kIf (tOr (tNot (tV (sCall c 1 3 (aCons (sB gIx (sVT 0) (sC (W.int 0))) (aCons (sNeg (sC k_MOST_TIMES)) (aCons (sC k_MOST_TIMES) aNil)))))) (tNot (tV (sCall c 1 3 (aCons (sB gIx (sVT 0) (sC (W.int 2))) (aCons (sNeg (sC k_MOST_NUMBER)) (aCons (sC k_MOST_NUMBER) aNil))))))) (kRet (sC (W.bl false))) kNx) (kSeq (kFor (iSeq (sB gIx (sVT 0) (sC (W.int 1)))) (gNm 2) (kSeq (kIf (tOr (tNot (tV (sIsI (sVT 2) .tuple))) (tOr (tV (sB gNe (sBi bLen (aCons (sVT 2) aNil)) (sC (W.int 2)))) (tOr (tNot (tV (sIsI (sB gIx (sVT 2) (sC (W.int 0))) .str))) (tV (sB gNotIn (sB gIx (sVT 2) (sC (W.int 0))) (sVT 1)))))) (kRet (sC (W.bl false))) kNx) (kIf (tNot (tV (sCall c 1 3 (aCons (sB gIx (sVT 2) (sC (W.int 1))) (aCons (sNeg (sC k_MOST_TIMES)) (aCons (sC k_MOST_TIMES) aNil)))))) (kRet (sC (W.bl false))) kNx))) (kSeq (kSet 3 (sLc (iSeq (sB gIx (sVT 0) (sC (W.int 1)))) [2] (gNm 2) MP.tYes (sB gIx (sVT 2) (sC (W.int 0))))) (kRet (sBi bAll (aCons (sLc (iRg1 (aCons (sB gSub (sBi bLen (aCons (sVT 3) aNil)) (sC (W.int 1))) aNil)) [4] (gNm 4) MP.tYes (sB gLt (sB gIx (sVT 3) (sVT 4)) (sB gIx (sVT 3) (sB gAdd (sVT 4) (sC (W.int 1)))))) aNil)))))))
def d_is_place : Df := ⟨5, 2, true, m_is_place⟩
def m_is_test (c : Calls) : SS := (kSeq (kIf (tOr (tNot (tV (sIsI (sVT 0) .tuple))) (tOr (tV (sB gLt (sBi bLen (aCons (sVT 0) aNil)) (sC (W.int 2)))) (tNot (tV (sIsI (sB gIx (sVT 0) (sC (W.int 0))) .str))))) (kRet (sC (W.bl false))) kNx) (kSeq (kIf (tV (sB gEq (sB gIx (sVT 0) (sC (W.int 0))) (sC k_REST))) (kRet (sAnd (sB gEq (sBi bLen (aCons (sVT 0) aNil)) (sC (W.int 3))) (sAnd (sCall c 1 3 (aCons (sB gIx (sVT 0) (sC (W.int 1))) (aCons (sC (W.int 2)) (aCons (sC (W.int 9)) aNil)))) (sCall c 1 3 (aCons (sB gIx (sVT 0) (sC (W.int 2))) (aCons (sC (W.int 0)) (aCons (sB gSub (sB gIx (sVT 0) (sC (W.int 1))) (sC (W.int 1))) aNil))))))) kNx) (kRet (sAnd (sB gIn (sB gIx (sVT 0) (sC (W.int 0))) (sC k_TESTS)) (sAnd (sB gEq (sBi bLen (aCons (sVT 0) aNil)) (sC (W.int 2))) (sCall c 1 3 (aCons (sB gIx (sVT 0) (sC (W.int 1))) (aCons (sC (W.int 0)) (aCons (sC k_MOST_NUMBER) aNil)))))))))
def d_is_test : Df := ⟨1, 1, true, m_is_test⟩
def m_is_worth (c : Calls) : SS := (kSeq (kIf (tOr (tNot (tV (sIsI (sVT 0) .tuple))) (tOr (tV (sB gEq (sVT 0) (sTup aNil))) (tOr (tV (sB gGt (sVT 2) (sC k_MOST_WORTHS))) (tNot (tV (sIsI (sB gIx (sVT 0) (sC (W.int 0))) .str)))))) (kRet (sC (W.bl false))) kNx) (kSeq (kStar 3 4 (sV 0)) (kSeq (kIf (tV (sB gIn (sVT 3) (sTup (aCons (sC (W.str x13)) (aCons (sC (W.str x24)) aNil))))) (kRet (sB gEq (sVT 4) (sLst aNil))) kNx) (kSeq (kIf (tV (sB gIn (sVT 3) (sTup (aCons (sC (W.str x22)) (aCons (sC (W.str x23)) aNil))))) (kRet (sAnd (sB gEq (sBi bLen (aCons (sVT 4) aNil)) (sC (W.int 2))) (sBi bAll (aCons (sLc (iSeq (sVT 4)) [5] (gNm 5) MP.tYes (sCall c 6 3 (aCons (sV 5) (aCons (sV 1) (aCons (sB gAdd (sVT 2) (sC (W.int 1))) aNil))))) aNil)))) kNx) (kSeq (kIf (tV (sB gNe (sBi bLen (aCons (sVT 4) aNil)) (sC (W.int 1)))) (kRet (sC (W.bl false))) kNx) (kSeq (kIf (tV (sB gEq (sVT 3) (sC (W.str x21)))) (kRet (sCall c 1 3 (aCons (sB gIx (sVT 4) (sC (W.int 0))) (aCons (sNeg (sC k_MOST_NUMBER)) (aCons (sC k_MOST_NUMBER) aNil))))) kNx) (kSeq (kIf (tV (sB gEq (sVT 3) (sC (W.str x20)))) (kRet (sCall c 1 3 (aCons (sB gIx (sVT 4) (sC (W.int 0))) (aCons (sC (W.int 0)) (aCons (sC (W.int 1)) aNil))))) kNx) (kSeq (kIf (tV (sB gEq (sVT 3) (sC (W.str x19)))) (kRet (sCall c 2 1 (aCons (sB gIx (sVT 4) (sC (W.int 0))) aNil))) kNx) (kRet (sAnd (sB gEq (sVT 3) (sC (W.str x18))) (sAnd (sIsI (sB gIx (sVT 4) (sC (W.int 0))) .str) (sB gIn (sB gIx (sVT 4) (sC (W.int 0))) (sVT 1)))))))))))))
def d_is_worth : Df := ⟨6, 3, true, m_is_worth⟩
def m_Looker___init__ (c : Calls) : SS := (kSeq (kFld 10 (sVT 0) x26 (sHeap (sLst aNil))) (kFld 10 (sVT 0) x25 (sC (W.int 0))))
def d_Looker___init__ : Df := ⟨1, 1, true, m_Looker___init__⟩
def m_Looker_need (c : Calls) : SS := (kIf (tNot (tV (sVT 1))) kBad kNx)
def d_Looker_need : Df := ⟨3, 3, true, m_Looker_need⟩
def m_Looker_head_fits (c : Calls) : SS := (kSeq (kSet 4 (sB gIx (sVT 1) (sC (W.int 0)))) (kSeq (kIf (tV (sB gEq (sVT 4) (sC k_FENCE))) (kRet (sC (W.bl true))) kNx) (kSeq (kIf (tV (sB gIn (sVT 4) (sTup (aCons (sC k_READ) (aCons (sC k_WRITE) aNil))))) (kSeq (kTg (gTu 2 (gsCons (gNm 5) (gsCons (gNm 6) gsNil))) (sIfE (tV (sB gEq (sVT 4) (sC k_READ))) (sTup (aCons (sB gIx (sVT 1) (sC (W.int 2))) (aCons (sB gIx (sVT 1) (sC (W.int 3))) aNil))) (sTup (aCons (sB gIx (sVT 1) (sC (W.int 1))) (aCons (sB gIx (sVT 1) (sC (W.int 2))) aNil))))) (kSeq (kSet 7 (sIfE (tV (sB gEq (sVT 4) (sC k_READ))) (sCall c 2 1 (aCons (sB gIx (sVT 1) (sC (W.int 1))) aNil)) (sCall c 6 3 (aCons (sB gIx (sVT 1) (sC (W.int 3))) (aCons (sV 2) (aCons (sC (W.int 1)) aNil)))))) (kRet (sAnd (sVT 7) (sAnd (sCall c 1 3 (aCons (sV 5) (aCons (sC (W.int 0)) (aCons (sC k_MOST_ARRAY) aNil)))) (sCall c 4 2 (aCons (sV 6) (aCons (sV 2) aNil)))))))) kNx) (kSeq (kIf (tV (sB gEq (sVT 4) (sC k_SET))) (kRet (sAnd (sCall c 2 1 (aCons (sB gIx (sVT 1) (sC (W.int 1))) aNil)) (sCall c 6 3 (aCons (sB gIx (sVT 1) (sC (W.int 2))) (aCons (sV 2) (aCons (sC (W.int 1)) aNil)))))) kNx) (kSeq (kIf (tV (sB gEq (sVT 4) (sC k_IF))) (kRet (sAnd (sCall c 5 1 (aCons (sB gIx (sVT 1) (sC (W.int 1))) aNil)) (sAnd (sIsI (sB gIx (sVT 1) (sC (W.int 2))) .tuple) (sIsI (sB gIx (sVT 1) (sC (W.int 3))) .tuple)))) kNx) (kSeq (kIf (tOr (tNot (tV (sCall c 2 1 (aCons (sB gIx (sVT 1) (sC (W.int 1))) aNil)))) (tOr (tV (sB gIn (sB gIx (sVT 1) (sC (W.int 1))) (sVT 2))) (tNot (tV (sIsI (sB gIx (sVT 1) (sC (W.int 3))) .tuple))))) (kRet (sC (W.bl false))) kNx) (kSeq (kIf (tV (sB gEq (sVT 4) (sC k_LOOP))) (kRet (sCall c 1 3 (aCons (sB gIx (sVT 1) (sC (W.int 2))) (aCons (sC (W.int 1)) (aCons (sC k_MOST_COUNT) aNil))))) kNx) (kRet (sAnd (sCall c 1 3 (aCons (sB gIx (sVT 1) (sC (W.int 2))) (aCons (sC (W.int 0)) (aCons (sC (W.int 1)) aNil)))) (sAnd (sB gNotIn (sB gIx (sVT 1) (sC (W.int 2))) (sFld 10 (sVT 0) x26)) (sB gEq (sVT 3) (sC (W.int 1)))))))))))))
def d_Looker_head_fits : Df := ⟨8, 4, true, m_Looker_head_fits⟩
def m_Looker_block (c : Calls) : SS := (kFor (iSeq (sV 1)) (gNm 4) (kSeq (kSet 5 (sFld 10 (sVT 0) x25)) (kSeq (kFldA gAddI 10 (sVT 0) x25 (sC (W.int 1))) (kSeq (kExp (sMeth c 10 8 3 x29 (sV 0) (aCons (sAnd (sB gLt (sVT 5) (sC k_MOST_DEEDS)) (sAnd (sB gLe (sVT 3) (sC k_MOST_WITHIN)) (sAnd (sIsI (sVT 4) .tuple) (sB gNe (sVT 4) (sTup aNil))))) (aCons (sV 5) aNil)))) (kSeq (kExp (sMeth c 10 8 3 x29 (sV 0) (aCons (sAnd (sIsI (sB gIx (sVT 4) (sC (W.int 0))) .str) (sB gEq (sTab t_SIZES (sB gIx (sVT 4) (sC (W.int 0))) (sC (W.int 0))) (sBi bLen (aCons (sVT 4) aNil)))) (aCons (sV 5) aNil)))) (kSeq (kExp (sMeth c 10 8 3 x29 (sV 0) (aCons (sMeth c 10 9 4 x28 (sV 0) (aCons (sV 4) (aCons (sV 2) (aCons (sV 3) aNil)))) (aCons (sV 5) aNil)))) (kSeq (kIf (tV (sB gEq (sB gIx (sVT 4) (sC (W.int 0))) (sC k_TURNS))) (kApp (sFld 10 (sVT 0) x26) (sB gIx (sVT 4) (sC (W.int 2)))) kNx) (kSeq (kSet 6 (sIfE (tV (sB gIn (sB gIx (sVT 4) (sC (W.int 0))) (sTup (aCons (sC k_LOOP) (aCons (sC k_TURNS) aNil))))) (sLst (aCons (sB gIx (sVT 4) (sC (W.int 1))) aNil)) (sLst aNil))) (kFor (iSeq (sCall c 3 1 (aCons (sV 4) aNil))) (gNm 7) (kExp (sMeth c 10 10 4 x27 (sV 0) (aCons (sV 7) (aCons (sB gAdd (sVT 2) (sVT 6)) (aCons (sB gAdd (sVT 3) (sC (W.int 1))) aNil))))))))))))))
def d_Looker_block : Df := ⟨8, 4, true, m_Looker_block⟩
def m_touches_in (c : Calls) : SS := (kSeq (kSet 1 (sC (W.int 0))) (kSeq (kFor (iSeq (sV 0)) (gNm 2) (kSeq (kSet 1 (sB gAddI (sV 1) (sBi bInt (aCons (sB gIn (sB gIx (sVT 2) (sC (W.int 0))) (sTup (aCons (sC k_READ) (aCons (sC k_WRITE) (aCons (sC k_FENCE) aNil))))) aNil)))) (kSet 1 (sB gAddI (sV 1) (sB gMul (sBi bSum (aCons (sLc (iSeq (sCall c 3 1 (aCons (sV 2) aNil))) [3] (gNm 3) MP.tYes (sCall c 11 1 (aCons (sV 3) aNil))) aNil)) (sIfE (tV (sB gEq (sB gIx (sVT 2) (sC (W.int 0))) (sC k_LOOP))) (sB gIx (sVT 2) (sC (W.int 2))) (sC (W.int 1)))))))) (kRet (sV 1))))
def d_touches_in : Df := ⟨4, 1, true, m_touches_in⟩
def m_need_program (c : Calls) : SS := (kSeq (kSet 1 (sNew c 10 7 1 aNil)) (kSeq (kExp (sMeth c 10 8 3 x29 (sV 1) (aCons (sIsI (sVT 0) .tuple) (aCons (sNeg (sC (W.int 1))) aNil)))) (kSeq (kExp (sMeth c 10 10 4 x27 (sV 1) (aCons (sV 0) (aCons (sLst aNil) (aCons (sC (W.int 1)) aNil))))) (kExp (sMeth c 10 8 3 x29 (sV 1) (aCons (sB gLe (sCall c 11 1 (aCons (sV 0) aNil)) (sC k_MOST_TOUCHES)) (aCons (sFld 10 (sVT 1) x25) aNil)))))))
def d_need_program : Df := ⟨2, 1, false, m_need_program⟩
def m_numbered (c : Calls) : SS := (kSeq (kSetO 2 (sLst aNil)) (kSeq (kFor (iSeq (sV 0)) (gNm 3) (kSeq (kSet 4 (sV 1)) (kSeq (kSet 1 (sB gAddI (sV 1) (sC (W.int 1)))) (kSeq (kSetO 5 (sLst aNil)) (kSeq (kFor (iSeq (sCall c 3 1 (aCons (sV 3) aNil))) (gNm 6) (kSeq (kTg (gTu 2 (gsCons (gNm 7) (gsCons (gNm 1) gsNil))) (sCall c 13 2 (aCons (sV 6) (aCons (sV 1) aNil)))) (kAppO 5 (sV 7)))) (kSeq (kFz 5) (kAppO 2 (sTup (aCons (sV 4) (aCons (sV 3) (aCons (sV 5) aNil))))))))))) (kSeq (kFz 2) (kRet (sTup (aCons (sV 2) (aCons (sV 1) aNil)))))))
def d_numbered : Df := ⟨8, 2, true, m_numbered⟩
def m_as_row (c : Calls) : SS := (kRet (sIfE (tV (sB gEq (sVT 2) (sC (W.int 1)))) (sTup (aCons (sV 0) (aCons (sC (W.int 1)) (aCons (sC (W.int 1)) aNil)))) (sTup (aCons (sV 0) (aCons (sV 1) (aCons (sV 2) aNil))))))
def d_as_row : Df := ⟨3, 3, true, m_as_row⟩
def m_from_on (c : Calls) : SS := (kSeq (kTg (gTu 3 (gsCons (gNm 2) (gsCons (gNm 3) (gsCons (gNm 4) gsNil)))) (sV 0)) (kSeq (kIf (tV (sB gGe (sVT 2) (sVT 1))) (kRet (sV 0)) kNx) (kSeq (kSet 5 (sB gDiv (sB gSub (sB gAdd (sB gSub (sVT 1) (sVT 2)) (sVT 3)) (sC (W.int 1))) (sVT 3))) (kSeq (kIf (tAnd (tV (sB gGt (sVT 4) (sC (W.int 0)))) (tV (sB gGe (sVT 5) (sVT 4)))) (kRet (sC W.non)) kNx) (kRet (sCall c 45 3 (aCons (sB gAdd (sVT 2) (sB gMul (sVT 5) (sVT 3))) (aCons (sV 3) (aCons (sIfE (tV (sB gGt (sVT 4) (sC (W.int 0)))) (sB gSub (sVT 4) (sVT 5)) (sC (W.int 0))) aNil)))))))))
def d_from_on : Df := ⟨6, 2, true, m_from_on⟩
def m_up_to (c : Calls) : SS := (kSeq (kTg (gTu 3 (gsCons (gNm 2) (gsCons (gNm 3) (gsCons (gNm 4) gsNil)))) (sV 0)) (kSeq (kIf (tV (sB gGe (sVT 2) (sVT 1))) (kRet (sC W.non)) kNx) (kSeq (kSet 5 (sB gDiv (sB gSub (sB gAdd (sB gSub (sVT 1) (sVT 2)) (sVT 3)) (sC (W.int 1))) (sVT 3))) (kRet (sCall c 45 3 (aCons (sV 2) (aCons (sV 3) (aCons (sIfE (tV (sB gEq (sVT 4) (sC (W.int 0)))) (sV 5) (sBi bMin2 (aCons (sVT 4) (aCons (sVT 5) aNil)))) aNil))))))))
def d_up_to : Df := ⟨6, 2, true, m_up_to⟩
def m_left_by (c : Calls) : SS := (kSeq (kTg (gTu 3 (gsCons (gNm 3) (gsCons (gNm 4) (gsCons (gNm 5) gsNil)))) (sV 0)) (kSeq (kSet 6 (sLc (iRg1 (aCons (sV 1) aNil)) [9] (gNm 9) (tV (sB gEq (sB gMod (sB gAdd (sVT 3) (sB gMul (sVT 9) (sVT 4))) (sVT 1)) (sVT 2))) (sV 9))) (kSeq (kIf (tOr (tV (sB gEq (sVT 6) (sLst aNil))) (tV (sChain gLt gLe (sC (W.int 0)) (sVT 5) (sB gIx (sVT 6) (sC (W.int 0)))))) (kRet (sC W.non)) kNx) (kSeq (kSet 7 (sIfE (tV (sB gGt (sBi bLen (aCons (sVT 6) aNil)) (sC (W.int 1)))) (sB gSub (sB gIx (sVT 6) (sC (W.int 1))) (sB gIx (sVT 6) (sC (W.int 0)))) (sV 1))) (kSeq (kSet 8 (sIfE (tV (sB gGt (sVT 5) (sC (W.int 0)))) (sB gDiv (sB gSub (sB gAdd (sB gSub (sVT 5) (sB gIx (sVT 6) (sC (W.int 0)))) (sVT 7)) (sC (W.int 1))) (sVT 7)) (sC (W.int 0)))) (kRet (sCall c 45 3 (aCons (sB gAdd (sVT 3) (sB gMul (sB gIx (sVT 6) (sC (W.int 0))) (sVT 4))) (aCons (sB gMul (sVT 7) (sVT 4)) (aCons (sV 8) aNil))))))))))
def d_left_by : Df := ⟨10, 3, true, m_left_by⟩
def m_split (c : Calls) : SS := (kSeq (kIf (tV (sB gEq (sB gIx (sVT 1) (sC (W.int 0))) (sC k_REST))) (kSeq (kTg (gTu 2 (gsCons (gNm 2) (gsCons (gNm 3) gsNil))) (sCut (sVT 1) (some (sC (W.int 1))) none)) (kSeq (kSet 4 (sLc (iRg1 (aCons (sV 2) aNil)) [7] (gNm 7) (tV (sB gNe (sVT 7) (sVT 3))) (sV 7))) (kSeq (kSet 5 (sLc (iSeq (sVT 0)) [8] (gNm 8) MP.tYes (sCall c 48 3 (aCons (sV 8) (aCons (sV 2) (aCons (sV 3) aNil)))))) (kSet 6 (sLc2 (iSeq (sVT 0)) [8, 7] (gNm 8) MP.tYes (iSeq (sVT 4)) [7] (gNm 7) MP.tYes (sCall c 48 3 (aCons (sV 8) (aCons (sV 2) (aCons (sV 7) aNil))))))))) (kIf (tV (sB gEq (sB gIx (sVT 1) (sC (W.int 0))) (sC (W.str x30)))) (kSeq (kSet 5 (sLc (iSeq (sLc (iSeq (sVT 0)) [8] (gNm 8) MP.tYes (sCall c 46 2 (aCons (sV 8) (aCons (sB gIx (sVT 1) (sC (W.int 1))) aNil))))) [8] (gNm 8) (tV (sNotN (sVT 8))) (sCall c 47 2 (aCons (sV 8) (aCons (sB gAdd (sB gIx (sVT 1) (sC (W.int 1))) (sC (W.int 1))) aNil))))) (kSet 6 (sB gAdd (sLc (iSeq (sVT 0)) [8] (gNm 8) MP.tYes (sCall c 47 2 (aCons (sV 8) (aCons (sB gIx (sVT 1) (sC (W.int 1))) aNil)))) (sLc (iSeq (sVT 0)) [8] (gNm 8) MP.tYes (sCall c 46 2 (aCons (sV 8) (aCons (sB gAdd (sB gIx (sVT 1) (sC (W.int 1))) (sC (W.int 1))) aNil))))))) (kSeq (kSet 5 (sLc (iSeq (sVT 0)) [8] (gNm 8) MP.tYes (sCall c 47 2 (aCons (sV 8) (aCons (sB gIx (sVT 1) (sC (W.int 1))) aNil))))) (kSeq (kSet 6 (sLc (iSeq (sVT 0)) [8] (gNm 8) MP.tYes (sCall c 46 2 (aCons (sV 8) (aCons (sB gIx (sVT 1) (sC (W.int 1))) aNil))))) (kIf (tV (sB gEq (sB gIx (sVT 1) (sC (W.int 0))) (sC (W.str x31)))) (kPar 5 6 (aCons (sV 6) (aCons (sV 5) aNil))) kNx))))) (kRet (sTup (aCons (sCall c 50 1 (aCons (sV 5) aNil)) (aCons (sCall c 50 1 (aCons (sV 6) aNil)) aNil)))))
def d_split : Df := ⟨9, 2, true, m_split⟩
def m_risen (c : Calls) : SS := (kRet (sBi bTuple (aCons (sBi bSortT (aCons (sLc (iSeq (sVT 0)) [1] (gNm 1) (tV (sNotN (sVT 1))) (sV 1)) aNil)) aNil)))
def d_risen : Df := ⟨2, 1, true, m_risen⟩
def m_Flat___init__ (c : Calls) : SS := (kSeq (kFld 11 (sVT 0) x18 (sV 1)) (kFld 11 (sVT 0) x32 (sHeap (sLst aNil))))
def d_Flat___init__ : Df := ⟨2, 2, true, m_Flat___init__⟩
def m_Flat_block (c : Calls) : SS := (kFor (iSeq (sV 1)) (gTu 3 (gsCons (gNm 4) (gsCons (gNm 5) (gsCons (gNm 6) gsNil)))) (kIf (tV (sB gNe (sVT 2) (sTup aNil))) (kExp (sMeth c 11 54 6 x33 (sV 0) (aCons (sV 4) (aCons (sV 5) (aCons (sV 6) (aCons (sV 2) (aCons (sV 3) aNil))))))) kNx))
def d_Flat_block : Df := ⟨7, 4, true, m_Flat_block⟩
def m_Flat_deed (c : Calls) : SS := (kIf (tV (sB gEq (sB gIx (sVT 2) (sC (W.int 0))) (sC k_FENCE))) (kApp (sFld 11 (sVT 0) x32) (sTup (aCons (sV 1) (aCons (sC k_FENCE) (aCons (sV 4) aNil))))) (kIf (tV (sB gEq (sB gIx (sVT 2) (sC (W.int 0))) (sC k_READ))) (kApp (sFld 11 (sVT 0) x32) (sTup (aCons (sV 1) (aCons (sC k_READ) (aCons (sB gIx (sVT 2) (sC (W.int 2))) (aCons (sV 4) (aCons (sMeth c 11 55 3 x34 (sV 0) (aCons (sB gIx (sVT 2) (sC (W.int 3))) (aCons (sV 5) aNil))) aNil))))))) (kIf (tV (sB gEq (sB gIx (sVT 2) (sC (W.int 0))) (sC k_WRITE))) (kApp (sFld 11 (sVT 0) x32) (sTup (aCons (sV 1) (aCons (sC k_WRITE) (aCons (sB gIx (sVT 2) (sC (W.int 1))) (aCons (sV 4) (aCons (sMeth c 11 55 3 x34 (sV 0) (aCons (sB gIx (sVT 2) (sC (W.int 2))) (aCons (sV 5) aNil))) aNil))))))) (kIf (tV (sB gEq (sB gIx (sVT 2) (sC (W.int 0))) (sC k_LOOP))) (kFor (iRg1 (aCons (sB gIx (sVT 2) (sC (W.int 2))) aNil)) (gNm 6) (kSeq (kSetO 7 (sBi bDict (aCons (sVT 5) aNil))) (kSeq (kIxOD 7 (sB gIx (sVT 2) (sC (W.int 1))) (sV 6)) (kSeq (kFz 7) (kExp (sMeth c 11 53 4 x27 (sV 0) (aCons (sB gIx (sVT 3) (sC (W.int 0))) (aCons (sV 4) (aCons (sV 7) aNil))))))))) (kIf (tV (sB gEq (sB gIx (sVT 2) (sC (W.int 0))) (sC k_IF))) (kSeq (kTg (gTu 2 (gsCons (gNm 8) (gsCons (gNm 9) gsNil))) (sCall c 49 2 (aCons (sV 4) (aCons (sB gIx (sVT 2) (sC (W.int 1))) aNil)))) (kSeq (kExp (sMeth c 11 53 4 x27 (sV 0) (aCons (sB gIx (sVT 3) (sC (W.int 0))) (aCons (sV 8) (aCons (sV 5) aNil))))) (kExp (sMeth c 11 53 4 x27 (sV 0) (aCons (sB gIx (sVT 3) (sC (W.int 1))) (aCons (sV 9) (aCons (sV 5) aNil))))))) kNx)))))
def d_Flat_deed : Df := ⟨10, 6, true, m_Flat_deed⟩
def m_Flat_form (c : Calls) : SS := (kSeq (kSet 3 (sLc (iSeq (sB gIx (sVT 1) (sC (W.int 1)))) [5, 6] (gTu 2 (gsCons (gNm 5) (gsCons (gNm 6) gsNil))) (tV (sB gEq (sVT 5) (sFld 11 (sVT 0) x18))) (sV 6))) (kSeq (kSet 4 (sBi bSum (aCons (sLc (iSeq (sB gIx (sVT 1) (sC (W.int 1)))) [5, 6] (gTu 2 (gsCons (gNm 5) (gsCons (gNm 6) gsNil))) (tV (sB gNe (sVT 5) (sFld 11 (sVT 0) x18))) (sB gMul (sB gIxD (sVT 2) (sVT 5)) (sVT 6))) aNil))) (kRet (sTup (aCons (sB gIx (sVT 1) (sC (W.int 0))) (aCons (sBi bSum (aCons (sVT 3) aNil)) (aCons (sB gAdd (sB gIx (sVT 1) (sC (W.int 2))) (sVT 4)) aNil)))))))
def d_Flat_form : Df := ⟨7, 3, true, m_Flat_form⟩
def m_is_fenced (c : Calls) : SS := (kRet (sBi bAny (aCons (sLc (iSeq (sVT 0)) [1] (gNm 1) MP.tYes (sB gEq (sB gIx (sVT 1) (sC (W.int 1))) (sC k_FENCE))) aNil)))
def d_is_fenced : Df := ⟨2, 1, true, m_is_fenced⟩
def m_items_of (c : Calls) : SS := (kSeq (kSetO 1 (sLst aNil)) (kSeq (kFor (iSeq (sB gIx (sCall c 13 2 (aCons (sV 0) (aCons (sC (W.int 0)) aNil))) (sC (W.int 0)))) (gTu 3 (gsCons (gNm 2) (gsCons (gNm 3) (gsCons (gNm 4) gsNil)))) (kSeq (kSet 5 (sNew c 11 52 2 (aCons (sIfE (tV (sB gEq (sB gIx (sVT 3) (sC (W.int 0))) (sC k_TURNS))) (sB gIx (sVT 3) (sC (W.int 1))) (sC W.non)) aNil))) (kSeq (kIf (tV (sB gEq (sB gIx (sVT 3) (sC (W.int 0))) (sC k_TURNS))) (kExp (sMeth c 11 53 4 x27 (sV 5) (aCons (sB gIx (sVT 4) (sC (W.int 0))) (aCons (sC k_ALL) (aCons sDctN aNil))))) (kExp (sMeth c 11 53 4 x27 (sV 5) (aCons (sLst (aCons (sTup (aCons (sV 2) (aCons (sV 3) (aCons (sV 4) aNil)))) aNil)) (aCons (sC k_ALL) (aCons sDctN aNil)))))) (kAppO 1 (sTup (aCons (sIfE (tV (sB gEq (sB gIx (sVT 3) (sC (W.int 0))) (sC k_TURNS))) (sB gIx (sVT 3) (sC (W.int 2))) (sC W.non)) (aCons (sFld 11 (sVT 5) x32) aNil))))))) (kRetO 1)))
def d_items_of : Df := ⟨6, 1, false, m_items_of⟩
def m_parts_of (c : Calls) : SS := (kSeq (kSetO 1 (sLst (aCons (sHeap (sLst aNil)) aNil))) (kSeq (kFor (iSeq (sV 0)) (gNm 2) (kIf (tV (sB gEq (sB gIx (sVT 2) (sC (W.int 1))) (sC k_FENCE))) (kAppO 1 (sHeap (sLst aNil))) (kApp (sB gIx (sVT 1) (sNeg (sC (W.int 1)))) (sV 2)))) (kRetO 1)))
def d_parts_of : Df := ⟨3, 1, false, m_parts_of⟩
def m_once (c : Calls) : SS := (kSeq (kTg (gTu 5 (gsCons (gNm 1) (gsCons (gNm 2) (gsCons (gNm 3) (gsCons (gNm 4) (gsCons (gTu 3 (gsCons (gNm 5) (gsCons (gNm 6) (gsCons (gNm 7) gsNil)))) gsNil)))))) (sV 0)) (kRet (sTup (aCons (sV 1) (aCons (sV 2) (aCons (sV 3) (aCons (sV 4) (aCons (sTup (aCons (sV 5) (aCons (sC (W.int 0)) (aCons (sC (W.int 0)) (aCons (sV 7) aNil))))) aNil))))))))
def d_once : Df := ⟨8, 1, true, m_once⟩
def m_still (c : Calls) : SS := (kSeq (kTg (gTu 5 (gsCons (gNm 1) (gsCons (gNm 2) (gsCons (gNm 3) (gsCons (gNm 4) (gsCons (gTu 3 (gsCons (gNm 5) (gsCons (gNm 6) (gsCons (gNm 7) gsNil)))) gsNil)))))) (sV 0)) (kRet (sTup (aCons (sV 1) (aCons (sV 2) (aCons (sV 3) (aCons (sV 4) (aCons (sTup (aCons (sV 5) (aCons (sC (W.int 0)) (aCons (sV 6) (aCons (sV 7) aNil))))) aNil))))))))
def d_still : Df := ⟨8, 1, true, m_still⟩
def m_within (c : Calls) : SS := (kSeq (kTg (gTu 5 (gsCons (gNm 2) (gsCons (gNm 3) (gsCons (gNm 4) (gsCons (gNm 5) (gsCons (gTu 3 (gsCons (gNm 6) (gsCons (gNm 7) (gsCons (gNm 8) gsNil)))) gsNil)))))) (sV 0)) (kRet (sTup (aCons (sV 2) (aCons (sV 3) (aCons (sV 4) (aCons (sV 5) (aCons (sTup (aCons (sV 6) (aCons (sV 7) (aCons (sC (W.int 0)) (aCons (sB gAdd (sVT 8) (sB gMul (sVT 7) (sVT 1))) aNil))))) aNil))))))))
def d_within : Df := ⟨9, 2, true, m_within⟩
def m_Maker___init__ (c : Calls) : SS := (kSeq (kFld 12 (sVT 0) x37 (sV 1)) (kSeq (kFld 12 (sVT 0) x36 (sLst (aCons (sBi bList (aCons (sVT 1) aNil)) (aCons (sHeap (sLst aNil)) aNil)))) (kFld 12 (sVT 0) x35 (sV 2))))
def d_Maker___init__ : Df := ⟨3, 3, true, m_Maker___init__⟩
def m_Maker_put (c : Calls) : SS := (kExt (sB gIx (sFld 12 (sVT 0) x36) (sC (W.int 1))) (sV 1))
def d_Maker_put : Df := ⟨2, 2, true, m_Maker_put⟩
def m_Maker_shut (c : Calls) : SS := (kSeq (kSet 3 (sTup (aCons (sBi bTuple (aCons (sVT 1) aNil)) (aCons (sBi bTuple (aCons (sVT 2) aNil)) aNil)))) (kIf (tAnd (tV (sB gNe (sVT 2) (sLst aNil))) (tV (sB gNotIn (sVT 3) (sFld 12 (sVT 0) x35)))) (kApp (sFld 12 (sVT 0) x35) (sV 3)) kNx))
def d_Maker_shut : Df := ⟨4, 3, true, m_Maker_shut⟩
def m_Maker_fence (c : Calls) : SS := (kSeq (kExp (sMeth c 12 64 3 x38 (sV 0) (aCons (sB gIx (sFld 12 (sVT 0) x36) (sC (W.int 0))) (aCons (sB gIx (sFld 12 (sVT 0) x36) (sC (W.int 1))) aNil)))) (kFld 12 (sVT 0) x36 (sLst (aCons (sBi bList (aCons (sFld 12 (sVT 0) x37) aNil)) (aCons (sHeap (sLst aNil)) aNil)))))
def d_Maker_fence : Df := ⟨1, 1, true, m_Maker_fence⟩
def m_Maker_with_word (c : Calls) : SS := (kRet (sB gAdd (sB gAdd (sCut (sFld 12 (sVT 0) x37) none (some (sVT 1))) (sLst (aCons (sV 2) aNil))) (sCut (sFld 12 (sVT 0) x37) (some (sB gAdd (sVT 1) (sC (W.int 1)))) none)))
def d_Maker_with_word : Df := ⟨3, 3, true, m_Maker_with_word⟩
def m_Maker_turns (c : Calls) : SS := (kSeq (kSet 3 (sCall c 58 1 (aCons (sV 2) aNil))) (kSeq (kExp (sMeth c 12 63 2 x41 (sV 0) (aCons (sLc (iSeq (sB gIx (sVT 3) (sC (W.int 0)))) [6] (gNm 6) MP.tYes (sCall c 59 1 (aCons (sV 6) aNil))) aNil))) (kSeq (kExp (sMeth c 12 65 1 x40 (sV 0) aNil)) (kSeq (kFor (iSeq (sCut (sVT 3) (some (sC (W.int 1))) (some (sNeg (sC (W.int 1)))))) (gNm 4) (kExp (sMeth c 12 64 3 x38 (sV 0) (aCons (sMeth c 12 66 3 x39 (sV 0) (aCons (sV 1) (aCons (sC k_THIS) aNil))) (aCons (sLc (iSeq (sVT 4)) [6] (gNm 6) MP.tYes (sCall c 61 2 (aCons (sV 6) (aCons (sC (W.int 0)) aNil)))) aNil))))) (kSeq (kSet 5 (sHeap (sLc (iSeq (sB gIx (sVT 3) (sNeg (sC (W.int 1))))) [6] (gNm 6) MP.tYes (sCall c 61 2 (aCons (sV 6) (aCons (sC (W.int 0)) aNil)))))) (kSeq (kExp (sMeth c 12 64 3 x38 (sV 0) (aCons (sMeth c 12 66 3 x39 (sV 0) (aCons (sV 1) (aCons (sC k_NEXT) aNil))) (aCons (sB gAdd (sVT 5) (sLc (iSeq (sB gIx (sVT 3) (sC (W.int 0)))) [6] (gNm 6) MP.tYes (sCall c 61 2 (aCons (sV 6) (aCons (sC (W.int 1)) aNil))))) aNil)))) (kFld 12 (sVT 0) x36 (sLst (aCons (sMeth c 12 66 3 x39 (sV 0) (aCons (sV 1) (aCons (sC k_LAST) aNil))) (aCons (sV 5) aNil))))))))))
def d_Maker_turns : Df := ⟨7, 3, true, m_Maker_turns⟩
def m_Maker_item (c : Calls) : SS := (kIf (tV (sIsN (sVT 1))) (kSeq (kFor (iSeq (sCut (sCall c 58 1 (aCons (sV 2) aNil)) none (some (sNeg (sC (W.int 1)))))) (gNm 3) (kSeq (kExp (sMeth c 12 63 2 x41 (sV 0) (aCons (sLc (iSeq (sVT 3)) [4] (gNm 4) MP.tYes (sCall c 59 1 (aCons (sV 4) aNil))) aNil))) (kExp (sMeth c 12 65 1 x40 (sV 0) aNil)))) (kExp (sMeth c 12 63 2 x41 (sV 0) (aCons (sLc (iSeq (sB gIx (sCall c 58 1 (aCons (sV 2) aNil)) (sNeg (sC (W.int 1))))) [4] (gNm 4) MP.tYes (sCall c 59 1 (aCons (sV 4) aNil))) aNil)))) (kIf (tV (sB gEq (sB gIx (sFld 12 (sVT 0) x37) (sVT 1)) (sC k_FREE))) (kExp (sMeth c 12 63 2 x41 (sV 0) (aCons (sLc (iSeq (sVT 2)) [4] (gNm 4) MP.tYes (sCall c 60 1 (aCons (sV 4) aNil))) aNil))) (kIf (tV (sB gEq (sB gIx (sFld 12 (sVT 0) x37) (sVT 1)) (sC k_SOME))) (kExp (sMeth c 12 67 3 x42 (sV 0) (aCons (sV 1) (aCons (sV 2) aNil)))) kNx)))
def d_Maker_item : Df := ⟨5, 3, true, m_Maker_item⟩
def m_spans_of (c : Calls) : SS := (kSeq (kSet 1 (sCall c 57 1 (aCons (sV 0) aNil))) (kSeq (kSetO 2 (sLst (aCons (sC (W.str x44)) (aCons (sC (W.str x44)) aNil)))) (kSeq (kFor (iSeq (sV 1)) (gTu 2 (gsCons (gNm 3) (gsCons (gNm 4) gsNil))) (kIf (tV (sNotN (sVT 3))) (kIxOL 2 (sVT 3) (sIfE (tV (sCall c 56 1 (aCons (sV 4) aNil))) (sC k_SOME) (sC k_FREE))) kNx)) (kSeq (kSet 5 (sHeap (sLst aNil))) (kSeq (kSet 6 (sIfE (tV (sB gEq (sB gIx (sVT 2) (sC (W.int 0))) (sC k_SOME))) (sLst (aCons (sC k_NONE) (aCons (sC k_SOME) aNil))) (sCut (sVT 2) none (some (sC (W.int 1)))))) (kSeq (kSet 7 (sIfE (tV (sB gEq (sB gIx (sVT 2) (sC (W.int 1))) (sC k_SOME))) (sLst (aCons (sC k_NONE) (aCons (sC k_SOME) aNil))) (sCut (sVT 2) (some (sC (W.int 1))) none))) (kSeq (kFor (iSeq (sV 6)) (gNm 8) (kFor (iSeq (sV 7)) (gNm 9) (kSeq (kSet 10 (sNew c 12 62 3 (aCons (sLst (aCons (sV 8) (aCons (sV 9) aNil))) (aCons (sV 5) aNil)))) (kSeq (kFor (iSeq (sV 1)) (gTu 2 (gsCons (gNm 3) (gsCons (gNm 4) gsNil))) (kExp (sMeth c 12 68 3 x43 (sV 10) (aCons (sV 3) (aCons (sV 4) aNil))))) (kExp (sMeth c 12 65 1 x40 (sV 10) aNil)))))) (kRet (sV 5)))))))))
def d_spans_of : Df := ⟨11, 1, false, m_spans_of⟩
def m_pair (c : Calls) : SS := (kSeq (kTg (gTu 4 (gsCons (gNm 6) (gsCons (gNm 7) (gsCons (gNm 8) (gsCons (gNm 9) gsNil))))) (sB gIx (sB gIx (sVT 1) (sVT 2)) (sC (W.int 4)))) (kSeq (kTg (gTu 4 (gsCons (gNm 10) (gsCons (gNm 11) (gsCons (gNm 12) (gsCons (gNm 13) gsNil))))) (sB gIx (sB gIx (sVT 1) (sVT 3)) (sC (W.int 4)))) (kSeq (kSet 14 (sTup (aCons (sB gMul (sVT 6) (sB gIx (sVT 4) (sC (W.int 1)))) (aCons (sB gSub (sC (W.int 0)) (sB gMul (sVT 10) (sB gIx (sVT 5) (sC (W.int 1))))) (aCons (sB gSub (sVT 7) (sVT 11)) (aCons (sV 8) (aCons (sB gSub (sC (W.int 0)) (sVT 12)) aNil))))))) (kSeq (kSet 15 (sB gAdd (sB gSub (sB gSub (sVT 13) (sVT 9)) (sB gMul (sVT 6) (sB gIx (sVT 4) (sC (W.int 0))))) (sB gMul (sVT 10) (sB gIx (sVT 5) (sC (W.int 0)))))) (kRet (sTup (aCons (sV 0) (aCons (sV 2) (aCons (sV 3) (aCons (sTup (aCons (sB gIx (sVT 4) (sC (W.int 2))) (aCons (sB gIx (sVT 5) (sC (W.int 2))) (aCons (sC (W.int 0)) (aCons (sC (W.int 0)) (aCons (sC (W.int 0)) aNil)))))) (aCons (sV 14) (aCons (sV 15) aNil))))))))))))
def d_pair : Df := ⟨16, 6, true, m_pair⟩
def m_pairs_of (c : Calls) : SS := (kSeq (kSetO 1 (sLst aNil)) (kSeq (kFor (iEnu (aCons (sV 0) aNil)) (gTu 2 (gsCons (gNm 2) (gsCons (gTu 2 (gsCons (gNm 3) (gsCons (gNm 4) gsNil))) gsNil))) (kFor (iRg1 (aCons (sBi bLen (aCons (sVT 4) aNil)) aNil)) (gNm 5) (kFor (iRg2 (aCons (sV 5) (aCons (sBi bLen (aCons (sVT 4) aNil)) aNil))) (gNm 6) (kSeq (kSet 7 (sTup (aCons (sB gIx (sB gIx (sVT 4) (sVT 5)) (sC (W.int 1))) (aCons (sB gIx (sB gIx (sVT 4) (sVT 6)) (sC (W.int 1))) aNil)))) (kIf (tAnd (tV (sB gEq (sB gIx (sB gIx (sVT 4) (sVT 5)) (sC (W.int 2))) (sB gIx (sB gIx (sVT 4) (sVT 6)) (sC (W.int 2))))) (tV (sB gIn (sC k_WRITE) (sVT 7)))) (kFor (iSeq (sB gIx (sB gIx (sVT 4) (sVT 5)) (sC (W.int 3)))) (gNm 8) (kFor (iSeq (sB gIx (sB gIx (sVT 4) (sVT 6)) (sC (W.int 3)))) (gNm 9) (kAppO 1 (sCall c 70 6 (aCons (sV 2) (aCons (sV 4) (aCons (sV 5) (aCons (sV 6) (aCons (sV 8) (aCons (sV 9) aNil)))))))))) kNx))))) (kRetO 1)))
def d_pairs_of : Df := ⟨10, 1, true, m_pairs_of⟩
def m_sights_of (c : Calls) : SS := (kSeq (kSetO 1 (sLst aNil)) (kSeq (kFor (iSeq (sCall c 71 1 (aCons (sV 0) aNil))) (gNm 2) (kSeq (kTg (gTu 3 (gsCons (gNm 3) (gsCons (gNm 4) (gsCons (gNm 5) gsNil)))) (sCut (sVT 2) none (some (sC (W.int 3))))) (kSeq (kSet 6 (sB gIx (sB gIx (sVT 0) (sVT 3)) (sC (W.int 1)))) (kAppO 1 (sTup (aCons (sV 2) (aCons (sB gIx (sVT 6) (sVT 4)) (aCons (sB gIx (sVT 6) (sVT 5)) aNil)))))))) (kRetO 1)))
def d_sights_of : Df := ⟨7, 1, true, m_sights_of⟩
def m_rows_at (c : Calls) : SS := (kSeq (kSet 1 (sHeap (sLst aNil))) (kSeq (kFor (iSeq (sV 0)) (gTu 2 (gsCons (gNm 2) (gsCons (gNm 3) gsNil))) (kFor (iRg1 (aCons (sBi bLen (aCons (sVT 3) aNil)) aNil)) (gNm 4) (kFor (iRg2 (aCons (sV 4) (aCons (sBi bLen (aCons (sVT 3) aNil)) aNil))) (gNm 5) (kIf (tAnd (tV (sB gEq (sB gIx (sB gIx (sVT 3) (sVT 4)) (sC (W.int 2))) (sB gIx (sB gIx (sVT 3) (sVT 5)) (sC (W.int 2))))) (tV (sB gIn (sC (W.str x45)) (sTup (aCons (sB gIx (sB gIx (sVT 3) (sVT 4)) (sC (W.int 1))) (aCons (sB gIx (sB gIx (sVT 3) (sVT 5)) (sC (W.int 1))) aNil)))))) (kExt (sV 1) (sLc2 (iSeq (sB gIx (sB gIx (sVT 3) (sVT 4)) (sC (W.int 3)))) [6, 7] (gNm 6) MP.tYes (iSeq (sB gIx (sB gIx (sVT 3) (sVT 5)) (sC (W.int 3)))) [7] (gNm 7) MP.tYes (sTup (aCons (sV 6) (aCons (sV 7) aNil))))) kNx)))) (kRet (sV 1))))
def d_rows_at : Df := ⟨8, 1, false, m_rows_at⟩
def m_all_sights (c : Calls) : SS := (kSeq (kSetO 1 (sLst aNil)) (kSeq (kFor (iZip2 (aCons (sCall c 72 1 (aCons (sV 0) aNil)) (aCons (sCall c 73 1 (aCons (sV 0) aNil)) aNil))) (gTu 2 (gsCons (gTu 3 (gsCons (gNm 2) (gsCons (gNm 3) (gsCons (gNm 4) gsNil)))) (gsCons (gNm 5) gsNil))) (kAppO 1 (sNew c 13 32 4 (aCons (sV 2) (aCons (sTup (aCons (sB gIx (sVT 3) (sC (W.int 4))) (aCons (sB gIx (sVT 4) (sC (W.int 4))) aNil))) (aCons (sV 5) aNil)))))) (kRetO 1)))
def d_all_sights : Df := ⟨6, 1, true, m_all_sights⟩
def m_checked (c : Calls) : SS := (kSeq (kExp (sCall c 12 1 (aCons (sV 0) aNil))) (kSeq (kIf (tNot (tV (sIsI (sVT 1) .tuple))) kBad kNx) (kSeq (kSet 2 (sCall c 74 1 (aCons (sCall c 69 1 (aCons (sV 0) aNil)) aNil))) (kSeq (kFor (iEnu (aCons (sV 2) aNil)) (gTu 2 (gsCons (gNm 3) (gsCons (gNm 4) gsNil))) (kIf (tOr (tV (sB gGe (sVT 3) (sBi bLen (aCons (sVT 1) aNil)))) (tNot (tV (sCall c 88 2 (aCons (sV 4) (aCons (sB gIx (sVT 1) (sVT 3)) aNil)))))) (kRet (sV 3)) kNx)) (kRet (sIfE (tV (sB gEq (sBi bLen (aCons (sVT 1) aNil)) (sBi bLen (aCons (sVT 2) aNil)))) (sC W.non) (sBi bLen (aCons (sVT 2) aNil))))))))
def d_checked : Df := ⟨5, 2, false, m_checked⟩
def m__law_start (c : Calls) : SS := (kSeq (kSet 1 (sC (W.int 1))) (kSeq (kFor (iSeq (sV 0)) (gNm 2) (kSet 1 (sB gMod (sB gAdd (sB gAdd (sB gMul (sVT 1) (sC (W.int 48271))) (sVT 2)) (sC (W.int 7))) (sC (W.int 2147483647))))) (kRet (sHeap (sLst (aCons (sV 0) (aCons (sC (W.int 0)) (aCons (sV 1) (aCons (sC (W.int 0)) aNil)))))))))
def d__law_start : Df := ⟨3, 1, true, m__law_start⟩
def m__law_drawn (c : Calls) : SS := (kSeq (kIf (tV (sB gGt (sB gIx (sVT 0) (sC (W.int 3))) (sC (W.int 0)))) (kSeq (kSet 2 (sB gMod (sB gIx (sVT 0) (sC (W.int 3))) (sVT 1))) (kSeq (kIxL (sVT 0) (sC (W.int 3)) (sB gDiv (sB gIx (sVT 0) (sC (W.int 3))) (sVT 1))) (kRet (sV 2)))) kNx) (kSeq (kIxL (sVT 0) (sC (W.int 1)) (sB gAdd (sB gIx (sVT 0) (sC (W.int 1))) (sC (W.int 1)))) (kSeq (kIf (tV (sB gLe (sB gIx (sVT 0) (sC (W.int 1))) (sBi bLen (aCons (sB gIx (sVT 0) (sC (W.int 0))) aNil)))) (kSeq (kSet 3 (sB gIx (sB gIx (sVT 0) (sC (W.int 0))) (sB gSub (sB gIx (sVT 0) (sC (W.int 1))) (sC (W.int 1))))) (kSeq (kIxL (sVT 0) (sC (W.int 3)) (sIfE (tV (sB gGe (sVT 3) (sB gPow (sC (W.int 10)) (sC (W.int 18))))) (sB gDiv (sVT 3) (sVT 1)) (sC (W.int 0)))) (kRet (sB gMod (sVT 3) (sVT 1))))) kNx) (kSeq (kIxL (sVT 0) (sC (W.int 2)) (sB gMod (sB gAdd (sB gMul (sB gIx (sVT 0) (sC (W.int 2))) (sC (W.int 48271))) (sC (W.int 11))) (sC (W.int 2147483647)))) (kRet (sB gMod (sB gDiv (sB gIx (sVT 0) (sC (W.int 2))) (sC (W.int 7))) (sVT 1)))))))
def d__law_drawn : Df := ⟨4, 2, true, m__law_drawn⟩
def m__law_two (c : Calls) : SS := (kRet (sTup (aCons (sTup (aCons (sC (W.str x45)) (aCons (sC (W.int 0)) (aCons (sV 0) (aCons (sTup (aCons (sC (W.str x21)) (aCons (sC (W.int 1)) aNil))) aNil))))) (aCons (sTup (aCons (sC (W.str x46)) (aCons (sV 2) (aCons (sTup (aCons (sTup (aCons (sC (W.str x47)) (aCons (sC (W.str x48)) (aCons (sC (W.int 0)) (aCons (sV 1) aNil))))) aNil)) (aCons (sTup aNil) aNil))))) aNil))))
def d__law_two : Df := ⟨3, 3, true, m__law_two⟩
def m__law_tries (c : Calls) : SS := (kSeq (kFor (iSeq (sV 1)) (gNm 3) (kIf (tV (sNotN (sCall c 90 2 (aCons (sV 0) (aCons (sTup (aCons (sTup (aCons (sC (W.str x49)) aNil)) (aCons (sV 3) aNil))) aNil))))) (kRet (sC (W.bl false))) kNx)) (kSeq (kFor (iSeq (sV 2)) (gNm 3) (kIf (tV (sB gNe (sCall c 90 2 (aCons (sV 0) (aCons (sTup (aCons (sTup (aCons (sC (W.str x49)) aNil)) (aCons (sV 3) aNil))) aNil))) (sC (W.int 1)))) (kRet (sC (W.bl false))) kNx)) (kRet (sC (W.bl true)))))
def d__law_tries : Df := ⟨4, 3, true, m__law_tries⟩
def m__law_settled (c : Calls) : SS := (kSeq (kPar 1 2 (aCons (sCall c 201 2 (aCons (sV 0) (aCons (sC (W.int 9)) aNil))) (aCons (sB gAdd (sC (W.int 1)) (sCall c 201 2 (aCons (sV 0) (aCons (sC (W.int 3)) aNil)))) aNil))) (kSeq (kSet 3 (sTup (aCons (sTup (aCons (sC (W.str x45)) (aCons (sC (W.int 0)) (aCons (sTup (aCons (sC (W.int 1)) (aCons (sTup (aCons (sTup (aCons (sC (W.str x54)) (aCons (sC (W.int 3)) aNil))) aNil)) (aCons (sV 1) aNil)))) (aCons (sTup (aCons (sC (W.str x21)) (aCons (sC (W.int 1)) aNil))) aNil))))) (aCons (sTup (aCons (sC (W.str x47)) (aCons (sC (W.str x48)) (aCons (sC (W.int 0)) (aCons (sTup (aCons (sC (W.int 1)) (aCons (sTup aNil) (aCons (sB gAdd (sVT 1) (sB gMul (sC (W.int 3)) (sVT 2))) aNil)))) aNil))))) aNil)))) (kSeq (kSet 4 (sTup (aCons (sTup (aCons (sC (W.str x42)) (aCons (sC (W.str x54)) (aCons (sC (W.int 0)) (aCons (sTup (aCons (sTup (aCons (sC (W.str x46)) (aCons (sTup (aCons (sC (W.str x53)) (aCons (sC (W.int 3)) aNil))) (aCons (sV 3) (aCons (sTup aNil) aNil))))) (aCons (sTup (aCons (sC (W.str x40)) aNil)) aNil))) aNil))))) aNil))) (kSeq (kSet 5 (sTup (aCons (sC (W.str x50)) (aCons (sC (W.int 2)) (aCons (sB gAdd (sB gMul (sTup (aCons (sTup (aCons (sC (W.str x51)) aNil)) aNil)) (sVT 2)) (sTup (aCons (sTup (aCons (sC (W.str x49)) aNil)) aNil))) aNil))))) (kSeq (kSet 6 (sTup (aCons (sC (W.str x50)) (aCons (sC (W.int 2)) (aCons (sB gAdd (sB gMul (sTup (aCons (sTup (aCons (sC (W.str x51)) aNil)) aNil)) (sB gSub (sVT 2) (sC (W.int 1)))) (sTup (aCons (sTup (aCons (sC (W.str x49)) aNil)) aNil))) aNil))))) (kSeq (kSet 7 (sLst (aCons (sTup (aCons (sC (W.str x49)) aNil)) (aCons (sTup (aCons (sC (W.str x51)) aNil)) (aCons (sTup (aCons (sC (W.str x49)) aNil)) (aCons (sV 6) aNil)))))) (kSeq (kIf (tOr (tV (sNotN (sCall c 90 2 (aCons (sV 4) (aCons (sBi bTuple (aCons (sVT 7) aNil)) aNil))))) (tV (sB gNe (sCall c 90 2 (aCons (sV 4) (aCons (sBi bTuple (aCons (sB gAdd (sCut (sVT 7) none (some (sC (W.int 3)))) (sLst (aCons (sV 5) aNil))) aNil)) aNil))) (sC (W.int 3))))) (kRet (sC (W.bl false))) kNx) (kSeq (kSet 4 (sTup (aCons (sTup (aCons (sC (W.str x46)) (aCons (sTup (aCons (sC (W.str x53)) (aCons (sC (W.int 9)) aNil))) (aCons (sTup (aCons (sTup (aCons (sC (W.str x45)) (aCons (sC (W.int 1)) (aCons (sTup (aCons (sC (W.int 2)) (aCons (sTup aNil) (aCons (sV 1) aNil)))) (aCons (sTup (aCons (sC (W.str x21)) (aCons (sC (W.int 1)) aNil))) aNil))))) aNil)) (aCons (sTup aNil) aNil))))) aNil))) (kSeq (kSet 4 (sB gAdd (sVT 4) (sTup (aCons (sTup (aCons (sC (W.str x46)) (aCons (sTup (aCons (sC (W.str x53)) (aCons (sC (W.int 9)) aNil))) (aCons (sTup (aCons (sTup (aCons (sC (W.str x47)) (aCons (sC (W.str x48)) (aCons (sC (W.int 1)) (aCons (sTup (aCons (sB gSub (sC (W.int 0)) (sC (W.int 3))) (aCons (sTup aNil) (aCons (sB gAdd (sVT 1) (sC (W.int 1))) aNil)))) aNil))))) aNil)) (aCons (sTup aNil) aNil))))) aNil)))) (kSeq (kPar 8 9 (aCons (sLst (aCons (sTup (aCons (sC (W.str x50)) (aCons (sC (W.int 0)) (aCons (sTup (aCons (sTup (aCons (sC (W.str x52)) (aCons (sC (W.int 3)) aNil))) aNil)) aNil)))) (aCons (sTup (aCons (sC (W.str x50)) (aCons (sC (W.int 1)) (aCons (sTup (aCons (sTup (aCons (sC (W.str x52)) (aCons (sC (W.int 2)) aNil))) aNil)) aNil)))) aNil))) (aCons (sLst (aCons (sTup (aCons (sC (W.str x50)) (aCons (sC (W.int 0)) (aCons (sB gMul (sTup (aCons (sTup (aCons (sC (W.str x52)) (aCons (sC (W.int 3)) aNil))) aNil)) (sC (W.int 9))) aNil)))) (aCons (sTup (aCons (sC (W.str x51)) aNil)) aNil))) aNil))) (kSeq (kIf (tNot (tV (sCall c 203 3 (aCons (sV 4) (aCons (sV 8) (aCons (sB gAdd (sVT 9) (sLst (aCons (sTup (aCons (sC (W.str x50)) (aCons (sC (W.int 0)) (aCons (sTup (aCons (sTup (aCons (sC (W.str x52)) (aCons (sC (W.int 2)) aNil))) aNil)) aNil)))) (aCons (sTup (aCons (sC (W.str x52)) (aCons (sC (W.int 2)) aNil))) (aCons (sTup (aCons (sC (W.str x49)) aNil)) aNil))))) aNil)))))) (kRet (sC (W.bl false))) kNx) (kSeq (kSet 4 (sTup (aCons (sTup (aCons (sC (W.str x46)) (aCons (sTup (aCons (sC (W.str x53)) (aCons (sC (W.int 5)) aNil))) (aCons (sTup (aCons (sTup (aCons (sC (W.str x45)) (aCons (sC (W.int 1)) (aCons (sTup (aCons (sC (W.int 3)) (aCons (sTup aNil) (aCons (sV 1) aNil)))) (aCons (sTup (aCons (sC (W.str x21)) (aCons (sC (W.int 1)) aNil))) aNil))))) aNil)) (aCons (sTup aNil) aNil))))) aNil))) (kSeq (kSet 4 (sB gAdd (sVT 4) (sTup (aCons (sTup (aCons (sC (W.str x46)) (aCons (sTup (aCons (sC (W.str x53)) (aCons (sC (W.int 3)) aNil))) (aCons (sTup (aCons (sTup (aCons (sC (W.str x47)) (aCons (sC (W.str x48)) (aCons (sC (W.int 1)) (aCons (sTup (aCons (sB gSub (sC (W.int 0)) (sC (W.int 5))) (aCons (sTup aNil) (aCons (sB gAdd (sVT 1) (sC (W.int 25))) aNil)))) aNil))))) aNil)) (aCons (sTup aNil) aNil))))) aNil)))) (kSeq (kSet 10 (sTup (aCons (sC (W.str x52)) (aCons (sC (W.int 5)) aNil)))) (kSeq (kSet 8 (sLst (aCons (sTup (aCons (sC (W.str x51)) aNil)) (aCons (sTup (aCons (sC (W.str x50)) (aCons (sC (W.int 0)) (aCons (sTup (aCons (sTup (aCons (sC (W.str x51)) aNil)) (aCons (sV 10) (aCons (sV 10) (aCons (sV 10) (aCons (sV 10) aNil)))))) aNil)))) (aCons (sTup (aCons (sC (W.str x50)) (aCons (sC (W.int 1)) (aCons (sB gMul (sTup (aCons (sTup (aCons (sC (W.str x51)) aNil)) aNil)) (sC (W.int 3))) aNil)))) aNil))))) (kSeq (kSetO 9 (sLst (aCons (sTup (aCons (sC (W.str x50)) (aCons (sC (W.int 0)) (aCons (sB gMul (sTup (aCons (sV 10) aNil)) (sC (W.int 5))) aNil)))) (aCons (sTup (aCons (sC (W.str x50)) (aCons (sC (W.int 0)) (aCons (sB gMul (sTup (aCons (sTup (aCons (sC (W.str x51)) aNil)) aNil)) (sC (W.int 9))) aNil)))) aNil)))) (kSeq (kAppO 9 (sTup (aCons (sC (W.str x50)) (aCons (sC (W.int 0)) (aCons (sTup (aCons (sTup (aCons (sC (W.str x51)) aNil)) (aCons (sTup (aCons (sC (W.str x52)) (aCons (sC (W.int 3)) aNil))) (aCons (sV 10) (aCons (sV 10) (aCons (sV 10) aNil)))))) aNil))))) (kSeq (kFz 9) (kRet (sCall c 203 3 (aCons (sV 4) (aCons (sV 8) (aCons (sV 9) aNil)))))))))))))))))))))))
def d__law_settled : Df := ⟨11, 1, true, m__law_settled⟩
def m_law (c : Calls) : SS := (kSeq (kSet 1 (sCall c 200 1 (aCons (sV 0) aNil))) (kSeq (kFor (iRg1 (aCons (sC (W.int 4)) aNil)) (gNm 2) (kSeq (kIf (tNot (tV (sCall c 204 1 (aCons (sV 1) aNil)))) (kRet (sC (W.bl false))) kNx) (kSeq (kPar3 3 4 5 (aCons (sB gAdd (sC (W.int 2)) (sCall c 201 2 (aCons (sV 1) (aCons (sC (W.int 4)) aNil)))) (aCons (sCall c 201 2 (aCons (sV 1) (aCons (sC (W.int 9)) aNil))) (aCons (sB gAdd (sC (W.int 1)) (sCall c 201 2 (aCons (sV 1) (aCons (sC (W.int 5)) aNil)))) aNil)))) (kSeq (kSet 6 (sCall c 202 3 (aCons (sTup (aCons (sV 3) (aCons (sTup aNil) (aCons (sV 4) aNil)))) (aCons (sTup (aCons (sV 3) (aCons (sTup aNil) (aCons (sB gAdd (sB gAdd (sVT 4) (sB gMul (sVT 3) (sVT 5))) (sC (W.int 1))) aNil)))) (aCons (sTup (aCons (sC (W.str x31)) (aCons (sC (W.int 0)) aNil))) aNil))))) (kSeq (kSetO 7 (sLst (aCons (sTup (aCons (sC (W.str x52)) (aCons (sB gAdd (sVT 3) (sC (W.int 1))) aNil))) (aCons (sTup (aCons (sC (W.str x52)) (aCons (sC (W.int 1)) aNil))) (aCons (sTup (aCons (sC (W.str x52)) (aCons (sB gSub (sC (W.int 0)) (sVT 3)) aNil))) (aCons (sTup (aCons (sC (W.str x51)) aNil)) (aCons (sTup (aCons (sC (W.str x49)) aNil)) (aCons (sTup (aCons (sC (W.str x50)) (aCons (sC (W.int 0)) (aCons (sTup aNil) aNil)))) (aCons (sTup aNil) aNil))))))))) (kSeq (kAppO 7 (sTup (aCons (sC (W.str x50)) (aCons (sC (W.int 0)) (aCons (sTup (aCons (sTup (aCons (sC (W.str x52)) (aCons (sV 3) aNil))) aNil)) aNil))))) (kSeq (kFz 7) (kSeq (kIf (tNot (tV (sCall c 203 3 (aCons (sV 6) (aCons (sLst (aCons (sTup (aCons (sC (W.str x52)) (aCons (sV 3) aNil))) aNil)) (aCons (sV 7) aNil)))))) (kRet (sC (W.bl false))) kNx) (kSeq (kSet 6 (sCall c 202 3 (aCons (sTup (aCons (sV 3) (aCons (sTup aNil) (aCons (sV 4) aNil)))) (aCons (sTup (aCons (sB gSub (sC (W.int 0)) (sVT 3)) (aCons (sTup aNil) (aCons (sB gSub (sVT 4) (sVT 5)) aNil)))) (aCons (sTup (aCons (sC (W.str x31)) (aCons (sC (W.int 0)) aNil))) aNil))))) (kSeq (kSet 8 (sLst (aCons (sTup (aCons (sC (W.str x51)) aNil)) aNil))) (kSeq (kIf (tNot (tV (sCall c 203 3 (aCons (sV 6) (aCons (sV 8) (aCons (sLst (aCons (sTup (aCons (sC (W.str x52)) (aCons (sB gMul (sC (W.int 7)) (sVT 3)) aNil))) (aCons (sTup (aCons (sC (W.str x49)) aNil)) (aCons (sTup (aCons (sC (W.str x50)) (aCons (sC (W.int 0)) (aCons (sTup (aCons (sTup (aCons (sC (W.str x51)) aNil)) aNil)) aNil)))) (aCons (sTup (aCons (sC (W.str x50)) (aCons (sC (W.int 2)) (aCons (sTup aNil) aNil)))) aNil))))) aNil)))))) (kRet (sC (W.bl false))) kNx) (kSeq (kSet 9 (sB gAdd (sC (W.int 1)) (sCall c 201 2 (aCons (sV 1) (aCons (sC (W.int 9)) aNil))))) (kSeq (kSet 6 (sCall c 202 3 (aCons (sTup (aCons (sC (W.int 1)) (aCons (sTup aNil) (aCons (sV 4) aNil)))) (aCons (sTup (aCons (sC (W.int 1)) (aCons (sTup aNil) (aCons (sV 4) aNil)))) (aCons (sTup (aCons (sC (W.str x30)) (aCons (sV 9) aNil))) aNil))))) (kSeq (kSet 8 (sLst (aCons (sTup (aCons (sC (W.str x49)) aNil)) (aCons (sTup (aCons (sC (W.str x50)) (aCons (sC (W.int 0)) (aCons (sB gAdd (sB gMul (sTup (aCons (sTup (aCons (sC (W.str x51)) aNil)) aNil)) (sVT 9)) (sTup (aCons (sTup (aCons (sC (W.str x49)) aNil)) aNil))) aNil)))) aNil)))) (kSeq (kSetO 7 (sLst (aCons (sTup (aCons (sC (W.str x51)) aNil)) (aCons (sTup (aCons (sC (W.str x52)) (aCons (sC (W.int 2)) aNil))) (aCons (sTup (aCons (sC (W.str x50)) (aCons (sC (W.int 0)) (aCons (sB gMul (sTup (aCons (sTup (aCons (sC (W.str x51)) aNil)) aNil)) (sVT 9)) aNil)))) (aCons (sTup (aCons (sC (W.str x50)) (aCons (sC (W.int 0)) (aCons (sB gMul (sTup (aCons (sTup (aCons (sC (W.str x51)) aNil)) aNil)) (sB gAdd (sVT 9) (sC (W.int 1)))) aNil)))) aNil)))))) (kSeq (kAppO 7 (sTup (aCons (sC (W.str x50)) (aCons (sC (W.int 1)) (aCons (sTup (aCons (sTup (aCons (sC (W.str x49)) aNil)) aNil)) aNil))))) (kSeq (kFz 7) (kSeq (kIf (tNot (tV (sCall c 203 3 (aCons (sV 6) (aCons (sV 8) (aCons (sV 7) aNil)))))) (kRet (sC (W.bl false))) kNx) (kSeq (kSet 6 (sCall c 202 3 (aCons (sTup (aCons (sC (W.int 0)) (aCons (sTup aNil) (aCons (sV 4) aNil)))) (aCons (sTup (aCons (sC (W.int 1)) (aCons (sTup aNil) (aCons (sB gSub (sVT 4) (sVT 9)) aNil)))) (aCons (sTup (aCons (sC (W.str x53)) (aCons (sV 9) aNil))) aNil))))) (kSeq (kIf (tOr (tV (sB gNe (sCall c 90 2 (aCons (sV 6) (aCons (sTup (aCons (sTup (aCons (sC (W.str x49)) aNil)) (aCons (sTup (aCons (sC (W.str x51)) aNil)) aNil))) aNil))) (sC (W.int 0)))) (tV (sB gNe (sCall c 90 2 (aCons (sV 6) (aCons (sTup aNil) aNil))) (sC (W.int 0))))) (kRet (sC (W.bl false))) kNx) (kSeq (kSet 6 (sTup (aCons (sTup (aCons (sC (W.str x46)) (aCons (sTup (aCons (sC (W.str x30)) (aCons (sV 9) aNil))) (aCons (sTup (aCons (sTup (aCons (sC (W.str x45)) (aCons (sC (W.int 0)) (aCons (sTup (aCons (sC (W.int 0)) (aCons (sTup aNil) (aCons (sV 4) aNil)))) (aCons (sTup (aCons (sC (W.str x13)) aNil)) aNil))))) aNil)) (aCons (sTup (aCons (sTup (aCons (sC (W.str x47)) (aCons (sC (W.str x48)) (aCons (sC (W.int 0)) (aCons (sTup (aCons (sC (W.int 2)) (aCons (sTup aNil) (aCons (sB gAdd (sVT 4) (sC (W.int 1))) aNil)))) aNil))))) aNil)) aNil))))) aNil))) (kSeq (kIf (tV (sNotN (sCall c 90 2 (aCons (sV 6) (aCons (sTup (aCons (sTup (aCons (sC (W.str x49)) aNil)) (aCons (sTup (aCons (sC (W.str x52)) (aCons (sC (W.int 2)) aNil))) (aCons (sTup (aCons (sC (W.str x52)) (aCons (sC (W.int 2)) aNil))) aNil)))) aNil))))) (kRet (sC (W.bl false))) kNx) (kSeq (kIf (tV (sB gNe (sCall c 90 2 (aCons (sV 6) (aCons (sTup (aCons (sTup (aCons (sC (W.str x49)) aNil)) (aCons (sTup (aCons (sC (W.str x52)) (aCons (sC (W.int 2)) aNil))) (aCons (sTup (aCons (sC (W.str x52)) (aCons (sC (W.int 3)) aNil))) aNil)))) aNil))) (sC (W.int 2)))) (kRet (sC (W.bl false))) kNx) (kIf (tV (sB gNe (sCall c 90 2 (aCons (sV 6) (aCons (sTup (aCons (sTup (aCons (sC (W.str x51)) aNil)) (aCons (sTup (aCons (sC (W.str x52)) (aCons (sC (W.int 2)) aNil))) (aCons (sTup (aCons (sC (W.str x52)) (aCons (sC (W.int 2)) aNil))) aNil)))) aNil))) (sC (W.int 0)))) (kRet (sC (W.bl false))) kNx)))))))))))))))))))))))) (kRet (sC (W.bl true)))))
def d_law : Df := ⟨10, 1, true, m_law⟩
def T : Nat → Option Df := fun i => match i with
  | 32 => some d_Sight___init__
  | 33 => some d_Sight_left
  | 34 => some d_Sight_open_ones
  | 35 => some d_Sight_ends
  | 36 => some d_Sight_least
  | 37 => some d_Sight_most
  | 38 => some d_Sight_is_far
  | 39 => some d_Sight_is_mod
  | 40 => some d_Sight_lane
  | 41 => some d_Sight_is_same
  | 42 => some d_Sight_worths
  | 88 => some d_shows
  | 1 => some d_is_whole
  | 2 => some d_is_name
  | 3 => some d_blocks_of
  | 4 => some d_is_place
  | 5 => some d_is_test
  | 6 => some d_is_worth
  | 7 => some d_Looker___init__
  | 8 => some d_Looker_need
  | 9 => some d_Looker_head_fits
  | 10 => some d_Looker_block
  | 11 => some d_touches_in
  | 12 => some d_need_program
  | 13 => some d_numbered
  | 45 => some d_as_row
  | 46 => some d_from_on
  | 47 => some d_up_to
  | 48 => some d_left_by
  | 49 => some d_split
  | 50 => some d_risen
  | 52 => some d_Flat___init__
  | 53 => some d_Flat_block
  | 54 => some d_Flat_deed
  | 55 => some d_Flat_form
  | 56 => some d_is_fenced
  | 57 => some d_items_of
  | 58 => some d_parts_of
  | 59 => some d_once
  | 60 => some d_still
  | 61 => some d_within
  | 62 => some d_Maker___init__
  | 63 => some d_Maker_put
  | 64 => some d_Maker_shut
  | 65 => some d_Maker_fence
  | 66 => some d_Maker_with_word
  | 67 => some d_Maker_turns
  | 68 => some d_Maker_item
  | 69 => some d_spans_of
  | 70 => some d_pair
  | 71 => some d_pairs_of
  | 72 => some d_sights_of
  | 73 => some d_rows_at
  | 74 => some d_all_sights
  | 90 => some d_checked
  | 200 => some d__law_start
  | 201 => some d__law_drawn
  | 202 => some d__law_two
  | 203 => some d__law_tries
  | 204 => some d__law_settled
  | 205 => some d_law
  | _ => none
end MP
end

section
set_option linter.all false
set_option maxRecDepth 100000
/-! PL: helps for plain laws over the small semantics. -/
namespace MP
theorem lcL_map {e : Env} {tg : Tg} {t : ST} {s : SE} {h : Hea} (E : W → Env) (p : W → Bool) (f : W → W) : ∀ (ws acc : List W), (∀ w ∈ ws, tg w e = some (E w)) → (∀ w ∈ ws, t (E w) h = .ok (p w) h) → (∀ w ∈ ws, p w = true → s (E w) h = .ok (f w) h) → acc.length + ws.length ≤ line →
    lcL e tg t s ws acc h = .ok (acc ++ (ws.filter p).map f) h
  | [], acc, _, _, _, _ => by simp [lcL]
  | w :: ws, acc, h1, h2, h3, hl => by
    have hl' : acc.length + ws.length + 1 ≤ line := by simpa [Nat.add_assoc] using hl
    unfold lcL
    rw [h1 w (List.mem_cons_self ..)]
    dsimp only
    rw [h2 w (List.mem_cons_self ..)]
    cases q : p w with
    | false =>
      dsimp only
      rw [lcL_map E p f ws acc (fun x m => h1 x (List.mem_cons_of_mem _ m)) (fun x m => h2 x (List.mem_cons_of_mem _ m)) (fun x m => h3 x (List.mem_cons_of_mem _ m)) (by omega)]
      rw [List.filter_cons_of_neg (by rw [q]; exact Bool.false_ne_true)]
    | true =>
      dsimp only
      rw [h3 w (List.mem_cons_self ..) q]
      dsimp only
      have hb : Nat.blt acc.length line = true := Nat.ble_eq_true_of_le (by show acc.length + 1 ≤ line; omega)
      rw [if_pos hb]
      rw [lcL_map E p f ws (acc ++ [f w]) (fun x m => h1 x (List.mem_cons_of_mem _ m)) (fun x m => h2 x (List.mem_cons_of_mem _ m)) (fun x m => h3 x (List.mem_cons_of_mem _ m)) (by rw [List.length_append]; simp; omega)]
      rw [List.filter_cons_of_pos q, List.map_cons, List.append_assoc]
      rfl
end MP
end

section
set_option linter.all false
set_option maxRecDepth 100000
/-! NF: the same semantics with values laid bare at each call, so that the kernel finds what it saw before. -/
namespace MP
universe u
mutual
def nfW {α : Sort u} : W → (W → α) → α
  | .non, k => k .non
  | .bl true, k => k (.bl true)
  | .bl false, k => k (.bl false)
  | .int i, k => k (.int i)
  | .str s, k => k (.str s)
  | .tup xs, k => nfWs xs fun ys => k (.tup ys)
  | .lst xs, k => nfWs xs fun ys => k (.lst ys)
  | .dct kvs, k => nfKv kvs fun ys => k (.dct ys)
  | .ref n, k => k (.ref n)
  | .scr ns, k => k (.scr ns)
def nfWs {α : Sort u} : List W → (List W → α) → α
  | [], k => k []
  | x :: xs, k => nfW x fun y => nfWs xs fun ys => k (y :: ys)
def nfKv {α : Sort u} : List (W × W) → (List (W × W) → α) → α
  | [], k => k []
  | (a, b) :: xs, k => nfW a fun y => nfW b fun z => nfKv xs fun ys => k ((y, z) :: ys)
end
def nfF {α : Sort u} : List (Nm × W) → (List (Nm × W) → α) → α
  | [], k => k []
  | (a, b) :: xs, k => nfW b fun z => nfF xs fun ys => k ((a, z) :: ys)
def nfO {α : Sort u} : O → (O → α) → α
  | .lst xs, k => nfWs xs fun ys => k (.lst ys)
  | .dct kvs, k => nfKv kvs fun ys => k (.dct ys)
  | .ins c fs, k => nfF fs fun ys => k (.ins c ys)
  | .opq, k => k .opq
def nfH {α : Sort u} : Hea → (Hea → α) → α
  | [], k => k []
  | o :: r, k => nfO o fun p => nfH r fun q => k (p :: q)
mutual
theorem nfW_eq {α : Sort u} : ∀ (w : W) (k : W → α), nfW w k = k w
  | .non, k => rfl
  | .bl true, k => rfl
  | .bl false, k => rfl
  | .int i, k => rfl
  | .str s, k => rfl
  | .tup xs, k => by rw [nfW, nfWs_eq xs]
  | .lst xs, k => by rw [nfW, nfWs_eq xs]
  | .dct kvs, k => by rw [nfW, nfKv_eq kvs]
  | .ref n, k => rfl
  | .scr ns, k => rfl
theorem nfWs_eq {α : Sort u} : ∀ (w : List W) (k : List W → α), nfWs w k = k w
  | [], k => rfl
  | x :: xs, k => by rw [nfWs, nfW_eq x, nfWs_eq xs]
theorem nfKv_eq {α : Sort u} : ∀ (w : List (W × W)) (k : List (W × W) → α), nfKv w k = k w
  | [], k => rfl
  | (a, b) :: xs, k => by rw [nfKv, nfW_eq a, nfW_eq b, nfKv_eq xs]
end
theorem nfF_eq {α : Sort u} : ∀ (w : List (Nm × W)) (k : List (Nm × W) → α), nfF w k = k w
  | [], k => rfl
  | (a, b) :: xs, k => by rw [nfF, nfW_eq b, nfF_eq xs]
theorem nfO_eq {α : Sort u} : ∀ (o : O) (k : O → α), nfO o k = k o
  | .lst xs, k => by rw [nfO, nfWs_eq]
  | .dct xs, k => by rw [nfO, nfKv_eq]
  | .ins c xs, k => by rw [nfO, nfF_eq]
  | .opq, k => rfl
theorem nfH_eq {α : Sort u} : ∀ (h : Hea) (k : Hea → α), nfH h k = k h
  | [], k => rfl
  | o :: r, k => by rw [nfH, nfO_eq, nfH_eq r]
def nfR (r : R W) : R W := match r with
  | .ok a h => nfW a fun a => nfH h fun h => .ok a h
  | .ex c p h => nfW p fun p => nfH h fun h => .ex c p h
  | .bad => .bad
theorem nfR_eq (r : R W) : nfR r = r := by
  cases r with
  | ok a h => show nfW a (fun a => nfH h fun h => R.ok a h) = _; rw [nfW_eq, nfH_eq]
  | ex c p h => show nfW p (fun p => nfH h fun h => R.ex c p h) = _; rw [nfW_eq, nfH_eq]
  | bad => rfl
def runN (b : Bool) (d : Df) (c : Calls) (ws : List W) (h : Hea) : R W := if b = true then nfWs ws fun ws => nfH h fun h => nfR (d.run c ws h) else d.run c ws h
/-- q: the defs at whose calls values are laid bare -/
def callN (q : Nat → Bool) (P : Nat → Option Df) : Nat → Calls
  | 0 => fun _ _ _ => .bad
  | k + 1 => fun f ws h => match P f with
    | some d => runN (q f) d (callN q P k) ws h
    | none => .bad
theorem callN_eq (q : Nat → Bool) (P : Nat → Option Df) : ∀ k, callN q P k = callF P k
  | 0 => rfl
  | k + 1 => by
    funext f ws h
    show (match P f with | some d => runN (q f) d (callN q P k) ws h | none => .bad) = match P f with | some d => d.run (callF P k) ws h | none => .bad
    cases P f with
    | none => rfl
    | some d =>
      show runN (q f) d (callN q P k) ws h = d.run (callF P k) ws h
      unfold runN
      rw [callN_eq q P k]
      split
      · rw [nfWs_eq, nfH_eq, nfR_eq]
      · rfl
end MP
end

section
namespace MP
/-- f and g are alike at each of a list -/
inductive AllEq {α β : Type} (f g : α → β) : List α → Prop
  | nil : AllEq f g []
  | cons {x : α} {xs : List α} : f x = g x → AllEq f g xs → AllEq f g (x :: xs)
theorem AllEq.at {α β : Type} {f g : α → β} : ∀ {l : List α} {x : α}, AllEq f g l → x ∈ l → f x = g x
  | _, _, .nil, m => by cases m
  | _, _, .cons e r, m => by
    rcases List.mem_cons.mp m with z | z
    · rw [z]; exact e
    · exact AllEq.at r z
end MP
end

section
set_option linter.all false
set_option maxRecDepth 100000
/-! KD: what the law's drawing does. -/
namespace MP
theorem call_at {i : Nat} {d : Df} (hT : T i = some d) (k : Nat) (ws : List W) (h : Hea) : callF T (k + 1) i ws h = d.run (callF T k) ws h := by
  show (match T i with | some d => d.run (callF T k) ws h | none => .bad) = _
  rw [hT]
/-- the heap that holds the law's state alone -/
abbrev stH (ns : List Int) (i m l : Int) : Hea := [.lst [.scr ns, .int i, .int m, .int l]]
theorem fmod_in (a : Int) {n : Int} (h : 0 < n) : 0 ≤ a.fmod n ∧ a.fmod n < n := ⟨Int.fmod_nonneg_of_pos a h, Int.fmod_lt_of_pos a h⟩
theorem atW_int {ns : List Int} {i : Int} (h0 : 0 ≤ i) (h1 : i < ns.length) : ∃ z, atW (ns.map W.int) i = some (.int z) := by
  unfold atW place
  rw [List.length_map, if_pos h0, if_pos h1]
  have hl : i.toNat < ns.length := by omega
  exact ⟨ns[i.toNat], by simp [Df.run, kRet, kIf, kSeq, kNx, kSet, kSetO, kTg, kPar, kPar3, kStar, kExp, kFz, kRetO, kRetN, kFld, kFldA, kAppO, kApp, kExt, kIxL, kIxOL, kIxD, kIxOD, kFor, sIfE, tV, tAnd, tOr, tNot, sB, sV, sVT, sC, sNeg, sChain, sIsN, sNotN, sAnd, sOr, sNot, aNil, aCons, sTup, sLst, sHeap, sDctN, sCut, sBnd, sFld, sCall, sMeth, sNew, sBi, sIsI, sGet, sTab, iSeq, iStr, iRg1, iRg2, sLc, sLc2, R.bind, R.out, ofO, starts, ends, cN, isNone, gNm, gsNil, gsCons, gTu, noOwn, wipeE, mapR, oNx, hl]⟩
theorem at0 (a b c d : W) (h : Hea) : ixSeq [a, b, c, d] (.int 0) h = .ok a h := rfl
theorem at1 (a b c d : W) (h : Hea) : ixSeq [a, b, c, d] (.int 1) h = .ok b h := rfl
theorem at2 (a b c d : W) (h : Hea) : ixSeq [a, b, c, d] (.int 2) h = .ok c h := rfl
theorem at3 (a b c d : W) (h : Hea) : ixSeq [a, b, c, d] (.int 3) h = .ok d h := rfl
theorem run_drawn (ns : List Int) (i m l many : Int) (hi : 0 ≤ i) (h0 : 0 < many) (h1 : many < 1000000000) (k : Nat) :
    ∃ r i' m' l', callF T (k + 1) 201 [.ref 0, .int many] (stH ns i m l) = .ok (.int r) (stH ns i' m' l') ∧ 0 ≤ r ∧ r < many ∧ 0 ≤ i' := by
  have hm : many ≠ 0 := by omega
  have hb : many.natAbs < 1073741824 := by omega
  by_cases q : 0 < l
  · refine ⟨l.fmod many, i, m, l.fdiv many, ?_, (fmod_in l h0).1, (fmod_in l h0).2, hi⟩
    rw [call_at (d := d__law_drawn) rfl]
    simp [Df.run, kRet, kIf, kSeq, kNx, kSet, kSetO, kTg, kPar, kPar3, kStar, kExp, kFz, kRetO, kRetN, kFld, kFldA, kAppO, kApp, kExt, kIxL, kIxOL, kIxD, kIxOD, kFor, sIfE, tV, tAnd, tOr, tNot, sB, sV, sVT, sC, sNeg, sChain, sIsN, sNotN, sAnd, sOr, sNot, aNil, aCons, sTup, sLst, sHeap, sDctN, sCut, sBnd, sFld, sCall, sMeth, sNew, sBi, sIsI, sGet, sTab, iSeq, iStr, iRg1, iRg2, sLc, sLc2, R.bind, R.out, ofO, starts, ends, cN, isNone, gNm, gsNil, gsCons, gTu, noOwn, wipeE, mapR, oNx, d__law_drawn, m__law_drawn, gGt, gI, gIx, ixOpt, seqOf, ixSeq, atW, place, gMod, gDiv, hm, hb, q, setAtL, heapL, intP]
  · by_cases q2 : i + 1 ≤ ns.length
    · obtain ⟨z, ez⟩ := atW_int (ns := ns) (i := i) hi (by omega)
      have ez3 : ∀ h, ixSeq (ns.map W.int) (.int i) h = .ok (.int z) h := fun h => by
        show ofO (atW (ns.map W.int) i) h = _
        rw [ez]
        rfl
      by_cases q3 : (1000000000000000000 : Int) ≤ z
      · refine ⟨z.fmod many, i + 1, m, z.fdiv many, ?_, (fmod_in z h0).1, (fmod_in z h0).2, by omega⟩
        rw [call_at (d := d__law_drawn) rfl]
        simp [Df.run, kRet, kIf, kSeq, kNx, kSet, kSetO, kTg, kPar, kPar3, kStar, kExp, kFz, kRetO, kRetN, kFld, kFldA, kAppO, kApp, kExt, kIxL, kIxOL, kIxD, kIxOD, kFor, sIfE, tV, tAnd, tOr, tNot, sB, sV, sVT, sC, sNeg, sChain, sIsN, sNotN, sAnd, sOr, sNot, aNil, aCons, sTup, sLst, sHeap, sDctN, sCut, sBnd, sFld, sCall, sMeth, sNew, sBi, sIsI, sGet, sTab, iSeq, iStr, iRg1, iRg2, sLc, sLc2, R.bind, R.out, ofO, starts, ends, cN, isNone, gNm, gsNil, gsCons, gTu, noOwn, wipeE, mapR, oNx, d__law_drawn, m__law_drawn, gGt, gGe, gLe, gPow, small, bLen, gAdd, gSub, gI, gIx, ixOpt, seqOf, place, gMod, gDiv, hm, hb, q, q2, q3, setAtL, heapL, intP, ez3, at0, at1, at3]
      · refine ⟨z.fmod many, i + 1, m, 0, ?_, (fmod_in z h0).1, (fmod_in z h0).2, by omega⟩
        rw [call_at (d := d__law_drawn) rfl]
        simp [Df.run, kRet, kIf, kSeq, kNx, kSet, kSetO, kTg, kPar, kPar3, kStar, kExp, kFz, kRetO, kRetN, kFld, kFldA, kAppO, kApp, kExt, kIxL, kIxOL, kIxD, kIxOD, kFor, sIfE, tV, tAnd, tOr, tNot, sB, sV, sVT, sC, sNeg, sChain, sIsN, sNotN, sAnd, sOr, sNot, aNil, aCons, sTup, sLst, sHeap, sDctN, sCut, sBnd, sFld, sCall, sMeth, sNew, sBi, sIsI, sGet, sTab, iSeq, iStr, iRg1, iRg2, sLc, sLc2, R.bind, R.out, ofO, starts, ends, cN, isNone, gNm, gsNil, gsCons, gTu, noOwn, wipeE, mapR, oNx, d__law_drawn, m__law_drawn, gGt, gGe, gLe, gPow, small, bLen, gAdd, gSub, gI, gIx, ixOpt, seqOf, place, gMod, gDiv, hm, hb, q, q2, q3, setAtL, heapL, intP, ez3, at0, at1, at3]
    · refine ⟨(((m * 48271 + 11).fmod 2147483647).fdiv 7).fmod many, i + 1, (m * 48271 + 11).fmod 2147483647, l, ?_, (fmod_in _ h0).1, (fmod_in _ h0).2, by omega⟩
      rw [call_at (d := d__law_drawn) rfl]
      simp [Df.run, kRet, kIf, kSeq, kNx, kSet, kSetO, kTg, kPar, kPar3, kStar, kExp, kFz, kRetO, kRetN, kFld, kFldA, kAppO, kApp, kExt, kIxL, kIxOL, kIxD, kIxOD, kFor, sIfE, tV, tAnd, tOr, tNot, sB, sV, sVT, sC, sNeg, sChain, sIsN, sNotN, sAnd, sOr, sNot, aNil, aCons, sTup, sLst, sHeap, sDctN, sCut, sBnd, sFld, sCall, sMeth, sNew, sBi, sIsI, sGet, sTab, iSeq, iStr, iRg1, iRg2, sLc, sLc2, R.bind, R.out, ofO, starts, ends, cN, isNone, gNm, gsNil, gsCons, gTu, noOwn, wipeE, mapR, oNx, d__law_drawn, m__law_drawn, gGt, gGe, gLe, gPow, small, bLen, gAdd, gSub, gMul, gI, gIx, ixOpt, seqOf, ixSeq, atW, place, gMod, gDiv, hm, hb, q, q2, setAtL, heapL, intP]
end MP
end

section
set_option linter.all false
set_option maxRecDepth 100000
/-! KS: the law's pieces between its draws: printed by split17.py -/
namespace MP
def sgS (c : Calls) : SS := (kSeq (kSet 3 (sTup (aCons (sTup (aCons (sC (W.str x45)) (aCons (sC (W.int 0)) (aCons (sTup (aCons (sC (W.int 1)) (aCons (sTup (aCons (sTup (aCons (sC (W.str x54)) (aCons (sC (W.int 3)) aNil))) aNil)) (aCons (sV 1) aNil)))) (aCons (sTup (aCons (sC (W.str x21)) (aCons (sC (W.int 1)) aNil))) aNil))))) (aCons (sTup (aCons (sC (W.str x47)) (aCons (sC (W.str x48)) (aCons (sC (W.int 0)) (aCons (sTup (aCons (sC (W.int 1)) (aCons (sTup aNil) (aCons (sB gAdd (sVT 1) (sB gMul (sC (W.int 3)) (sVT 2))) aNil)))) aNil))))) aNil)))) (kSeq (kSet 4 (sTup (aCons (sTup (aCons (sC (W.str x42)) (aCons (sC (W.str x54)) (aCons (sC (W.int 0)) (aCons (sTup (aCons (sTup (aCons (sC (W.str x46)) (aCons (sTup (aCons (sC (W.str x53)) (aCons (sC (W.int 3)) aNil))) (aCons (sV 3) (aCons (sTup aNil) aNil))))) (aCons (sTup (aCons (sC (W.str x40)) aNil)) aNil))) aNil))))) aNil))) (kSeq (kSet 5 (sTup (aCons (sC (W.str x50)) (aCons (sC (W.int 2)) (aCons (sB gAdd (sB gMul (sTup (aCons (sTup (aCons (sC (W.str x51)) aNil)) aNil)) (sVT 2)) (sTup (aCons (sTup (aCons (sC (W.str x49)) aNil)) aNil))) aNil))))) (kSeq (kSet 6 (sTup (aCons (sC (W.str x50)) (aCons (sC (W.int 2)) (aCons (sB gAdd (sB gMul (sTup (aCons (sTup (aCons (sC (W.str x51)) aNil)) aNil)) (sB gSub (sVT 2) (sC (W.int 1)))) (sTup (aCons (sTup (aCons (sC (W.str x49)) aNil)) aNil))) aNil))))) (kSeq (kSet 7 (sLst (aCons (sTup (aCons (sC (W.str x49)) aNil)) (aCons (sTup (aCons (sC (W.str x51)) aNil)) (aCons (sTup (aCons (sC (W.str x49)) aNil)) (aCons (sV 6) aNil)))))) (kSeq (kIf (tOr (tV (sNotN (sCall c 90 2 (aCons (sV 4) (aCons (sBi bTuple (aCons (sVT 7) aNil)) aNil))))) (tV (sB gNe (sCall c 90 2 (aCons (sV 4) (aCons (sBi bTuple (aCons (sB gAdd (sCut (sVT 7) none (some (sC (W.int 3)))) (sLst (aCons (sV 5) aNil))) aNil)) aNil))) (sC (W.int 3))))) (kRet (sC (W.bl false))) kNx) (kSeq (kSet 4 (sTup (aCons (sTup (aCons (sC (W.str x46)) (aCons (sTup (aCons (sC (W.str x53)) (aCons (sC (W.int 9)) aNil))) (aCons (sTup (aCons (sTup (aCons (sC (W.str x45)) (aCons (sC (W.int 1)) (aCons (sTup (aCons (sC (W.int 2)) (aCons (sTup aNil) (aCons (sV 1) aNil)))) (aCons (sTup (aCons (sC (W.str x21)) (aCons (sC (W.int 1)) aNil))) aNil))))) aNil)) (aCons (sTup aNil) aNil))))) aNil))) (kSeq (kSet 4 (sB gAdd (sVT 4) (sTup (aCons (sTup (aCons (sC (W.str x46)) (aCons (sTup (aCons (sC (W.str x53)) (aCons (sC (W.int 9)) aNil))) (aCons (sTup (aCons (sTup (aCons (sC (W.str x47)) (aCons (sC (W.str x48)) (aCons (sC (W.int 1)) (aCons (sTup (aCons (sB gSub (sC (W.int 0)) (sC (W.int 3))) (aCons (sTup aNil) (aCons (sB gAdd (sVT 1) (sC (W.int 1))) aNil)))) aNil))))) aNil)) (aCons (sTup aNil) aNil))))) aNil)))) (kSeq (kPar 8 9 (aCons (sLst (aCons (sTup (aCons (sC (W.str x50)) (aCons (sC (W.int 0)) (aCons (sTup (aCons (sTup (aCons (sC (W.str x52)) (aCons (sC (W.int 3)) aNil))) aNil)) aNil)))) (aCons (sTup (aCons (sC (W.str x50)) (aCons (sC (W.int 1)) (aCons (sTup (aCons (sTup (aCons (sC (W.str x52)) (aCons (sC (W.int 2)) aNil))) aNil)) aNil)))) aNil))) (aCons (sLst (aCons (sTup (aCons (sC (W.str x50)) (aCons (sC (W.int 0)) (aCons (sB gMul (sTup (aCons (sTup (aCons (sC (W.str x52)) (aCons (sC (W.int 3)) aNil))) aNil)) (sC (W.int 9))) aNil)))) (aCons (sTup (aCons (sC (W.str x51)) aNil)) aNil))) aNil))) (kSeq (kIf (tNot (tV (sCall c 203 3 (aCons (sV 4) (aCons (sV 8) (aCons (sB gAdd (sVT 9) (sLst (aCons (sTup (aCons (sC (W.str x50)) (aCons (sC (W.int 0)) (aCons (sTup (aCons (sTup (aCons (sC (W.str x52)) (aCons (sC (W.int 2)) aNil))) aNil)) aNil)))) (aCons (sTup (aCons (sC (W.str x52)) (aCons (sC (W.int 2)) aNil))) (aCons (sTup (aCons (sC (W.str x49)) aNil)) aNil))))) aNil)))))) (kRet (sC (W.bl false))) kNx) (kSeq (kSet 4 (sTup (aCons (sTup (aCons (sC (W.str x46)) (aCons (sTup (aCons (sC (W.str x53)) (aCons (sC (W.int 5)) aNil))) (aCons (sTup (aCons (sTup (aCons (sC (W.str x45)) (aCons (sC (W.int 1)) (aCons (sTup (aCons (sC (W.int 3)) (aCons (sTup aNil) (aCons (sV 1) aNil)))) (aCons (sTup (aCons (sC (W.str x21)) (aCons (sC (W.int 1)) aNil))) aNil))))) aNil)) (aCons (sTup aNil) aNil))))) aNil))) (kSeq (kSet 4 (sB gAdd (sVT 4) (sTup (aCons (sTup (aCons (sC (W.str x46)) (aCons (sTup (aCons (sC (W.str x53)) (aCons (sC (W.int 3)) aNil))) (aCons (sTup (aCons (sTup (aCons (sC (W.str x47)) (aCons (sC (W.str x48)) (aCons (sC (W.int 1)) (aCons (sTup (aCons (sB gSub (sC (W.int 0)) (sC (W.int 5))) (aCons (sTup aNil) (aCons (sB gAdd (sVT 1) (sC (W.int 25))) aNil)))) aNil))))) aNil)) (aCons (sTup aNil) aNil))))) aNil)))) (kSeq (kSet 10 (sTup (aCons (sC (W.str x52)) (aCons (sC (W.int 5)) aNil)))) (kSeq (kSet 8 (sLst (aCons (sTup (aCons (sC (W.str x51)) aNil)) (aCons (sTup (aCons (sC (W.str x50)) (aCons (sC (W.int 0)) (aCons (sTup (aCons (sTup (aCons (sC (W.str x51)) aNil)) (aCons (sV 10) (aCons (sV 10) (aCons (sV 10) (aCons (sV 10) aNil)))))) aNil)))) (aCons (sTup (aCons (sC (W.str x50)) (aCons (sC (W.int 1)) (aCons (sB gMul (sTup (aCons (sTup (aCons (sC (W.str x51)) aNil)) aNil)) (sC (W.int 3))) aNil)))) aNil))))) (kSeq (kSetO 9 (sLst (aCons (sTup (aCons (sC (W.str x50)) (aCons (sC (W.int 0)) (aCons (sB gMul (sTup (aCons (sV 10) aNil)) (sC (W.int 5))) aNil)))) (aCons (sTup (aCons (sC (W.str x50)) (aCons (sC (W.int 0)) (aCons (sB gMul (sTup (aCons (sTup (aCons (sC (W.str x51)) aNil)) aNil)) (sC (W.int 9))) aNil)))) aNil)))) (kSeq (kAppO 9 (sTup (aCons (sC (W.str x50)) (aCons (sC (W.int 0)) (aCons (sTup (aCons (sTup (aCons (sC (W.str x51)) aNil)) (aCons (sTup (aCons (sC (W.str x52)) (aCons (sC (W.int 3)) aNil))) (aCons (sV 10) (aCons (sV 10) (aCons (sV 10) aNil)))))) aNil))))) (kSeq (kFz 9) (kRet (sCall c 203 3 (aCons (sV 4) (aCons (sV 8) (aCons (sV 9) aNil))))))))))))))))))))))
def sg1 (c : Calls) (R : SS) : SS := (kSeq (kSet 6 (sCall c 202 3 (aCons (sTup (aCons (sV 3) (aCons (sTup aNil) (aCons (sV 4) aNil)))) (aCons (sTup (aCons (sV 3) (aCons (sTup aNil) (aCons (sB gAdd (sB gAdd (sVT 4) (sB gMul (sVT 3) (sVT 5))) (sC (W.int 1))) aNil)))) (aCons (sTup (aCons (sC (W.str x31)) (aCons (sC (W.int 0)) aNil))) aNil))))) (kSeq (kSetO 7 (sLst (aCons (sTup (aCons (sC (W.str x52)) (aCons (sB gAdd (sVT 3) (sC (W.int 1))) aNil))) (aCons (sTup (aCons (sC (W.str x52)) (aCons (sC (W.int 1)) aNil))) (aCons (sTup (aCons (sC (W.str x52)) (aCons (sB gSub (sC (W.int 0)) (sVT 3)) aNil))) (aCons (sTup (aCons (sC (W.str x51)) aNil)) (aCons (sTup (aCons (sC (W.str x49)) aNil)) (aCons (sTup (aCons (sC (W.str x50)) (aCons (sC (W.int 0)) (aCons (sTup aNil) aNil)))) (aCons (sTup aNil) aNil))))))))) (kSeq (kAppO 7 (sTup (aCons (sC (W.str x50)) (aCons (sC (W.int 0)) (aCons (sTup (aCons (sTup (aCons (sC (W.str x52)) (aCons (sV 3) aNil))) aNil)) aNil))))) (kSeq (kFz 7) (kSeq (kIf (tNot (tV (sCall c 203 3 (aCons (sV 6) (aCons (sLst (aCons (sTup (aCons (sC (W.str x52)) (aCons (sV 3) aNil))) aNil)) (aCons (sV 7) aNil)))))) (kRet (sC (W.bl false))) kNx) (kSeq (kSet 6 (sCall c 202 3 (aCons (sTup (aCons (sV 3) (aCons (sTup aNil) (aCons (sV 4) aNil)))) (aCons (sTup (aCons (sB gSub (sC (W.int 0)) (sVT 3)) (aCons (sTup aNil) (aCons (sB gSub (sVT 4) (sVT 5)) aNil)))) (aCons (sTup (aCons (sC (W.str x31)) (aCons (sC (W.int 0)) aNil))) aNil))))) (kSeq (kSet 8 (sLst (aCons (sTup (aCons (sC (W.str x51)) aNil)) aNil))) (kSeq (kIf (tNot (tV (sCall c 203 3 (aCons (sV 6) (aCons (sV 8) (aCons (sLst (aCons (sTup (aCons (sC (W.str x52)) (aCons (sB gMul (sC (W.int 7)) (sVT 3)) aNil))) (aCons (sTup (aCons (sC (W.str x49)) aNil)) (aCons (sTup (aCons (sC (W.str x50)) (aCons (sC (W.int 0)) (aCons (sTup (aCons (sTup (aCons (sC (W.str x51)) aNil)) aNil)) aNil)))) (aCons (sTup (aCons (sC (W.str x50)) (aCons (sC (W.int 2)) (aCons (sTup aNil) aNil)))) aNil))))) aNil)))))) (kRet (sC (W.bl false))) kNx) R))))))))
def sg2 (c : Calls) : SS := (kSeq (kSet 6 (sCall c 202 3 (aCons (sTup (aCons (sC (W.int 1)) (aCons (sTup aNil) (aCons (sV 4) aNil)))) (aCons (sTup (aCons (sC (W.int 1)) (aCons (sTup aNil) (aCons (sV 4) aNil)))) (aCons (sTup (aCons (sC (W.str x30)) (aCons (sV 9) aNil))) aNil))))) (kSeq (kSet 8 (sLst (aCons (sTup (aCons (sC (W.str x49)) aNil)) (aCons (sTup (aCons (sC (W.str x50)) (aCons (sC (W.int 0)) (aCons (sB gAdd (sB gMul (sTup (aCons (sTup (aCons (sC (W.str x51)) aNil)) aNil)) (sVT 9)) (sTup (aCons (sTup (aCons (sC (W.str x49)) aNil)) aNil))) aNil)))) aNil)))) (kSeq (kSetO 7 (sLst (aCons (sTup (aCons (sC (W.str x51)) aNil)) (aCons (sTup (aCons (sC (W.str x52)) (aCons (sC (W.int 2)) aNil))) (aCons (sTup (aCons (sC (W.str x50)) (aCons (sC (W.int 0)) (aCons (sB gMul (sTup (aCons (sTup (aCons (sC (W.str x51)) aNil)) aNil)) (sVT 9)) aNil)))) (aCons (sTup (aCons (sC (W.str x50)) (aCons (sC (W.int 0)) (aCons (sB gMul (sTup (aCons (sTup (aCons (sC (W.str x51)) aNil)) aNil)) (sB gAdd (sVT 9) (sC (W.int 1)))) aNil)))) aNil)))))) (kSeq (kAppO 7 (sTup (aCons (sC (W.str x50)) (aCons (sC (W.int 1)) (aCons (sTup (aCons (sTup (aCons (sC (W.str x49)) aNil)) aNil)) aNil))))) (kSeq (kFz 7) (kSeq (kIf (tNot (tV (sCall c 203 3 (aCons (sV 6) (aCons (sV 8) (aCons (sV 7) aNil)))))) (kRet (sC (W.bl false))) kNx) (kSeq (kSet 6 (sCall c 202 3 (aCons (sTup (aCons (sC (W.int 0)) (aCons (sTup aNil) (aCons (sV 4) aNil)))) (aCons (sTup (aCons (sC (W.int 1)) (aCons (sTup aNil) (aCons (sB gSub (sVT 4) (sVT 9)) aNil)))) (aCons (sTup (aCons (sC (W.str x53)) (aCons (sV 9) aNil))) aNil))))) (kSeq (kIf (tOr (tV (sB gNe (sCall c 90 2 (aCons (sV 6) (aCons (sTup (aCons (sTup (aCons (sC (W.str x49)) aNil)) (aCons (sTup (aCons (sC (W.str x51)) aNil)) aNil))) aNil))) (sC (W.int 0)))) (tV (sB gNe (sCall c 90 2 (aCons (sV 6) (aCons (sTup aNil) aNil))) (sC (W.int 0))))) (kRet (sC (W.bl false))) kNx) (kSeq (kSet 6 (sTup (aCons (sTup (aCons (sC (W.str x46)) (aCons (sTup (aCons (sC (W.str x30)) (aCons (sV 9) aNil))) (aCons (sTup (aCons (sTup (aCons (sC (W.str x45)) (aCons (sC (W.int 0)) (aCons (sTup (aCons (sC (W.int 0)) (aCons (sTup aNil) (aCons (sV 4) aNil)))) (aCons (sTup (aCons (sC (W.str x13)) aNil)) aNil))))) aNil)) (aCons (sTup (aCons (sTup (aCons (sC (W.str x47)) (aCons (sC (W.str x48)) (aCons (sC (W.int 0)) (aCons (sTup (aCons (sC (W.int 2)) (aCons (sTup aNil) (aCons (sB gAdd (sVT 4) (sC (W.int 1))) aNil)))) aNil))))) aNil)) aNil))))) aNil))) (kSeq (kIf (tV (sNotN (sCall c 90 2 (aCons (sV 6) (aCons (sTup (aCons (sTup (aCons (sC (W.str x49)) aNil)) (aCons (sTup (aCons (sC (W.str x52)) (aCons (sC (W.int 2)) aNil))) (aCons (sTup (aCons (sC (W.str x52)) (aCons (sC (W.int 2)) aNil))) aNil)))) aNil))))) (kRet (sC (W.bl false))) kNx) (kSeq (kIf (tV (sB gNe (sCall c 90 2 (aCons (sV 6) (aCons (sTup (aCons (sTup (aCons (sC (W.str x49)) aNil)) (aCons (sTup (aCons (sC (W.str x52)) (aCons (sC (W.int 2)) aNil))) (aCons (sTup (aCons (sC (W.str x52)) (aCons (sC (W.int 3)) aNil))) aNil)))) aNil))) (sC (W.int 2)))) (kRet (sC (W.bl false))) kNx) (kIf (tV (sB gNe (sCall c 90 2 (aCons (sV 6) (aCons (sTup (aCons (sTup (aCons (sC (W.str x51)) aNil)) (aCons (sTup (aCons (sC (W.str x52)) (aCons (sC (W.int 2)) aNil))) (aCons (sTup (aCons (sC (W.str x52)) (aCons (sC (W.int 2)) aNil))) aNil)))) aNil))) (sC (W.int 0)))) (kRet (sC (W.bl false))) kNx))))))))))))
def pD0 (c : Calls) : SS := (kPar 1 2 (aCons (sCall c 201 2 (aCons (sV 0) (aCons (sC (W.int 9)) aNil))) (aCons (sB gAdd (sC (W.int 1)) (sCall c 201 2 (aCons (sV 0) (aCons (sC (W.int 3)) aNil)))) aNil)))
def pB0 (c : Calls) : SS := (kIf (tNot (tV (sCall c 204 1 (aCons (sV 1) aNil)))) (kRet (sC (W.bl false))) kNx)
def pB1 (c : Calls) : SS := (kPar3 3 4 5 (aCons (sB gAdd (sC (W.int 2)) (sCall c 201 2 (aCons (sV 1) (aCons (sC (W.int 4)) aNil)))) (aCons (sCall c 201 2 (aCons (sV 1) (aCons (sC (W.int 9)) aNil))) (aCons (sB gAdd (sC (W.int 1)) (sCall c 201 2 (aCons (sV 1) (aCons (sC (W.int 5)) aNil)))) aNil))))
def pB10 (c : Calls) : SS := (kSet 9 (sB gAdd (sC (W.int 1)) (sCall c 201 2 (aCons (sV 1) (aCons (sC (W.int 9)) aNil)))))
def pL0 (c : Calls) : SS := (kSet 1 (sCall c 200 1 (aCons (sV 0) aNil)))
theorem settled_eq (c : Calls) : m__law_settled c = kSeq (pD0 c) (sgS c) := rfl
def lawB (c : Calls) : SS := kSeq (pB0 c) (kSeq (pB1 c) (sg1 c (kSeq (pB10 c) (sg2 c))))
theorem law_eq (c : Calls) : m_law c = kSeq (pL0 c) (kSeq (kFor (iRg1 (aCons (sC (W.int 4)) aNil)) (gNm 2) (lawB c)) (kRet (sC (W.bl true)))) := rfl
def envOf : Out → Env
  | .nx e _ => e
  | _ => []
end MP
end

section
set_option linter.all false
set_option maxRecDepth 100000
/-! KE1: the pieces between the draws, at each of the draws, by the kernel. -/
namespace MP
abbrev sl (w : W) : Option (Bool × W) := some (false, w)
abbrev qN : Nat → Bool := fun i => Nat.beq i 90 || Nat.beq i 203
def fS (ns : List Int) (i m l : Int) : Int × Int → Out
  | (n, k) => sgS (callN qN T 98) [sl (.ref 0), sl (.int n), sl (.int k), none, none, none, none, none, none, none, none] (stH ns i m l)
def gS (ns : List Int) (i m l : Int) (p : Int × Int) : Out := .rt (.bl true) (stH ns i m l)
theorem evS0 (ns : List Int) (i m l : Int) : AllEq (fS ns i m l) (gS ns i m l) [(0, 1), (0, 2), (0, 3)] := .cons (by kernel_rfl) (.cons (by kernel_rfl) (.cons (by kernel_rfl) .nil))
theorem evS1 (ns : List Int) (i m l : Int) : AllEq (fS ns i m l) (gS ns i m l) [(1, 1), (1, 2), (1, 3)] := .cons (by kernel_rfl) (.cons (by kernel_rfl) (.cons (by kernel_rfl) .nil))
theorem evS2 (ns : List Int) (i m l : Int) : AllEq (fS ns i m l) (gS ns i m l) [(2, 1), (2, 2), (2, 3)] := .cons (by kernel_rfl) (.cons (by kernel_rfl) (.cons (by kernel_rfl) .nil))
theorem evS3 (ns : List Int) (i m l : Int) : AllEq (fS ns i m l) (gS ns i m l) [(3, 1), (3, 2), (3, 3)] := .cons (by kernel_rfl) (.cons (by kernel_rfl) (.cons (by kernel_rfl) .nil))
theorem evS4 (ns : List Int) (i m l : Int) : AllEq (fS ns i m l) (gS ns i m l) [(4, 1), (4, 2), (4, 3)] := .cons (by kernel_rfl) (.cons (by kernel_rfl) (.cons (by kernel_rfl) .nil))
theorem evS5 (ns : List Int) (i m l : Int) : AllEq (fS ns i m l) (gS ns i m l) [(5, 1), (5, 2), (5, 3)] := .cons (by kernel_rfl) (.cons (by kernel_rfl) (.cons (by kernel_rfl) .nil))
theorem evS6 (ns : List Int) (i m l : Int) : AllEq (fS ns i m l) (gS ns i m l) [(6, 1), (6, 2), (6, 3)] := .cons (by kernel_rfl) (.cons (by kernel_rfl) (.cons (by kernel_rfl) .nil))
theorem evS7 (ns : List Int) (i m l : Int) : AllEq (fS ns i m l) (gS ns i m l) [(7, 1), (7, 2), (7, 3)] := .cons (by kernel_rfl) (.cons (by kernel_rfl) (.cons (by kernel_rfl) .nil))
theorem evS8 (ns : List Int) (i m l : Int) : AllEq (fS ns i m l) (gS ns i m l) [(8, 1), (8, 2), (8, 3)] := .cons (by kernel_rfl) (.cons (by kernel_rfl) (.cons (by kernel_rfl) .nil))
end MP
end

section
set_option linter.all false
set_option maxRecDepth 100000
namespace MP
structure Fr where
  x0 : Option (Bool × W)
  x2 : Option (Bool × W)
  x6 : Option (Bool × W)
  x7 : Option (Bool × W)
  x8 : Option (Bool × W)
  x9 : Option (Bool × W)
abbrev Ot := Out × Nat × Option (Option (Bool × W)) × Option (Option (Bool × W))
def e1 (F : Fr) (a n r : Int) : Env := [F.x0, sl (.ref 0), F.x2, sl (.int a), sl (.int n), sl (.int r), F.x6, F.x7, F.x8, F.x9]
def E1 (F : Fr) (a n r : Int) (h : Hea) : Env := envOf (sg1 (callN qN T 99) kNx (e1 F a n r) h)
def f1 (R : SS) (F : Fr) (ns : List Int) (i m l a : Int) : Int × Int → Ot
  | (n, r) => (sg1 (callN qN T 99) R (e1 F a n r) (stH ns i m l), (E1 F a n r (stH ns i m l)).length, (E1 F a n r (stH ns i m l))[1]?, (E1 F a n r (stH ns i m l))[4]?)
def g1 (R : SS) (F : Fr) (ns : List Int) (i m l a : Int) : Int × Int → Ot
  | (n, r) => (R (E1 F a n r (stH ns i m l)) (stH ns i m l), 10, some (sl (.ref 0)), some (sl (.int n)))
theorem ev1_20 (R : SS) (F : Fr) (ns : List Int) (i m l : Int) : AllEq (f1 R F ns i m l 2) (g1 R F ns i m l 2) [(0, 1), (0, 2), (0, 3), (0, 4), (0, 5)] := .cons (by kernel_rfl) (.cons (by kernel_rfl) (.cons (by kernel_rfl) (.cons (by kernel_rfl) (.cons (by kernel_rfl) (.nil)))))
theorem ev1_21 (R : SS) (F : Fr) (ns : List Int) (i m l : Int) : AllEq (f1 R F ns i m l 2) (g1 R F ns i m l 2) [(1, 1), (1, 2), (1, 3), (1, 4), (1, 5)] := .cons (by kernel_rfl) (.cons (by kernel_rfl) (.cons (by kernel_rfl) (.cons (by kernel_rfl) (.cons (by kernel_rfl) (.nil)))))
theorem ev1_22 (R : SS) (F : Fr) (ns : List Int) (i m l : Int) : AllEq (f1 R F ns i m l 2) (g1 R F ns i m l 2) [(2, 1), (2, 2), (2, 3), (2, 4), (2, 5)] := .cons (by kernel_rfl) (.cons (by kernel_rfl) (.cons (by kernel_rfl) (.cons (by kernel_rfl) (.cons (by kernel_rfl) (.nil)))))
theorem ev1_23 (R : SS) (F : Fr) (ns : List Int) (i m l : Int) : AllEq (f1 R F ns i m l 2) (g1 R F ns i m l 2) [(3, 1), (3, 2), (3, 3), (3, 4), (3, 5)] := .cons (by kernel_rfl) (.cons (by kernel_rfl) (.cons (by kernel_rfl) (.cons (by kernel_rfl) (.cons (by kernel_rfl) (.nil)))))
theorem ev1_24 (R : SS) (F : Fr) (ns : List Int) (i m l : Int) : AllEq (f1 R F ns i m l 2) (g1 R F ns i m l 2) [(4, 1), (4, 2), (4, 3), (4, 4), (4, 5)] := .cons (by kernel_rfl) (.cons (by kernel_rfl) (.cons (by kernel_rfl) (.cons (by kernel_rfl) (.cons (by kernel_rfl) (.nil)))))
theorem ev1_25 (R : SS) (F : Fr) (ns : List Int) (i m l : Int) : AllEq (f1 R F ns i m l 2) (g1 R F ns i m l 2) [(5, 1), (5, 2), (5, 3), (5, 4), (5, 5)] := .cons (by kernel_rfl) (.cons (by kernel_rfl) (.cons (by kernel_rfl) (.cons (by kernel_rfl) (.cons (by kernel_rfl) (.nil)))))
theorem ev1_26 (R : SS) (F : Fr) (ns : List Int) (i m l : Int) : AllEq (f1 R F ns i m l 2) (g1 R F ns i m l 2) [(6, 1), (6, 2), (6, 3), (6, 4), (6, 5)] := .cons (by kernel_rfl) (.cons (by kernel_rfl) (.cons (by kernel_rfl) (.cons (by kernel_rfl) (.cons (by kernel_rfl) (.nil)))))
theorem ev1_27 (R : SS) (F : Fr) (ns : List Int) (i m l : Int) : AllEq (f1 R F ns i m l 2) (g1 R F ns i m l 2) [(7, 1), (7, 2), (7, 3), (7, 4), (7, 5)] := .cons (by kernel_rfl) (.cons (by kernel_rfl) (.cons (by kernel_rfl) (.cons (by kernel_rfl) (.cons (by kernel_rfl) (.nil)))))
theorem ev1_28 (R : SS) (F : Fr) (ns : List Int) (i m l : Int) : AllEq (f1 R F ns i m l 2) (g1 R F ns i m l 2) [(8, 1), (8, 2), (8, 3), (8, 4), (8, 5)] := .cons (by kernel_rfl) (.cons (by kernel_rfl) (.cons (by kernel_rfl) (.cons (by kernel_rfl) (.cons (by kernel_rfl) (.nil)))))
theorem ev1_30 (R : SS) (F : Fr) (ns : List Int) (i m l : Int) : AllEq (f1 R F ns i m l 3) (g1 R F ns i m l 3) [(0, 1), (0, 2), (0, 3), (0, 4), (0, 5)] := .cons (by kernel_rfl) (.cons (by kernel_rfl) (.cons (by kernel_rfl) (.cons (by kernel_rfl) (.cons (by kernel_rfl) (.nil)))))
theorem ev1_31 (R : SS) (F : Fr) (ns : List Int) (i m l : Int) : AllEq (f1 R F ns i m l 3) (g1 R F ns i m l 3) [(1, 1), (1, 2), (1, 3), (1, 4), (1, 5)] := .cons (by kernel_rfl) (.cons (by kernel_rfl) (.cons (by kernel_rfl) (.cons (by kernel_rfl) (.cons (by kernel_rfl) (.nil)))))
theorem ev1_32 (R : SS) (F : Fr) (ns : List Int) (i m l : Int) : AllEq (f1 R F ns i m l 3) (g1 R F ns i m l 3) [(2, 1), (2, 2), (2, 3), (2, 4), (2, 5)] := .cons (by kernel_rfl) (.cons (by kernel_rfl) (.cons (by kernel_rfl) (.cons (by kernel_rfl) (.cons (by kernel_rfl) (.nil)))))
theorem ev1_33 (R : SS) (F : Fr) (ns : List Int) (i m l : Int) : AllEq (f1 R F ns i m l 3) (g1 R F ns i m l 3) [(3, 1), (3, 2), (3, 3), (3, 4), (3, 5)] := .cons (by kernel_rfl) (.cons (by kernel_rfl) (.cons (by kernel_rfl) (.cons (by kernel_rfl) (.cons (by kernel_rfl) (.nil)))))
theorem ev1_34 (R : SS) (F : Fr) (ns : List Int) (i m l : Int) : AllEq (f1 R F ns i m l 3) (g1 R F ns i m l 3) [(4, 1), (4, 2), (4, 3), (4, 4), (4, 5)] := .cons (by kernel_rfl) (.cons (by kernel_rfl) (.cons (by kernel_rfl) (.cons (by kernel_rfl) (.cons (by kernel_rfl) (.nil)))))
theorem ev1_35 (R : SS) (F : Fr) (ns : List Int) (i m l : Int) : AllEq (f1 R F ns i m l 3) (g1 R F ns i m l 3) [(5, 1), (5, 2), (5, 3), (5, 4), (5, 5)] := .cons (by kernel_rfl) (.cons (by kernel_rfl) (.cons (by kernel_rfl) (.cons (by kernel_rfl) (.cons (by kernel_rfl) (.nil)))))
theorem ev1_36 (R : SS) (F : Fr) (ns : List Int) (i m l : Int) : AllEq (f1 R F ns i m l 3) (g1 R F ns i m l 3) [(6, 1), (6, 2), (6, 3), (6, 4), (6, 5)] := .cons (by kernel_rfl) (.cons (by kernel_rfl) (.cons (by kernel_rfl) (.cons (by kernel_rfl) (.cons (by kernel_rfl) (.nil)))))
theorem ev1_37 (R : SS) (F : Fr) (ns : List Int) (i m l : Int) : AllEq (f1 R F ns i m l 3) (g1 R F ns i m l 3) [(7, 1), (7, 2), (7, 3), (7, 4), (7, 5)] := .cons (by kernel_rfl) (.cons (by kernel_rfl) (.cons (by kernel_rfl) (.cons (by kernel_rfl) (.cons (by kernel_rfl) (.nil)))))
theorem ev1_38 (R : SS) (F : Fr) (ns : List Int) (i m l : Int) : AllEq (f1 R F ns i m l 3) (g1 R F ns i m l 3) [(8, 1), (8, 2), (8, 3), (8, 4), (8, 5)] := .cons (by kernel_rfl) (.cons (by kernel_rfl) (.cons (by kernel_rfl) (.cons (by kernel_rfl) (.cons (by kernel_rfl) (.nil)))))
theorem ev1_40 (R : SS) (F : Fr) (ns : List Int) (i m l : Int) : AllEq (f1 R F ns i m l 4) (g1 R F ns i m l 4) [(0, 1), (0, 2), (0, 3), (0, 4), (0, 5)] := .cons (by kernel_rfl) (.cons (by kernel_rfl) (.cons (by kernel_rfl) (.cons (by kernel_rfl) (.cons (by kernel_rfl) (.nil)))))
theorem ev1_41 (R : SS) (F : Fr) (ns : List Int) (i m l : Int) : AllEq (f1 R F ns i m l 4) (g1 R F ns i m l 4) [(1, 1), (1, 2), (1, 3), (1, 4), (1, 5)] := .cons (by kernel_rfl) (.cons (by kernel_rfl) (.cons (by kernel_rfl) (.cons (by kernel_rfl) (.cons (by kernel_rfl) (.nil)))))
theorem ev1_42 (R : SS) (F : Fr) (ns : List Int) (i m l : Int) : AllEq (f1 R F ns i m l 4) (g1 R F ns i m l 4) [(2, 1), (2, 2), (2, 3), (2, 4), (2, 5)] := .cons (by kernel_rfl) (.cons (by kernel_rfl) (.cons (by kernel_rfl) (.cons (by kernel_rfl) (.cons (by kernel_rfl) (.nil)))))
theorem ev1_43 (R : SS) (F : Fr) (ns : List Int) (i m l : Int) : AllEq (f1 R F ns i m l 4) (g1 R F ns i m l 4) [(3, 1), (3, 2), (3, 3), (3, 4), (3, 5)] := .cons (by kernel_rfl) (.cons (by kernel_rfl) (.cons (by kernel_rfl) (.cons (by kernel_rfl) (.cons (by kernel_rfl) (.nil)))))
theorem ev1_44 (R : SS) (F : Fr) (ns : List Int) (i m l : Int) : AllEq (f1 R F ns i m l 4) (g1 R F ns i m l 4) [(4, 1), (4, 2), (4, 3), (4, 4), (4, 5)] := .cons (by kernel_rfl) (.cons (by kernel_rfl) (.cons (by kernel_rfl) (.cons (by kernel_rfl) (.cons (by kernel_rfl) (.nil)))))
theorem ev1_45 (R : SS) (F : Fr) (ns : List Int) (i m l : Int) : AllEq (f1 R F ns i m l 4) (g1 R F ns i m l 4) [(5, 1), (5, 2), (5, 3), (5, 4), (5, 5)] := .cons (by kernel_rfl) (.cons (by kernel_rfl) (.cons (by kernel_rfl) (.cons (by kernel_rfl) (.cons (by kernel_rfl) (.nil)))))
theorem ev1_46 (R : SS) (F : Fr) (ns : List Int) (i m l : Int) : AllEq (f1 R F ns i m l 4) (g1 R F ns i m l 4) [(6, 1), (6, 2), (6, 3), (6, 4), (6, 5)] := .cons (by kernel_rfl) (.cons (by kernel_rfl) (.cons (by kernel_rfl) (.cons (by kernel_rfl) (.cons (by kernel_rfl) (.nil)))))
theorem ev1_47 (R : SS) (F : Fr) (ns : List Int) (i m l : Int) : AllEq (f1 R F ns i m l 4) (g1 R F ns i m l 4) [(7, 1), (7, 2), (7, 3), (7, 4), (7, 5)] := .cons (by kernel_rfl) (.cons (by kernel_rfl) (.cons (by kernel_rfl) (.cons (by kernel_rfl) (.cons (by kernel_rfl) (.nil)))))
theorem ev1_48 (R : SS) (F : Fr) (ns : List Int) (i m l : Int) : AllEq (f1 R F ns i m l 4) (g1 R F ns i m l 4) [(8, 1), (8, 2), (8, 3), (8, 4), (8, 5)] := .cons (by kernel_rfl) (.cons (by kernel_rfl) (.cons (by kernel_rfl) (.cons (by kernel_rfl) (.cons (by kernel_rfl) (.nil)))))
theorem ev1_50 (R : SS) (F : Fr) (ns : List Int) (i m l : Int) : AllEq (f1 R F ns i m l 5) (g1 R F ns i m l 5) [(0, 1), (0, 2), (0, 3), (0, 4), (0, 5)] := .cons (by kernel_rfl) (.cons (by kernel_rfl) (.cons (by kernel_rfl) (.cons (by kernel_rfl) (.cons (by kernel_rfl) (.nil)))))
theorem ev1_51 (R : SS) (F : Fr) (ns : List Int) (i m l : Int) : AllEq (f1 R F ns i m l 5) (g1 R F ns i m l 5) [(1, 1), (1, 2), (1, 3), (1, 4), (1, 5)] := .cons (by kernel_rfl) (.cons (by kernel_rfl) (.cons (by kernel_rfl) (.cons (by kernel_rfl) (.cons (by kernel_rfl) (.nil)))))
theorem ev1_52 (R : SS) (F : Fr) (ns : List Int) (i m l : Int) : AllEq (f1 R F ns i m l 5) (g1 R F ns i m l 5) [(2, 1), (2, 2), (2, 3), (2, 4), (2, 5)] := .cons (by kernel_rfl) (.cons (by kernel_rfl) (.cons (by kernel_rfl) (.cons (by kernel_rfl) (.cons (by kernel_rfl) (.nil)))))
theorem ev1_53 (R : SS) (F : Fr) (ns : List Int) (i m l : Int) : AllEq (f1 R F ns i m l 5) (g1 R F ns i m l 5) [(3, 1), (3, 2), (3, 3), (3, 4), (3, 5)] := .cons (by kernel_rfl) (.cons (by kernel_rfl) (.cons (by kernel_rfl) (.cons (by kernel_rfl) (.cons (by kernel_rfl) (.nil)))))
theorem ev1_54 (R : SS) (F : Fr) (ns : List Int) (i m l : Int) : AllEq (f1 R F ns i m l 5) (g1 R F ns i m l 5) [(4, 1), (4, 2), (4, 3), (4, 4), (4, 5)] := .cons (by kernel_rfl) (.cons (by kernel_rfl) (.cons (by kernel_rfl) (.cons (by kernel_rfl) (.cons (by kernel_rfl) (.nil)))))
theorem ev1_55 (R : SS) (F : Fr) (ns : List Int) (i m l : Int) : AllEq (f1 R F ns i m l 5) (g1 R F ns i m l 5) [(5, 1), (5, 2), (5, 3), (5, 4), (5, 5)] := .cons (by kernel_rfl) (.cons (by kernel_rfl) (.cons (by kernel_rfl) (.cons (by kernel_rfl) (.cons (by kernel_rfl) (.nil)))))
theorem ev1_56 (R : SS) (F : Fr) (ns : List Int) (i m l : Int) : AllEq (f1 R F ns i m l 5) (g1 R F ns i m l 5) [(6, 1), (6, 2), (6, 3), (6, 4), (6, 5)] := .cons (by kernel_rfl) (.cons (by kernel_rfl) (.cons (by kernel_rfl) (.cons (by kernel_rfl) (.cons (by kernel_rfl) (.nil)))))
theorem ev1_57 (R : SS) (F : Fr) (ns : List Int) (i m l : Int) : AllEq (f1 R F ns i m l 5) (g1 R F ns i m l 5) [(7, 1), (7, 2), (7, 3), (7, 4), (7, 5)] := .cons (by kernel_rfl) (.cons (by kernel_rfl) (.cons (by kernel_rfl) (.cons (by kernel_rfl) (.cons (by kernel_rfl) (.nil)))))
theorem ev1_58 (R : SS) (F : Fr) (ns : List Int) (i m l : Int) : AllEq (f1 R F ns i m l 5) (g1 R F ns i m l 5) [(8, 1), (8, 2), (8, 3), (8, 4), (8, 5)] := .cons (by kernel_rfl) (.cons (by kernel_rfl) (.cons (by kernel_rfl) (.cons (by kernel_rfl) (.cons (by kernel_rfl) (.nil)))))
end MP
end

section
set_option linter.all false
set_option maxRecDepth 100000
namespace MP
def e2 (F : Fr) (y3 y5 : Option (Bool × W)) (n k : Int) : Env := [F.x0, sl (.ref 0), F.x2, y3, sl (.int n), y5, F.x6, F.x7, F.x8, sl (.int k)]
def E2 (F : Fr) (y3 y5 : Option (Bool × W)) (n k : Int) (h : Hea) : Env := envOf (sg2 (callN qN T 99) (e2 F y3 y5 n k) h)
def f2 (F : Fr) (y3 y5 : Option (Bool × W)) (ns : List Int) (i m l : Int) : Int × Int → Out × Nat × Option (Option (Bool × W))
  | (n, k) => (sg2 (callN qN T 99) (e2 F y3 y5 n k) (stH ns i m l), (E2 F y3 y5 n k (stH ns i m l)).length, (E2 F y3 y5 n k (stH ns i m l))[1]?)
def g2 (F : Fr) (y3 y5 : Option (Bool × W)) (ns : List Int) (i m l : Int) : Int × Int → Out × Nat × Option (Option (Bool × W))
  | (n, k) => (.nx (E2 F y3 y5 n k (stH ns i m l)) (stH ns i m l), 10, some (sl (.ref 0)))
theorem ev2_0 (F : Fr) (y3 y5 : Option (Bool × W)) (ns : List Int) (i m l : Int) : AllEq (f2 F y3 y5 ns i m l) (g2 F y3 y5 ns i m l) [(0, 1), (0, 2), (0, 3), (0, 4), (0, 5), (0, 6), (0, 7), (0, 8), (0, 9)] := .cons (by kernel_rfl) (.cons (by kernel_rfl) (.cons (by kernel_rfl) (.cons (by kernel_rfl) (.cons (by kernel_rfl) (.cons (by kernel_rfl) (.cons (by kernel_rfl) (.cons (by kernel_rfl) (.cons (by kernel_rfl) (.nil)))))))))
theorem ev2_1 (F : Fr) (y3 y5 : Option (Bool × W)) (ns : List Int) (i m l : Int) : AllEq (f2 F y3 y5 ns i m l) (g2 F y3 y5 ns i m l) [(1, 1), (1, 2), (1, 3), (1, 4), (1, 5), (1, 6), (1, 7), (1, 8), (1, 9)] := .cons (by kernel_rfl) (.cons (by kernel_rfl) (.cons (by kernel_rfl) (.cons (by kernel_rfl) (.cons (by kernel_rfl) (.cons (by kernel_rfl) (.cons (by kernel_rfl) (.cons (by kernel_rfl) (.cons (by kernel_rfl) (.nil)))))))))
theorem ev2_2 (F : Fr) (y3 y5 : Option (Bool × W)) (ns : List Int) (i m l : Int) : AllEq (f2 F y3 y5 ns i m l) (g2 F y3 y5 ns i m l) [(2, 1), (2, 2), (2, 3), (2, 4), (2, 5), (2, 6), (2, 7), (2, 8), (2, 9)] := .cons (by kernel_rfl) (.cons (by kernel_rfl) (.cons (by kernel_rfl) (.cons (by kernel_rfl) (.cons (by kernel_rfl) (.cons (by kernel_rfl) (.cons (by kernel_rfl) (.cons (by kernel_rfl) (.cons (by kernel_rfl) (.nil)))))))))
theorem ev2_3 (F : Fr) (y3 y5 : Option (Bool × W)) (ns : List Int) (i m l : Int) : AllEq (f2 F y3 y5 ns i m l) (g2 F y3 y5 ns i m l) [(3, 1), (3, 2), (3, 3), (3, 4), (3, 5), (3, 6), (3, 7), (3, 8), (3, 9)] := .cons (by kernel_rfl) (.cons (by kernel_rfl) (.cons (by kernel_rfl) (.cons (by kernel_rfl) (.cons (by kernel_rfl) (.cons (by kernel_rfl) (.cons (by kernel_rfl) (.cons (by kernel_rfl) (.cons (by kernel_rfl) (.nil)))))))))
theorem ev2_4 (F : Fr) (y3 y5 : Option (Bool × W)) (ns : List Int) (i m l : Int) : AllEq (f2 F y3 y5 ns i m l) (g2 F y3 y5 ns i m l) [(4, 1), (4, 2), (4, 3), (4, 4), (4, 5), (4, 6), (4, 7), (4, 8), (4, 9)] := .cons (by kernel_rfl) (.cons (by kernel_rfl) (.cons (by kernel_rfl) (.cons (by kernel_rfl) (.cons (by kernel_rfl) (.cons (by kernel_rfl) (.cons (by kernel_rfl) (.cons (by kernel_rfl) (.cons (by kernel_rfl) (.nil)))))))))
theorem ev2_5 (F : Fr) (y3 y5 : Option (Bool × W)) (ns : List Int) (i m l : Int) : AllEq (f2 F y3 y5 ns i m l) (g2 F y3 y5 ns i m l) [(5, 1), (5, 2), (5, 3), (5, 4), (5, 5), (5, 6), (5, 7), (5, 8), (5, 9)] := .cons (by kernel_rfl) (.cons (by kernel_rfl) (.cons (by kernel_rfl) (.cons (by kernel_rfl) (.cons (by kernel_rfl) (.cons (by kernel_rfl) (.cons (by kernel_rfl) (.cons (by kernel_rfl) (.cons (by kernel_rfl) (.nil)))))))))
theorem ev2_6 (F : Fr) (y3 y5 : Option (Bool × W)) (ns : List Int) (i m l : Int) : AllEq (f2 F y3 y5 ns i m l) (g2 F y3 y5 ns i m l) [(6, 1), (6, 2), (6, 3), (6, 4), (6, 5), (6, 6), (6, 7), (6, 8), (6, 9)] := .cons (by kernel_rfl) (.cons (by kernel_rfl) (.cons (by kernel_rfl) (.cons (by kernel_rfl) (.cons (by kernel_rfl) (.cons (by kernel_rfl) (.cons (by kernel_rfl) (.cons (by kernel_rfl) (.cons (by kernel_rfl) (.nil)))))))))
theorem ev2_7 (F : Fr) (y3 y5 : Option (Bool × W)) (ns : List Int) (i m l : Int) : AllEq (f2 F y3 y5 ns i m l) (g2 F y3 y5 ns i m l) [(7, 1), (7, 2), (7, 3), (7, 4), (7, 5), (7, 6), (7, 7), (7, 8), (7, 9)] := .cons (by kernel_rfl) (.cons (by kernel_rfl) (.cons (by kernel_rfl) (.cons (by kernel_rfl) (.cons (by kernel_rfl) (.cons (by kernel_rfl) (.cons (by kernel_rfl) (.cons (by kernel_rfl) (.cons (by kernel_rfl) (.nil)))))))))
theorem ev2_8 (F : Fr) (y3 y5 : Option (Bool × W)) (ns : List Int) (i m l : Int) : AllEq (f2 F y3 y5 ns i m l) (g2 F y3 y5 ns i m l) [(8, 1), (8, 2), (8, 3), (8, 4), (8, 5), (8, 6), (8, 7), (8, 8), (8, 9)] := .cons (by kernel_rfl) (.cons (by kernel_rfl) (.cons (by kernel_rfl) (.cons (by kernel_rfl) (.cons (by kernel_rfl) (.cons (by kernel_rfl) (.cons (by kernel_rfl) (.cons (by kernel_rfl) (.cons (by kernel_rfl) (.nil)))))))))
end MP
end

section
set_option linter.all false
set_option maxRecDepth 100000
/-! KZ: the law holds of what its defs compute. -/
namespace MP
theorem cN_eq (k : Nat) : callN qN T k = callF T k := callN_eq qN T k
theorem evS_all {n k : Int} (h0 : 0 ≤ n) (h1 : n < 9) (h2 : 1 ≤ k) (h3 : k ≤ 3) (ns : List Int) (i m l : Int) :
    sgS (callF T 98) [sl (.ref 0), sl (.int n), sl (.int k), none, none, none, none, none, none, none, none] (stH ns i m l) = .rt (.bl true) (stH ns i m l) := by
  have e : fS ns i m l (n, k) = gS ns i m l (n, k) := by
    have hn : n = 0 ∨ n = 1 ∨ n = 2 ∨ n = 3 ∨ n = 4 ∨ n = 5 ∨ n = 6 ∨ n = 7 ∨ n = 8 := by omega
    have hk : k = 1 ∨ k = 2 ∨ k = 3 := by omega
    rcases hn with rfl | rfl | rfl | rfl | rfl | rfl | rfl | rfl | rfl
    · exact (evS0 ns i m l).at (by rcases hk with rfl | rfl | rfl <;> simp)
    · exact (evS1 ns i m l).at (by rcases hk with rfl | rfl | rfl <;> simp)
    · exact (evS2 ns i m l).at (by rcases hk with rfl | rfl | rfl <;> simp)
    · exact (evS3 ns i m l).at (by rcases hk with rfl | rfl | rfl <;> simp)
    · exact (evS4 ns i m l).at (by rcases hk with rfl | rfl | rfl <;> simp)
    · exact (evS5 ns i m l).at (by rcases hk with rfl | rfl | rfl <;> simp)
    · exact (evS6 ns i m l).at (by rcases hk with rfl | rfl | rfl <;> simp)
    · exact (evS7 ns i m l).at (by rcases hk with rfl | rfl | rfl <;> simp)
    · exact (evS8 ns i m l).at (by rcases hk with rfl | rfl | rfl <;> simp)
  rw [← cN_eq]
  exact e
theorem ev1_all {a n r : Int} (ha : 2 ≤ a) (ha2 : a ≤ 5) (h0 : 0 ≤ n) (h1 : n < 9) (h2 : 1 ≤ r) (h3 : r ≤ 5) (R : SS) (F : Fr) (ns : List Int) (i m l : Int) :
    ∃ E, sg1 (callF T 99) R (e1 F a n r) (stH ns i m l) = R E (stH ns i m l) ∧ E.length = 10 ∧ E[1]? = some (sl (.ref 0)) ∧ E[4]? = some (sl (.int n)) := by
  have e : f1 R F ns i m l a (n, r) = g1 R F ns i m l a (n, r) := by
    have hn : n = 0 ∨ n = 1 ∨ n = 2 ∨ n = 3 ∨ n = 4 ∨ n = 5 ∨ n = 6 ∨ n = 7 ∨ n = 8 := by omega
    have hk : r = 1 ∨ r = 2 ∨ r = 3 ∨ r = 4 ∨ r = 5 := by omega
    have hx : a = 2 ∨ a = 3 ∨ a = 4 ∨ a = 5 := by omega
    rcases hx with rfl | rfl | rfl | rfl
    · rcases hn with rfl | rfl | rfl | rfl | rfl | rfl | rfl | rfl | rfl
      · exact (ev1_20 R F ns i m l).at (by rcases hk with rfl | rfl | rfl | rfl | rfl <;> simp)
      · exact (ev1_21 R F ns i m l).at (by rcases hk with rfl | rfl | rfl | rfl | rfl <;> simp)
      · exact (ev1_22 R F ns i m l).at (by rcases hk with rfl | rfl | rfl | rfl | rfl <;> simp)
      · exact (ev1_23 R F ns i m l).at (by rcases hk with rfl | rfl | rfl | rfl | rfl <;> simp)
      · exact (ev1_24 R F ns i m l).at (by rcases hk with rfl | rfl | rfl | rfl | rfl <;> simp)
      · exact (ev1_25 R F ns i m l).at (by rcases hk with rfl | rfl | rfl | rfl | rfl <;> simp)
      · exact (ev1_26 R F ns i m l).at (by rcases hk with rfl | rfl | rfl | rfl | rfl <;> simp)
      · exact (ev1_27 R F ns i m l).at (by rcases hk with rfl | rfl | rfl | rfl | rfl <;> simp)
      · exact (ev1_28 R F ns i m l).at (by rcases hk with rfl | rfl | rfl | rfl | rfl <;> simp)
    · rcases hn with rfl | rfl | rfl | rfl | rfl | rfl | rfl | rfl | rfl
      · exact (ev1_30 R F ns i m l).at (by rcases hk with rfl | rfl | rfl | rfl | rfl <;> simp)
      · exact (ev1_31 R F ns i m l).at (by rcases hk with rfl | rfl | rfl | rfl | rfl <;> simp)
      · exact (ev1_32 R F ns i m l).at (by rcases hk with rfl | rfl | rfl | rfl | rfl <;> simp)
      · exact (ev1_33 R F ns i m l).at (by rcases hk with rfl | rfl | rfl | rfl | rfl <;> simp)
      · exact (ev1_34 R F ns i m l).at (by rcases hk with rfl | rfl | rfl | rfl | rfl <;> simp)
      · exact (ev1_35 R F ns i m l).at (by rcases hk with rfl | rfl | rfl | rfl | rfl <;> simp)
      · exact (ev1_36 R F ns i m l).at (by rcases hk with rfl | rfl | rfl | rfl | rfl <;> simp)
      · exact (ev1_37 R F ns i m l).at (by rcases hk with rfl | rfl | rfl | rfl | rfl <;> simp)
      · exact (ev1_38 R F ns i m l).at (by rcases hk with rfl | rfl | rfl | rfl | rfl <;> simp)
    · rcases hn with rfl | rfl | rfl | rfl | rfl | rfl | rfl | rfl | rfl
      · exact (ev1_40 R F ns i m l).at (by rcases hk with rfl | rfl | rfl | rfl | rfl <;> simp)
      · exact (ev1_41 R F ns i m l).at (by rcases hk with rfl | rfl | rfl | rfl | rfl <;> simp)
      · exact (ev1_42 R F ns i m l).at (by rcases hk with rfl | rfl | rfl | rfl | rfl <;> simp)
      · exact (ev1_43 R F ns i m l).at (by rcases hk with rfl | rfl | rfl | rfl | rfl <;> simp)
      · exact (ev1_44 R F ns i m l).at (by rcases hk with rfl | rfl | rfl | rfl | rfl <;> simp)
      · exact (ev1_45 R F ns i m l).at (by rcases hk with rfl | rfl | rfl | rfl | rfl <;> simp)
      · exact (ev1_46 R F ns i m l).at (by rcases hk with rfl | rfl | rfl | rfl | rfl <;> simp)
      · exact (ev1_47 R F ns i m l).at (by rcases hk with rfl | rfl | rfl | rfl | rfl <;> simp)
      · exact (ev1_48 R F ns i m l).at (by rcases hk with rfl | rfl | rfl | rfl | rfl <;> simp)
    · rcases hn with rfl | rfl | rfl | rfl | rfl | rfl | rfl | rfl | rfl
      · exact (ev1_50 R F ns i m l).at (by rcases hk with rfl | rfl | rfl | rfl | rfl <;> simp)
      · exact (ev1_51 R F ns i m l).at (by rcases hk with rfl | rfl | rfl | rfl | rfl <;> simp)
      · exact (ev1_52 R F ns i m l).at (by rcases hk with rfl | rfl | rfl | rfl | rfl <;> simp)
      · exact (ev1_53 R F ns i m l).at (by rcases hk with rfl | rfl | rfl | rfl | rfl <;> simp)
      · exact (ev1_54 R F ns i m l).at (by rcases hk with rfl | rfl | rfl | rfl | rfl <;> simp)
      · exact (ev1_55 R F ns i m l).at (by rcases hk with rfl | rfl | rfl | rfl | rfl <;> simp)
      · exact (ev1_56 R F ns i m l).at (by rcases hk with rfl | rfl | rfl | rfl | rfl <;> simp)
      · exact (ev1_57 R F ns i m l).at (by rcases hk with rfl | rfl | rfl | rfl | rfl <;> simp)
      · exact (ev1_58 R F ns i m l).at (by rcases hk with rfl | rfl | rfl | rfl | rfl <;> simp)
  unfold f1 g1 at e
  dsimp only at e
  rw [Prod.mk.injEq, Prod.mk.injEq, Prod.mk.injEq] at e
  rw [← cN_eq]
  exact ⟨_, e.1, e.2.1, e.2.2.1, e.2.2.2⟩
theorem ev2_all {n k : Int} (h0 : 0 ≤ n) (h1 : n < 9) (h2 : 1 ≤ k) (h3 : k ≤ 9) (F : Fr) (y3 y5 : Option (Bool × W)) (ns : List Int) (i m l : Int) :
    ∃ E, sg2 (callF T 99) (e2 F y3 y5 n k) (stH ns i m l) = .nx E (stH ns i m l) ∧ E.length = 10 ∧ E[1]? = some (sl (.ref 0)) := by
  have e : f2 F y3 y5 ns i m l (n, k) = g2 F y3 y5 ns i m l (n, k) := by
    have hn : n = 0 ∨ n = 1 ∨ n = 2 ∨ n = 3 ∨ n = 4 ∨ n = 5 ∨ n = 6 ∨ n = 7 ∨ n = 8 := by omega
    have hk : k = 1 ∨ k = 2 ∨ k = 3 ∨ k = 4 ∨ k = 5 ∨ k = 6 ∨ k = 7 ∨ k = 8 ∨ k = 9 := by omega
    rcases hn with rfl | rfl | rfl | rfl | rfl | rfl | rfl | rfl | rfl
    · exact (ev2_0 F y3 y5 ns i m l).at (by rcases hk with rfl | rfl | rfl | rfl | rfl | rfl | rfl | rfl | rfl <;> simp)
    · exact (ev2_1 F y3 y5 ns i m l).at (by rcases hk with rfl | rfl | rfl | rfl | rfl | rfl | rfl | rfl | rfl <;> simp)
    · exact (ev2_2 F y3 y5 ns i m l).at (by rcases hk with rfl | rfl | rfl | rfl | rfl | rfl | rfl | rfl | rfl <;> simp)
    · exact (ev2_3 F y3 y5 ns i m l).at (by rcases hk with rfl | rfl | rfl | rfl | rfl | rfl | rfl | rfl | rfl <;> simp)
    · exact (ev2_4 F y3 y5 ns i m l).at (by rcases hk with rfl | rfl | rfl | rfl | rfl | rfl | rfl | rfl | rfl <;> simp)
    · exact (ev2_5 F y3 y5 ns i m l).at (by rcases hk with rfl | rfl | rfl | rfl | rfl | rfl | rfl | rfl | rfl <;> simp)
    · exact (ev2_6 F y3 y5 ns i m l).at (by rcases hk with rfl | rfl | rfl | rfl | rfl | rfl | rfl | rfl | rfl <;> simp)
    · exact (ev2_7 F y3 y5 ns i m l).at (by rcases hk with rfl | rfl | rfl | rfl | rfl | rfl | rfl | rfl | rfl <;> simp)
    · exact (ev2_8 F y3 y5 ns i m l).at (by rcases hk with rfl | rfl | rfl | rfl | rfl | rfl | rfl | rfl | rfl <;> simp)
  unfold f2 g2 at e
  dsimp only at e
  rw [Prod.mk.injEq, Prod.mk.injEq] at e
  rw [← cN_eq]
  exact ⟨_, e.1, e.2.1, e.2.2⟩
/-! ### the draws -/
theorem pD0_run (ns : List Int) (i m l : Int) (hi : 0 ≤ i) : ∃ n k i' m' l', pD0 (callF T 98) [sl (.ref 0), none, none, none, none, none, none, none, none, none, none] (stH ns i m l) = .nx [sl (.ref 0), sl (.int n), sl (.int (1 + k)), none, none, none, none, none, none, none, none] (stH ns i' m' l') ∧ 0 ≤ n ∧ n < 9 ∧ 0 ≤ k ∧ k < 3 ∧ 0 ≤ i' := by
  obtain ⟨n, i1, m1, l1, e1, a1, b1, c1⟩ := run_drawn ns i m l 9 hi (by decide) (by decide) 97
  obtain ⟨k, i2, m2, l2, e2, a2, b2, c2⟩ := run_drawn ns i1 m1 l1 3 c1 (by decide) (by decide) 97
  refine ⟨n, k, i2, m2, l2, ?_, a1, b1, a2, b2, c2⟩
  simp [Df.run, kRet, kIf, kSeq, kNx, kSet, kSetO, kTg, kPar, kPar3, kStar, kExp, kFz, kRetO, kRetN, kFld, kFldA, kAppO, kApp, kExt, kIxL, kIxOL, kIxD, kIxOD, kFor, sIfE, tV, tAnd, tOr, tNot, sB, sV, sVT, sC, sNeg, sChain, sIsN, sNotN, sAnd, sOr, sNot, aNil, aCons, sTup, sLst, sHeap, sDctN, sCut, sBnd, sFld, sCall, sMeth, sNew, sBi, sIsI, sGet, sTab, iSeq, iStr, iRg1, iRg2, sLc, sLc2, R.bind, R.out, ofO, starts, ends, cN, isNone, gNm, gsNil, gsCons, gTu, noOwn, wipeE, mapR, oNx, pD0, sl, e1, e2, gAdd]
theorem run_settled (ns : List Int) (i m l : Int) (hi : 0 ≤ i) : ∃ i' m' l', callF T 99 204 [.ref 0] (stH ns i m l) = .ok (.bl true) (stH ns i' m' l') ∧ 0 ≤ i' := by
  obtain ⟨n, k, i1, m1, l1, e, a1, b1, a2, b2, c⟩ := pD0_run ns i m l hi
  refine ⟨i1, m1, l1, ?_, c⟩
  rw [call_at (d := d__law_settled) rfl]
  have es := evS_all (n := n) (k := 1 + k) a1 b1 (by omega) (by omega) ns i1 m1 l1
  have eb : d__law_settled.body (callF T 98) (starts d__law_settled.slots [.ref 0]) (stH ns i m l) = .rt (.bl true) (stH ns i1 m1 l1) := by
    show m__law_settled (callF T 98) [sl (.ref 0), none, none, none, none, none, none, none, none, none, none] (stH ns i m l) = _
    rw [settled_eq]
    show (match pD0 (callF T 98) [sl (.ref 0), none, none, none, none, none, none, none, none, none, none] (stH ns i m l) with
      | .nx e h => sgS (callF T 98) e h
      | o => o) = _
    rw [e]
    exact es
  unfold Df.run
  rw [eb]
  rfl
/-- the loop's frame -/
def Good (e : Env) : Prop := e.length = 10 ∧ e[1]? = some (sl (.ref 0))
theorem good_ex {e : Env} (g : Good e) : ∃ x0 x2 x3 x4 x5 x6 x7 x8 x9, e = [x0, sl (.ref 0), x2, x3, x4, x5, x6, x7, x8, x9] := by
  obtain ⟨h, g⟩ := g
  match e, h, g with
  | [x0, x1, x2, x3, x4, x5, x6, x7, x8, x9], _, g =>
    have g' : some x1 = some (sl (.ref 0)) := g
    cases g'
    exact ⟨x0, x2, x3, x4, x5, x6, x7, x8, x9, rfl⟩
theorem body_run (ns : List Int) (i m l : Int) (hi : 0 ≤ i) {e : Env} (g : Good e) : ∃ e' i' m' l', lawB (callF T 99) e (stH ns i m l) = .nx e' (stH ns i' m' l') ∧ Good e' ∧ 0 ≤ i' := by
  obtain ⟨x0, x2, x3, x4, x5, x6, x7, x8, x9, rfl⟩ := good_ex g
  obtain ⟨i0, m0, l0, e0, c0⟩ := run_settled ns i m l hi
  obtain ⟨a, i1, m1, l1, z1, a1, b1, c1⟩ := run_drawn ns i0 m0 l0 4 c0 (by decide) (by decide) 98
  obtain ⟨n, i2, m2, l2, z2, a2, b2, c2⟩ := run_drawn ns i1 m1 l1 9 c1 (by decide) (by decide) 98
  obtain ⟨r, i3, m3, l3, z3, a3, b3, c3⟩ := run_drawn ns i2 m2 l2 5 c2 (by decide) (by decide) 98
  have s0 : pB0 (callF T 99) [x0, sl (.ref 0), x2, x3, x4, x5, x6, x7, x8, x9] (stH ns i m l) = .nx [x0, sl (.ref 0), x2, x3, x4, x5, x6, x7, x8, x9] (stH ns i0 m0 l0) := by
    simp [Df.run, kRet, kIf, kSeq, kNx, kSet, kSetO, kTg, kPar, kPar3, kStar, kExp, kFz, kRetO, kRetN, kFld, kFldA, kAppO, kApp, kExt, kIxL, kIxOL, kIxD, kIxOD, kFor, sIfE, tV, tAnd, tOr, tNot, sB, sV, sVT, sC, sNeg, sChain, sIsN, sNotN, sAnd, sOr, sNot, aNil, aCons, sTup, sLst, sHeap, sDctN, sCut, sBnd, sFld, sCall, sMeth, sNew, sBi, sIsI, sGet, sTab, iSeq, iStr, iRg1, iRg2, sLc, sLc2, R.bind, R.out, ofO, starts, ends, cN, isNone, gNm, gsNil, gsCons, gTu, noOwn, wipeE, mapR, oNx, pB0, sl, e0]
  have s1 : pB1 (callF T 99) [x0, sl (.ref 0), x2, x3, x4, x5, x6, x7, x8, x9] (stH ns i0 m0 l0) = .nx (e1 ⟨x0, x2, x6, x7, x8, x9⟩ (2 + a) n (1 + r)) (stH ns i3 m3 l3) := by
    simp [Df.run, kRet, kIf, kSeq, kNx, kSet, kSetO, kTg, kPar, kPar3, kStar, kExp, kFz, kRetO, kRetN, kFld, kFldA, kAppO, kApp, kExt, kIxL, kIxOL, kIxD, kIxOD, kFor, sIfE, tV, tAnd, tOr, tNot, sB, sV, sVT, sC, sNeg, sChain, sIsN, sNotN, sAnd, sOr, sNot, aNil, aCons, sTup, sLst, sHeap, sDctN, sCut, sBnd, sFld, sCall, sMeth, sNew, sBi, sIsI, sGet, sTab, iSeq, iStr, iRg1, iRg2, sLc, sLc2, R.bind, R.out, ofO, starts, ends, cN, isNone, gNm, gsNil, gsCons, gTu, noOwn, wipeE, mapR, oNx, pB1, sl, z1, z2, z3, gAdd, e1]
  obtain ⟨E, q1, q2, q3, q4⟩ := ev1_all (a := 2 + a) (n := n) (r := 1 + r) (by omega) (by omega) a2 b2 (by omega) (by omega) (kSeq (pB10 (callF T 99)) (sg2 (callF T 99))) ⟨x0, x2, x6, x7, x8, x9⟩ ns i3 m3 l3
  obtain ⟨u0, u2, u3, u4, u5, u6, u7, u8, u9, rfl⟩ := good_ex ⟨q2, q3⟩
  have q4' : some u4 = some (sl (.int n)) := q4
  cases q4'
  obtain ⟨k, i4, m4, l4, z4, a4, b4, c4⟩ := run_drawn ns i3 m3 l3 9 c3 (by decide) (by decide) 98
  have s2 : pB10 (callF T 99) [u0, sl (.ref 0), u2, u3, sl (.int n), u5, u6, u7, u8, u9] (stH ns i3 m3 l3) = .nx (e2 ⟨u0, u2, u6, u7, u8, u9⟩ u3 u5 n (1 + k)) (stH ns i4 m4 l4) := by
    simp [Df.run, kRet, kIf, kSeq, kNx, kSet, kSetO, kTg, kPar, kPar3, kStar, kExp, kFz, kRetO, kRetN, kFld, kFldA, kAppO, kApp, kExt, kIxL, kIxOL, kIxD, kIxOD, kFor, sIfE, tV, tAnd, tOr, tNot, sB, sV, sVT, sC, sNeg, sChain, sIsN, sNotN, sAnd, sOr, sNot, aNil, aCons, sTup, sLst, sHeap, sDctN, sCut, sBnd, sFld, sCall, sMeth, sNew, sBi, sIsI, sGet, sTab, iSeq, iStr, iRg1, iRg2, sLc, sLc2, R.bind, R.out, ofO, starts, ends, cN, isNone, gNm, gsNil, gsCons, gTu, noOwn, wipeE, mapR, oNx, pB10, sl, z4, gAdd, e2]
  obtain ⟨E, w1, w2, w3⟩ := ev2_all (n := n) (k := 1 + k) a2 b2 (by omega) (by omega) ⟨u0, u2, u6, u7, u8, u9⟩ u3 u5 ns i4 m4 l4
  refine ⟨E, i4, m4, l4, ?_, ⟨w2, w3⟩, c4⟩
  unfold lawB
  show (match pB0 (callF T 99) [x0, sl (.ref 0), x2, x3, x4, x5, x6, x7, x8, x9] (stH ns i m l) with
    | .nx e h => (match pB1 (callF T 99) e h with
      | .nx e h => sg1 (callF T 99) (kSeq (pB10 (callF T 99)) (sg2 (callF T 99))) e h
      | o => o)
    | o => o) = _
  rw [s0]
  dsimp only
  rw [s1]
  dsimp only
  rw [q1]
  show (match pB10 (callF T 99) [u0, sl (.ref 0), u2, u3, sl (.int n), u5, u6, u7, u8, u9] (stH ns i3 m3 l3) with
    | .nx e h => sg2 (callF T 99) e h
    | o => o) = _
  rw [s2]
  exact w1
theorem loop_run (ns : List Int) : ∀ (ws : List W) (i m l : Int) (e : Env), 0 ≤ i → Good e → ∃ e' i' m' l', forL (gNm 2) (lawB (callF T 99)) ws e (stH ns i m l) = .nx e' (stH ns i' m' l')
  | [], i, m, l, e, _, _ => ⟨e, i, m, l, rfl⟩
  | w :: ws, i, m, l, e, hi, g => by
    obtain ⟨x0, x2, x3, x4, x5, x6, x7, x8, x9, rfl⟩ := good_ex g
    obtain ⟨e1, i1, m1, l1, b, g1, c1⟩ := body_run ns i m l hi (e := [x0, sl (.ref 0), sl w, x3, x4, x5, x6, x7, x8, x9]) ⟨rfl, rfl⟩
    obtain ⟨e2, i2, m2, l2, q⟩ := loop_run ns ws i1 m1 l1 e1 c1 g1
    refine ⟨e2, i2, m2, l2, ?_⟩
    show (match gNm 2 w [x0, sl (.ref 0), x2, x3, x4, x5, x6, x7, x8, x9] with
      | none => Out.bad
      | some e => match lawB (callF T 99) e (stH ns i m l) with
        | .nx e h => forL (gNm 2) (lawB (callF T 99)) ws e h
        | .ct e h => forL (gNm 2) (lawB (callF T 99)) ws e h
        | .br e h => .nx e h
        | o => o) = _
    show (match lawB (callF T 99) [x0, sl (.ref 0), sl w, x3, x4, x5, x6, x7, x8, x9] (stH ns i m l) with
        | .nx e h => forL (gNm 2) (lawB (callF T 99)) ws e h
        | .ct e h => forL (gNm 2) (lawB (callF T 99)) ws e h
        | .br e h => .nx e h
        | o => o) = _
    rw [b]
    exact q
/-! ### the start -/
theorem start_loop : ∀ (zs : List Int) (x0 x2 : Option (Bool × W)) (m : Int), ∃ m' x2', forL (gNm 2) (kSet 1 (sB gMod (sB gAdd (sB gAdd (sB gMul (sVT 1) (sC (W.int 48271))) (sVT 2)) (sC (W.int 7))) (sC (W.int 2147483647)))) (zs.map .int) [x0, sl (.int m), x2] [] = .nx [x0, sl (.int m'), x2'] []
  | [], x0, x2, m => ⟨m, x2, rfl⟩
  | z :: zs, x0, x2, m => by
    obtain ⟨m', x2', e⟩ := start_loop zs x0 (sl (.int z)) ((m * 48271 + z + 7).fmod 2147483647)
    refine ⟨m', x2', ?_⟩
    rw [← e]
    simp [Df.run, kRet, kIf, kSeq, kNx, kSet, kSetO, kTg, kPar, kPar3, kStar, kExp, kFz, kRetO, kRetN, kFld, kFldA, kAppO, kApp, kExt, kIxL, kIxOL, kIxD, kIxOD, kFor, sIfE, tV, tAnd, tOr, tNot, sB, sV, sVT, sC, sNeg, sChain, sIsN, sNotN, sAnd, sOr, sNot, aNil, aCons, sTup, sLst, sHeap, sDctN, sCut, sBnd, sFld, sCall, sMeth, sNew, sBi, sIsI, sGet, sTab, iSeq, iStr, iRg1, iRg2, sLc, sLc2, R.bind, R.out, ofO, starts, ends, cN, isNone, gNm, gsNil, gsCons, gTu, noOwn, wipeE, mapR, oNx, forL, sl, gMul, gAdd, gMod, small]
theorem run_start (ns : List Int) (k : Nat) : ∃ m, callF T (k + 1) 200 [.scr ns] [] = .ok (.ref 0) (stH ns 0 m 0) := by
  obtain ⟨m, x2, e⟩ := start_loop ns (sl (.scr ns)) none 1
  refine ⟨m, ?_⟩
  rw [call_at (d := d__law_start) rfl]
  have e' := e
  simp only [sl] at e'
  simp [Df.run, kRet, kIf, kSeq, kNx, kSet, kSetO, kTg, kPar, kPar3, kStar, kExp, kFz, kRetO, kRetN, kFld, kFldA, kAppO, kApp, kExt, kIxL, kIxOL, kIxD, kIxOD, kFor, sIfE, tV, tAnd, tOr, tNot, sB, sV, sVT, sC, sNeg, sChain, sIsN, sNotN, sAnd, sOr, sNot, aNil, aCons, sTup, sLst, sHeap, sDctN, sCut, sBnd, sFld, sCall, sMeth, sNew, sBi, sIsI, sGet, sTab, iSeq, iStr, iRg1, iRg2, sLc, sLc2, R.bind, R.out, ofO, starts, ends, cN, isNone, gNm, gsNil, gsCons, gTu, noOwn, wipeE, mapR, oNx, d__law_start, m__law_start, itemsOf, e', line]
theorem law_plain : ∀ ns : List Int, ns.length ≤ 63 → ∃ h : Hea, callF T 100 205 [.scr ns] [] = .ok (.bl true) h := by
  intro ns _
  obtain ⟨m, e0⟩ := run_start ns 98
  obtain ⟨e', i', m', l', el⟩ := loop_run ns (upI 0 4) 0 m 0 [sl (.scr ns), sl (.ref 0), none, none, none, none, none, none, none, none] (Int.le_refl 0) ⟨rfl, rfl⟩
  refine ⟨stH ns i' m' l', ?_⟩
  rw [call_at (d := d_law) rfl]
  have eb : d_law.body (callF T 99) (starts d_law.slots [.scr ns]) [] = .rt (.bl true) (stH ns i' m' l') := by
    show m_law (callF T 99) [sl (.scr ns), none, none, none, none, none, none, none, none, none] [] = _
    rw [law_eq]
    have s0 : pL0 (callF T 99) [sl (.scr ns), none, none, none, none, none, none, none, none, none] [] = .nx [sl (.scr ns), sl (.ref 0), none, none, none, none, none, none, none, none] (stH ns 0 m 0) := by
      simp [Df.run, kRet, kIf, kSeq, kNx, kSet, kSetO, kTg, kPar, kPar3, kStar, kExp, kFz, kRetO, kRetN, kFld, kFldA, kAppO, kApp, kExt, kIxL, kIxOL, kIxD, kIxOD, kFor, sIfE, tV, tAnd, tOr, tNot, sB, sV, sVT, sC, sNeg, sChain, sIsN, sNotN, sAnd, sOr, sNot, aNil, aCons, sTup, sLst, sHeap, sDctN, sCut, sBnd, sFld, sCall, sMeth, sNew, sBi, sIsI, sGet, sTab, iSeq, iStr, iRg1, iRg2, sLc, sLc2, R.bind, R.out, ofO, starts, ends, cN, isNone, gNm, gsNil, gsCons, gTu, noOwn, wipeE, mapR, oNx, pL0, sl, e0]
    simp only [kSeq, s0]
    have ef : (kFor (iRg1 (aCons (sC (W.int 4)) aNil)) (gNm 2) (lawB (callF T 99))) [sl (.scr ns), sl (.ref 0), none, none, none, none, none, none, none, none] (stH ns 0 m 0) = .nx e' (stH ns i' m' l') := el
    rw [ef]
    rfl
  unfold Df.run
  rw [eb]
  rfl
end MP
end

section
set_option Elab.async false
set_option linter.all false
set_option maxRecDepth 100000
set_option maxHeartbeats 0
set_option autoImplicit false
/-! the walk of each def: printed by gen.py -/
namespace MP
open PySem PySem.Spec PyProof.Rows L2
def top (i : Nat) : Stmt := PySem.Challenge.pw_lanemeet_k17_reasons_by_hand.main.body.getD i (.Pass ⟨0, 0, 0, 0⟩)
theorem x0_ok : ("bounds" : Str) = toS x0 := by decide +kernel
theorem x1_ok : ("known" : Str) = toS x1 := by decide +kernel
theorem x2_ok : ("total" : Str) = toS x2 := by decide +kernel
theorem x3_ok : ("times" : Str) = toS x3 := by decide +kernel
theorem x4_ok : ("yours" : Str) = toS x4 := by decide +kernel
theorem x5_ok : ("mine" : Str) = toS x5 := by decide +kernel
theorem x6_ok : ("other" : Str) = toS x6 := by decide +kernel
theorem x7_ok : ("one" : Str) = toS x7 := by decide +kernel
theorem x8_ok : ("ends" : Str) = toS x8 := by decide +kernel
theorem x9_ok : ("left" : Str) = toS x9 := by decide +kernel
theorem x10_ok : ("open_ones" : Str) = toS x10 := by decide +kernel
theorem x11_ok : ("least" : Str) = toS x11 := by decide +kernel
theorem x12_ok : ("most" : Str) = toS x12 := by decide +kernel
theorem x13_ok : ("lane" : Str) = toS x13 := by decide +kernel
theorem x14_ok : ("worths" : Str) = toS x14 := by decide +kernel
theorem x15_ok : ("is_mod" : Str) = toS x15 := by decide +kernel
theorem x16_ok : ("is_same" : Str) = toS x16 := by decide +kernel
theorem x17_ok : ("is_far" : Str) = toS x17 := by decide +kernel
theorem x18_ok : ("turn" : Str) = toS x18 := by decide +kernel
theorem x19_ok : ("reg" : Str) = toS x19 := by decide +kernel
theorem x20_ok : ("input" : Str) = toS x20 := by decide +kernel
theorem x21_ok : ("num" : Str) = toS x21 := by decide +kernel
theorem x22_ok : ("sum" : Str) = toS x22 := by decide +kernel
theorem x23_ok : ("less" : Str) = toS x23 := by decide +kernel
theorem x24_ok : ("lanes" : Str) = toS x24 := by decide +kernel
theorem x25_ok : ("met" : Str) = toS x25 := by decide +kernel
theorem x26_ok : ("inputs" : Str) = toS x26 := by decide +kernel
theorem x27_ok : ("block" : Str) = toS x27 := by decide +kernel
theorem x28_ok : ("head_fits" : Str) = toS x28 := by decide +kernel
theorem x29_ok : ("need" : Str) = toS x29 := by decide +kernel
theorem x30_ok : ("at" : Str) = toS x30 := by decide +kernel
theorem x31_ok : ("from" : Str) = toS x31 := by decide +kernel
theorem x32_ok : ("rows" : Str) = toS x32 := by decide +kernel
theorem x33_ok : ("deed" : Str) = toS x33 := by decide +kernel
theorem x34_ok : ("form" : Str) = toS x34 := by decide +kernel
theorem x35_ok : ("found" : Str) = toS x35 := by decide +kernel
theorem x36_ok : ("now" : Str) = toS x36 := by decide +kernel
theorem x37_ok : ("words" : Str) = toS x37 := by decide +kernel
theorem x38_ok : ("shut" : Str) = toS x38 := by decide +kernel
theorem x39_ok : ("with_word" : Str) = toS x39 := by decide +kernel
theorem x40_ok : ("fence" : Str) = toS x40 := by decide +kernel
theorem x41_ok : ("put" : Str) = toS x41 := by decide +kernel
theorem x42_ok : ("turns" : Str) = toS x42 := by decide +kernel
theorem x43_ok : ("item" : Str) = toS x43 := by decide +kernel
theorem x44_ok : ("" : Str) = toS x44 := by decide +kernel
theorem x45_ok : ("write" : Str) = toS x45 := by decide +kernel
theorem x46_ok : ("if" : Str) = toS x46 := by decide +kernel
theorem x47_ok : ("read" : Str) = toS x47 := by decide +kernel
theorem x48_ok : ("x" : Str) = toS x48 := by decide +kernel
theorem x49_ok : ("same" : Str) = toS x49 := by decide +kernel
theorem x50_ok : ("cases" : Str) = toS x50 := by decide +kernel
theorem x51_ok : ("far" : Str) = toS x51 := by decide +kernel
theorem x52_ok : ("mod" : Str) = toS x52 := by decide +kernel
theorem x53_ok : ("below" : Str) = toS x53 := by decide +kernel
theorem x54_ok : ("u" : Str) = toS x54 := by decide +kernel
theorem x55_ok : ("abcdefghijklmnopqrstuvwxyz" : Str) = toS x55 := by decide +kernel
theorem x56_ok : ("loop" : Str) = toS x56 := by decide +kernel
theorem x57_ok : ("rest" : Str) = toS x57 := by decide +kernel
theorem x58_ok : ("set" : Str) = toS x58 := by decide +kernel
theorem x59_ok : ("last" : Str) = toS x59 := by decide +kernel
theorem x60_ok : ("next" : Str) = toS x60 := by decide +kernel
theorem x61_ok : ("this" : Str) = toS x61 := by decide +kernel
theorem x62_ok : ("free" : Str) = toS x62 := by decide +kernel
theorem x63_ok : ("some" : Str) = toS x63 := by decide +kernel
theorem x64_ok : ("none" : Str) = toS x64 := by decide +kernel
theorem nb_ALL : (("ALL" : Str) == ("__debug__" : Str)) = false ∧ (("ALL" : Str) == ("__classdict__" : Str)) = false := by decide +kernel
theorem nb_CASES : (("CASES" : Str) == ("__debug__" : Str)) = false ∧ (("CASES" : Str) == ("__classdict__" : Str)) = false := by decide +kernel
theorem nb_FAR : (("FAR" : Str) == ("__debug__" : Str)) = false ∧ (("FAR" : Str) == ("__classdict__" : Str)) = false := by decide +kernel
theorem nb_FENCE : (("FENCE" : Str) == ("__debug__" : Str)) = false ∧ (("FENCE" : Str) == ("__classdict__" : Str)) = false := by decide +kernel
theorem nb_FREE : (("FREE" : Str) == ("__debug__" : Str)) = false ∧ (("FREE" : Str) == ("__classdict__" : Str)) = false := by decide +kernel
theorem nb_Flat : (("Flat" : Str) == ("__debug__" : Str)) = false ∧ (("Flat" : Str) == ("__classdict__" : Str)) = false := by decide +kernel
theorem nb_IF : (("IF" : Str) == ("__debug__" : Str)) = false ∧ (("IF" : Str) == ("__classdict__" : Str)) = false := by decide +kernel
theorem nb_LAST : (("LAST" : Str) == ("__debug__" : Str)) = false ∧ (("LAST" : Str) == ("__classdict__" : Str)) = false := by decide +kernel
theorem nb_LETTERS : (("LETTERS" : Str) == ("__debug__" : Str)) = false ∧ (("LETTERS" : Str) == ("__classdict__" : Str)) = false := by decide +kernel
theorem nb_LOOP : (("LOOP" : Str) == ("__debug__" : Str)) = false ∧ (("LOOP" : Str) == ("__classdict__" : Str)) = false := by decide +kernel
theorem nb_Looker : (("Looker" : Str) == ("__debug__" : Str)) = false ∧ (("Looker" : Str) == ("__classdict__" : Str)) = false := by decide +kernel
theorem nb_MOD : (("MOD" : Str) == ("__debug__" : Str)) = false ∧ (("MOD" : Str) == ("__classdict__" : Str)) = false := by decide +kernel
theorem nb_MOST_ARRAY : (("MOST_ARRAY" : Str) == ("__debug__" : Str)) = false ∧ (("MOST_ARRAY" : Str) == ("__classdict__" : Str)) = false := by decide +kernel
theorem nb_MOST_COUNT : (("MOST_COUNT" : Str) == ("__debug__" : Str)) = false ∧ (("MOST_COUNT" : Str) == ("__classdict__" : Str)) = false := by decide +kernel
theorem nb_MOST_DEEDS : (("MOST_DEEDS" : Str) == ("__debug__" : Str)) = false ∧ (("MOST_DEEDS" : Str) == ("__classdict__" : Str)) = false := by decide +kernel
theorem nb_MOST_NAME : (("MOST_NAME" : Str) == ("__debug__" : Str)) = false ∧ (("MOST_NAME" : Str) == ("__classdict__" : Str)) = false := by decide +kernel
theorem nb_MOST_NUMBER : (("MOST_NUMBER" : Str) == ("__debug__" : Str)) = false ∧ (("MOST_NUMBER" : Str) == ("__classdict__" : Str)) = false := by decide +kernel
theorem nb_MOST_TIMES : (("MOST_TIMES" : Str) == ("__debug__" : Str)) = false ∧ (("MOST_TIMES" : Str) == ("__classdict__" : Str)) = false := by decide +kernel
theorem nb_MOST_TOUCHES : (("MOST_TOUCHES" : Str) == ("__debug__" : Str)) = false ∧ (("MOST_TOUCHES" : Str) == ("__classdict__" : Str)) = false := by decide +kernel
theorem nb_MOST_WITHIN : (("MOST_WITHIN" : Str) == ("__debug__" : Str)) = false ∧ (("MOST_WITHIN" : Str) == ("__classdict__" : Str)) = false := by decide +kernel
theorem nb_MOST_WORTHS : (("MOST_WORTHS" : Str) == ("__debug__" : Str)) = false ∧ (("MOST_WORTHS" : Str) == ("__classdict__" : Str)) = false := by decide +kernel
theorem nb_Maker : (("Maker" : Str) == ("__debug__" : Str)) = false ∧ (("Maker" : Str) == ("__classdict__" : Str)) = false := by decide +kernel
theorem nb_NEXT : (("NEXT" : Str) == ("__debug__" : Str)) = false ∧ (("NEXT" : Str) == ("__classdict__" : Str)) = false := by decide +kernel
theorem nb_NONE : (("NONE" : Str) == ("__debug__" : Str)) = false ∧ (("NONE" : Str) == ("__classdict__" : Str)) = false := by decide +kernel
theorem nb_READ : (("READ" : Str) == ("__debug__" : Str)) = false ∧ (("READ" : Str) == ("__classdict__" : Str)) = false := by decide +kernel
theorem nb_REST : (("REST" : Str) == ("__debug__" : Str)) = false ∧ (("REST" : Str) == ("__classdict__" : Str)) = false := by decide +kernel
theorem nb_SAME : (("SAME" : Str) == ("__debug__" : Str)) = false ∧ (("SAME" : Str) == ("__classdict__" : Str)) = false := by decide +kernel
theorem nb_SET : (("SET" : Str) == ("__debug__" : Str)) = false ∧ (("SET" : Str) == ("__classdict__" : Str)) = false := by decide +kernel
theorem nb_SIZES : (("SIZES" : Str) == ("__debug__" : Str)) = false ∧ (("SIZES" : Str) == ("__classdict__" : Str)) = false := by decide +kernel
theorem nb_SOME : (("SOME" : Str) == ("__debug__" : Str)) = false ∧ (("SOME" : Str) == ("__classdict__" : Str)) = false := by decide +kernel
theorem nb_Sight : (("Sight" : Str) == ("__debug__" : Str)) = false ∧ (("Sight" : Str) == ("__classdict__" : Str)) = false := by decide +kernel
theorem nb_TESTS : (("TESTS" : Str) == ("__debug__" : Str)) = false ∧ (("TESTS" : Str) == ("__classdict__" : Str)) = false := by decide +kernel
theorem nb_THIS : (("THIS" : Str) == ("__debug__" : Str)) = false ∧ (("THIS" : Str) == ("__classdict__" : Str)) = false := by decide +kernel
theorem nb_TURNS : (("TURNS" : Str) == ("__debug__" : Str)) = false ∧ (("TURNS" : Str) == ("__classdict__" : Str)) = false := by decide +kernel
theorem nb_UNKNOWNS : (("UNKNOWNS" : Str) == ("__debug__" : Str)) = false ∧ (("UNKNOWNS" : Str) == ("__classdict__" : Str)) = false := by decide +kernel
theorem nb_WRITE : (("WRITE" : Str) == ("__debug__" : Str)) = false ∧ (("WRITE" : Str) == ("__classdict__" : Str)) = false := by decide +kernel
theorem nb__law_bad : (("_law_bad" : Str) == ("__debug__" : Str)) = false ∧ (("_law_bad" : Str) == ("__classdict__" : Str)) = false := by decide +kernel
theorem nb__law_cases : (("_law_cases" : Str) == ("__debug__" : Str)) = false ∧ (("_law_cases" : Str) == ("__classdict__" : Str)) = false := by decide +kernel
theorem nb__law_cell : (("_law_cell" : Str) == ("__debug__" : Str)) = false ∧ (("_law_cell" : Str) == ("__classdict__" : Str)) = false := by decide +kernel
theorem nb__law_deeds : (("_law_deeds" : Str) == ("__debug__" : Str)) = false ∧ (("_law_deeds" : Str) == ("__classdict__" : Str)) = false := by decide +kernel
theorem nb__law_drawn : (("_law_drawn" : Str) == ("__debug__" : Str)) = false ∧ (("_law_drawn" : Str) == ("__classdict__" : Str)) = false := by decide +kernel
theorem nb__law_five : (("_law_five" : Str) == ("__debug__" : Str)) = false ∧ (("_law_five" : Str) == ("__classdict__" : Str)) = false := by decide +kernel
theorem nb__law_found : (("_law_found" : Str) == ("__debug__" : Str)) = false ∧ (("_law_found" : Str) == ("__classdict__" : Str)) = false := by decide +kernel
theorem nb__law_good : (("_law_good" : Str) == ("__debug__" : Str)) = false ∧ (("_law_good" : Str) == ("__classdict__" : Str)) = false := by decide +kernel
theorem nb__law_k : (("_law_k" : Str) == ("__debug__" : Str)) = false ∧ (("_law_k" : Str) == ("__classdict__" : Str)) = false := by decide +kernel
theorem nb__law_m : (("_law_m" : Str) == ("__debug__" : Str)) = false ∧ (("_law_m" : Str) == ("__classdict__" : Str)) = false := by decide +kernel
theorem nb__law_many : (("_law_many" : Str) == ("__debug__" : Str)) = false ∧ (("_law_many" : Str) == ("__classdict__" : Str)) = false := by decide +kernel
theorem nb__law_mixed : (("_law_mixed" : Str) == ("__debug__" : Str)) = false ∧ (("_law_mixed" : Str) == ("__classdict__" : Str)) = false := by decide +kernel
theorem nb__law_more : (("_law_more" : Str) == ("__debug__" : Str)) = false ∧ (("_law_more" : Str) == ("__classdict__" : Str)) = false := by decide +kernel
theorem nb__law_n : (("_law_n" : Str) == ("__debug__" : Str)) = false ∧ (("_law_n" : Str) == ("__classdict__" : Str)) = false := by decide +kernel
theorem nb__law_next_one : (("_law_next_one" : Str) == ("__debug__" : Str)) = false ∧ (("_law_next_one" : Str) == ("__classdict__" : Str)) = false := by decide +kernel
theorem nb__law_one : (("_law_one" : Str) == ("__debug__" : Str)) = false ∧ (("_law_one" : Str) == ("__classdict__" : Str)) = false := by decide +kernel
theorem nb__law_other : (("_law_other" : Str) == ("__debug__" : Str)) = false ∧ (("_law_other" : Str) == ("__classdict__" : Str)) = false := by decide +kernel
theorem nb__law_program : (("_law_program" : Str) == ("__debug__" : Str)) = false ∧ (("_law_program" : Str) == ("__classdict__" : Str)) = false := by decide +kernel
theorem nb__law_r : (("_law_r" : Str) == ("__debug__" : Str)) = false ∧ (("_law_r" : Str) == ("__classdict__" : Str)) = false := by decide +kernel
theorem nb__law_reason : (("_law_reason" : Str) == ("__debug__" : Str)) = false ∧ (("_law_reason" : Str) == ("__classdict__" : Str)) = false := by decide +kernel
theorem nb__law_script : (("_law_script" : Str) == ("__debug__" : Str)) = false ∧ (("_law_script" : Str) == ("__classdict__" : Str)) = false := by decide +kernel
theorem nb__law_settled : (("_law_settled" : Str) == ("__debug__" : Str)) = false ∧ (("_law_settled" : Str) == ("__classdict__" : Str)) = false := by decide +kernel
theorem nb__law_start : (("_law_start" : Str) == ("__debug__" : Str)) = false ∧ (("_law_start" : Str) == ("__classdict__" : Str)) = false := by decide +kernel
theorem nb__law_state : (("_law_state" : Str) == ("__debug__" : Str)) = false ∧ (("_law_state" : Str) == ("__classdict__" : Str)) = false := by decide +kernel
theorem nb__law_test : (("_law_test" : Str) == ("__debug__" : Str)) = false ∧ (("_law_test" : Str) == ("__classdict__" : Str)) = false := by decide +kernel
theorem nb__law_told : (("_law_told" : Str) == ("__debug__" : Str)) = false ∧ (("_law_told" : Str) == ("__classdict__" : Str)) = false := by decide +kernel
theorem nb__law_tries : (("_law_tries" : Str) == ("__debug__" : Str)) = false ∧ (("_law_tries" : Str) == ("__classdict__" : Str)) = false := by decide +kernel
theorem nb__law_two : (("_law_two" : Str) == ("__debug__" : Str)) = false ∧ (("_law_two" : Str) == ("__classdict__" : Str)) = false := by decide +kernel
theorem nb_all : (("all" : Str) == ("__debug__" : Str)) = false ∧ (("all" : Str) == ("__classdict__" : Str)) = false := by decide +kernel
theorem nb_all_sights : (("all_sights" : Str) == ("__debug__" : Str)) = false ∧ (("all_sights" : Str) == ("__classdict__" : Str)) = false := by decide +kernel
theorem nb_any : (("any" : Str) == ("__debug__" : Str)) = false ∧ (("any" : Str) == ("__classdict__" : Str)) = false := by decide +kernel
theorem nb_array : (("array" : Str) == ("__debug__" : Str)) = false ∧ (("array" : Str) == ("__classdict__" : Str)) = false := by decide +kernel
theorem nb_as_row : (("as_row" : Str) == ("__debug__" : Str)) = false ∧ (("as_row" : Str) == ("__classdict__" : Str)) = false := by decide +kernel
theorem nb_beside : (("beside" : Str) == ("__debug__" : Str)) = false ∧ (("beside" : Str) == ("__classdict__" : Str)) = false := by decide +kernel
theorem nb_block : (("block" : Str) == ("__debug__" : Str)) = false ∧ (("block" : Str) == ("__classdict__" : Str)) = false := by decide +kernel
theorem nb_blocks_of : (("blocks_of" : Str) == ("__debug__" : Str)) = false ∧ (("blocks_of" : Str) == ("__classdict__" : Str)) = false := by decide +kernel
theorem nb_bool : (("bool" : Str) == ("__debug__" : Str)) = false ∧ (("bool" : Str) == ("__classdict__" : Str)) = false := by decide +kernel
theorem nb_checked : (("checked" : Str) == ("__debug__" : Str)) = false ∧ (("checked" : Str) == ("__classdict__" : Str)) = false := by decide +kernel
theorem nb_count : (("count" : Str) == ("__debug__" : Str)) = false ∧ (("count" : Str) == ("__classdict__" : Str)) = false := by decide +kernel
theorem nb_deed : (("deed" : Str) == ("__debug__" : Str)) = false ∧ (("deed" : Str) == ("__classdict__" : Str)) = false := by decide +kernel
theorem nb_deep : (("deep" : Str) == ("__debug__" : Str)) = false ∧ (("deep" : Str) == ("__classdict__" : Str)) = false := by decide +kernel
theorem nb_dict : (("dict" : Str) == ("__debug__" : Str)) = false ∧ (("dict" : Str) == ("__classdict__" : Str)) = false := by decide +kernel
theorem nb_end : (("end" : Str) == ("__debug__" : Str)) = false ∧ (("end" : Str) == ("__classdict__" : Str)) = false := by decide +kernel
theorem nb_ends : (("ends" : Str) == ("__debug__" : Str)) = false ∧ (("ends" : Str) == ("__classdict__" : Str)) = false := by decide +kernel
theorem nb_first : (("first" : Str) == ("__debug__" : Str)) = false ∧ (("first" : Str) == ("__classdict__" : Str)) = false := by decide +kernel
theorem nb_flat : (("flat" : Str) == ("__debug__" : Str)) = false ∧ (("flat" : Str) == ("__classdict__" : Str)) = false := by decide +kernel
theorem nb_found : (("found" : Str) == ("__debug__" : Str)) = false ∧ (("found" : Str) == ("__classdict__" : Str)) = false := by decide +kernel
theorem nb_from_on : (("from_on" : Str) == ("__debug__" : Str)) = false ∧ (("from_on" : Str) == ("__classdict__" : Str)) = false := by decide +kernel
theorem nb_gap : (("gap" : Str) == ("__debug__" : Str)) = false ∧ (("gap" : Str) == ("__classdict__" : Str)) = false := by decide +kernel
theorem nb_gone : (("gone" : Str) == ("__debug__" : Str)) = false ∧ (("gone" : Str) == ("__classdict__" : Str)) = false := by decide +kernel
theorem nb_good : (("good" : Str) == ("__debug__" : Str)) = false ∧ (("good" : Str) == ("__classdict__" : Str)) = false := by decide +kernel
theorem nb_high : (("high" : Str) == ("__debug__" : Str)) = false ∧ (("high" : Str) == ("__classdict__" : Str)) = false := by decide +kernel
theorem nb_inner : (("inner" : Str) == ("__debug__" : Str)) = false ∧ (("inner" : Str) == ("__classdict__" : Str)) = false := by decide +kernel
theorem nb_int : (("int" : Str) == ("__debug__" : Str)) = false ∧ (("int" : Str) == ("__classdict__" : Str)) = false := by decide +kernel
theorem nb_is_fenced : (("is_fenced" : Str) == ("__debug__" : Str)) = false ∧ (("is_fenced" : Str) == ("__classdict__" : Str)) = false := by decide +kernel
theorem nb_is_name : (("is_name" : Str) == ("__debug__" : Str)) = false ∧ (("is_name" : Str) == ("__classdict__" : Str)) = false := by decide +kernel
theorem nb_is_place : (("is_place" : Str) == ("__debug__" : Str)) = false ∧ (("is_place" : Str) == ("__classdict__" : Str)) = false := by decide +kernel
theorem nb_is_test : (("is_test" : Str) == ("__debug__" : Str)) = false ∧ (("is_test" : Str) == ("__classdict__" : Str)) = false := by decide +kernel
theorem nb_is_whole : (("is_whole" : Str) == ("__debug__" : Str)) = false ∧ (("is_whole" : Str) == ("__classdict__" : Str)) = false := by decide +kernel
theorem nb_is_worth : (("is_worth" : Str) == ("__debug__" : Str)) = false ∧ (("is_worth" : Str) == ("__classdict__" : Str)) = false := by decide +kernel
theorem nb_items : (("items" : Str) == ("__debug__" : Str)) = false ∧ (("items" : Str) == ("__classdict__" : Str)) = false := by decide +kernel
theorem nb_items_of : (("items_of" : Str) == ("__debug__" : Str)) = false ∧ (("items_of" : Str) == ("__classdict__" : Str)) = false := by decide +kernel
theorem nb_k : (("k" : Str) == ("__debug__" : Str)) = false ∧ (("k" : Str) == ("__classdict__" : Str)) = false := by decide +kernel
theorem nb_kind : (("kind" : Str) == ("__debug__" : Str)) = false ∧ (("kind" : Str) == ("__classdict__" : Str)) = false := by decide +kernel
theorem nb_kinds : (("kinds" : Str) == ("__debug__" : Str)) = false ∧ (("kinds" : Str) == ("__classdict__" : Str)) = false := by decide +kernel
theorem nb_known : (("known" : Str) == ("__debug__" : Str)) = false ∧ (("known" : Str) == ("__classdict__" : Str)) = false := by decide +kernel
theorem nb_lane : (("lane" : Str) == ("__debug__" : Str)) = false ∧ (("lane" : Str) == ("__classdict__" : Str)) = false := by decide +kernel
theorem nb_lanes : (("lanes" : Str) == ("__debug__" : Str)) = false ∧ (("lanes" : Str) == ("__classdict__" : Str)) = false := by decide +kernel
theorem nb_later : (("later" : Str) == ("__debug__" : Str)) = false ∧ (("later" : Str) == ("__classdict__" : Str)) = false := by decide +kernel
theorem nb_least : (("least" : Str) == ("__debug__" : Str)) = false ∧ (("least" : Str) == ("__classdict__" : Str)) = false := by decide +kernel
theorem nb_left : (("left" : Str) == ("__debug__" : Str)) = false ∧ (("left" : Str) == ("__classdict__" : Str)) = false := by decide +kernel
theorem nb_left_by : (("left_by" : Str) == ("__debug__" : Str)) = false ∧ (("left_by" : Str) == ("__classdict__" : Str)) = false := by decide +kernel
theorem nb_len : (("len" : Str) == ("__debug__" : Str)) = false ∧ (("len" : Str) == ("__classdict__" : Str)) = false := by decide +kernel
theorem nb_list : (("list" : Str) == ("__debug__" : Str)) = false ∧ (("list" : Str) == ("__classdict__" : Str)) = false := by decide +kernel
theorem nb_looker : (("looker" : Str) == ("__debug__" : Str)) = false ∧ (("looker" : Str) == ("__classdict__" : Str)) = false := by decide +kernel
theorem nb_low : (("low" : Str) == ("__debug__" : Str)) = false ∧ (("low" : Str) == ("__classdict__" : Str)) = false := by decide +kernel
theorem nb_maker : (("maker" : Str) == ("__debug__" : Str)) = false ∧ (("maker" : Str) == ("__classdict__" : Str)) = false := by decide +kernel
theorem nb_many : (("many" : Str) == ("__debug__" : Str)) = false ∧ (("many" : Str) == ("__classdict__" : Str)) = false := by decide +kernel
theorem nb_max : (("max" : Str) == ("__debug__" : Str)) = false ∧ (("max" : Str) == ("__classdict__" : Str)) = false := by decide +kernel
theorem nb_min : (("min" : Str) == ("__debug__" : Str)) = false ∧ (("min" : Str) == ("__classdict__" : Str)) = false := by decide +kernel
theorem nb_mine : (("mine" : Str) == ("__debug__" : Str)) = false ∧ (("mine" : Str) == ("__classdict__" : Str)) = false := by decide +kernel
theorem nb_more : (("more" : Str) == ("__debug__" : Str)) = false ∧ (("more" : Str) == ("__classdict__" : Str)) = false := by decide +kernel
theorem nb_most : (("most" : Str) == ("__debug__" : Str)) = false ∧ (("most" : Str) == ("__classdict__" : Str)) = false := by decide +kernel
theorem nb_name : (("name" : Str) == ("__debug__" : Str)) = false ∧ (("name" : Str) == ("__classdict__" : Str)) = false := by decide +kernel
theorem nb_names : (("names" : Str) == ("__debug__" : Str)) = false ∧ (("names" : Str) == ("__classdict__" : Str)) = false := by decide +kernel
theorem nb_need_program : (("need_program" : Str) == ("__debug__" : Str)) = false ∧ (("need_program" : Str) == ("__classdict__" : Str)) = false := by decide +kernel
theorem nb_no : (("no" : Str) == ("__debug__" : Str)) = false ∧ (("no" : Str) == ("__classdict__" : Str)) = false := by decide +kernel
theorem nb_now : (("now" : Str) == ("__debug__" : Str)) = false ∧ (("now" : Str) == ("__classdict__" : Str)) = false := by decide +kernel
theorem nb_number : (("number" : Str) == ("__debug__" : Str)) = false ∧ (("number" : Str) == ("__classdict__" : Str)) = false := by decide +kernel
theorem nb_numbered : (("numbered" : Str) == ("__debug__" : Str)) = false ∧ (("numbered" : Str) == ("__classdict__" : Str)) = false := by decide +kernel
theorem nb_often : (("often" : Str) == ("__debug__" : Str)) = false ∧ (("often" : Str) == ("__classdict__" : Str)) = false := by decide +kernel
theorem nb_once : (("once" : Str) == ("__debug__" : Str)) = false ∧ (("once" : Str) == ("__classdict__" : Str)) = false := by decide +kernel
theorem nb_one : (("one" : Str) == ("__debug__" : Str)) = false ∧ (("one" : Str) == ("__classdict__" : Str)) = false := by decide +kernel
theorem nb_other : (("other" : Str) == ("__debug__" : Str)) = false ∧ (("other" : Str) == ("__classdict__" : Str)) = false := by decide +kernel
theorem nb_others : (("others" : Str) == ("__debug__" : Str)) = false ∧ (("others" : Str) == ("__classdict__" : Str)) = false := by decide +kernel
theorem nb_own : (("own" : Str) == ("__debug__" : Str)) = false ∧ (("own" : Str) == ("__classdict__" : Str)) = false := by decide +kernel
theorem nb_pair : (("pair" : Str) == ("__debug__" : Str)) = false ∧ (("pair" : Str) == ("__classdict__" : Str)) = false := by decide +kernel
theorem nb_pairs_of : (("pairs_of" : Str) == ("__debug__" : Str)) = false ∧ (("pairs_of" : Str) == ("__classdict__" : Str)) = false := by decide +kernel
theorem nb_paper : (("paper" : Str) == ("__debug__" : Str)) = false ∧ (("paper" : Str) == ("__classdict__" : Str)) = false := by decide +kernel
theorem nb_part : (("part" : Str) == ("__debug__" : Str)) = false ∧ (("part" : Str) == ("__classdict__" : Str)) = false := by decide +kernel
theorem nb_parts : (("parts" : Str) == ("__debug__" : Str)) = false ∧ (("parts" : Str) == ("__classdict__" : Str)) = false := by decide +kernel
theorem nb_parts_of : (("parts_of" : Str) == ("__debug__" : Str)) = false ∧ (("parts_of" : Str) == ("__classdict__" : Str)) = false := by decide +kernel
theorem nb_place : (("place" : Str) == ("__debug__" : Str)) = false ∧ (("place" : Str) == ("__classdict__" : Str)) = false := by decide +kernel
theorem nb_program : (("program" : Str) == ("__debug__" : Str)) = false ∧ (("program" : Str) == ("__classdict__" : Str)) = false := by decide +kernel
theorem nb_reason : (("reason" : Str) == ("__debug__" : Str)) = false ∧ (("reason" : Str) == ("__classdict__" : Str)) = false := by decide +kernel
theorem nb_rest : (("rest" : Str) == ("__debug__" : Str)) = false ∧ (("rest" : Str) == ("__classdict__" : Str)) = false := by decide +kernel
theorem nb_risen : (("risen" : Str) == ("__debug__" : Str)) = false ∧ (("risen" : Str) == ("__classdict__" : Str)) = false := by decide +kernel
theorem nb_row : (("row" : Str) == ("__debug__" : Str)) = false ∧ (("row" : Str) == ("__classdict__" : Str)) = false := by decide +kernel
theorem nb_rows : (("rows" : Str) == ("__debug__" : Str)) = false ∧ (("rows" : Str) == ("__classdict__" : Str)) = false := by decide +kernel
theorem nb_rows_at : (("rows_at" : Str) == ("__debug__" : Str)) = false ∧ (("rows_at" : Str) == ("__classdict__" : Str)) = false := by decide +kernel
theorem nb_second : (("second" : Str) == ("__debug__" : Str)) = false ∧ (("second" : Str) == ("__classdict__" : Str)) = false := by decide +kernel
theorem nb_self : (("self" : Str) == ("__debug__" : Str)) = false ∧ (("self" : Str) == ("__classdict__" : Str)) = false := by decide +kernel
theorem nb_shows : (("shows" : Str) == ("__debug__" : Str)) = false ∧ (("shows" : Str) == ("__classdict__" : Str)) = false := by decide +kernel
theorem nb_sight : (("sight" : Str) == ("__debug__" : Str)) = false ∧ (("sight" : Str) == ("__classdict__" : Str)) = false := by decide +kernel
theorem nb_sights_of : (("sights_of" : Str) == ("__debug__" : Str)) = false ∧ (("sights_of" : Str) == ("__classdict__" : Str)) = false := by decide +kernel
theorem nb_sign : (("sign" : Str) == ("__debug__" : Str)) = false ∧ (("sign" : Str) == ("__classdict__" : Str)) = false := by decide +kernel
theorem nb_some : (("some" : Str) == ("__debug__" : Str)) = false ∧ (("some" : Str) == ("__classdict__" : Str)) = false := by decide +kernel
theorem nb_sorted : (("sorted" : Str) == ("__debug__" : Str)) = false ∧ (("sorted" : Str) == ("__classdict__" : Str)) = false := by decide +kernel
theorem nb_span : (("span" : Str) == ("__debug__" : Str)) = false ∧ (("span" : Str) == ("__classdict__" : Str)) = false := by decide +kernel
theorem nb_spans_of : (("spans_of" : Str) == ("__debug__" : Str)) = false ∧ (("spans_of" : Str) == ("__classdict__" : Str)) = false := by decide +kernel
theorem nb_split : (("split" : Str) == ("__debug__" : Str)) = false ∧ (("split" : Str) == ("__classdict__" : Str)) = false := by decide +kernel
theorem nb_step : (("step" : Str) == ("__debug__" : Str)) = false ∧ (("step" : Str) == ("__classdict__" : Str)) = false := by decide +kernel
theorem nb_still : (("still" : Str) == ("__debug__" : Str)) = false ∧ (("still" : Str) == ("__classdict__" : Str)) = false := by decide +kernel
theorem nb_str : (("str" : Str) == ("__debug__" : Str)) = false ∧ (("str" : Str) == ("__classdict__" : Str)) = false := by decide +kernel
theorem nb_sum : (("sum" : Str) == ("__debug__" : Str)) = false ∧ (("sum" : Str) == ("__classdict__" : Str)) = false := by decide +kernel
theorem nb_test : (("test" : Str) == ("__debug__" : Str)) = false ∧ (("test" : Str) == ("__classdict__" : Str)) = false := by decide +kernel
theorem nb_there : (("there" : Str) == ("__debug__" : Str)) = false ∧ (("there" : Str) == ("__classdict__" : Str)) = false := by decide +kernel
theorem nb_thing : (("thing" : Str) == ("__debug__" : Str)) = false ∧ (("thing" : Str) == ("__classdict__" : Str)) = false := by decide +kernel
theorem nb_times : (("times" : Str) == ("__debug__" : Str)) = false ∧ (("times" : Str) == ("__classdict__" : Str)) = false := by decide +kernel
theorem nb_total : (("total" : Str) == ("__debug__" : Str)) = false ∧ (("total" : Str) == ("__classdict__" : Str)) = false := by decide +kernel
theorem nb_touches : (("touches" : Str) == ("__debug__" : Str)) = false ∧ (("touches" : Str) == ("__classdict__" : Str)) = false := by decide +kernel
theorem nb_touches_in : (("touches_in" : Str) == ("__debug__" : Str)) = false ∧ (("touches_in" : Str) == ("__classdict__" : Str)) = false := by decide +kernel
theorem nb_tuple : (("tuple" : Str) == ("__debug__" : Str)) = false ∧ (("tuple" : Str) == ("__classdict__" : Str)) = false := by decide +kernel
theorem nb_turn : (("turn" : Str) == ("__debug__" : Str)) = false ∧ (("turn" : Str) == ("__classdict__" : Str)) = false := by decide +kernel
theorem nb_turns : (("turns" : Str) == ("__debug__" : Str)) = false ∧ (("turns" : Str) == ("__classdict__" : Str)) = false := by decide +kernel
theorem nb_up_to : (("up_to" : Str) == ("__debug__" : Str)) = false ∧ (("up_to" : Str) == ("__classdict__" : Str)) = false := by decide +kernel
theorem nb_within : (("within" : Str) == ("__debug__" : Str)) = false ∧ (("within" : Str) == ("__classdict__" : Str)) = false := by decide +kernel
theorem nb_word : (("word" : Str) == ("__debug__" : Str)) = false ∧ (("word" : Str) == ("__classdict__" : Str)) = false := by decide +kernel
theorem nb_words : (("words" : Str) == ("__debug__" : Str)) = false ∧ (("words" : Str) == ("__classdict__" : Str)) = false := by decide +kernel
theorem nb_worth : (("worth" : Str) == ("__debug__" : Str)) = false ∧ (("worth" : Str) == ("__classdict__" : Str)) = false := by decide +kernel
theorem nb_yes : (("yes" : Str) == ("__debug__" : Str)) = false ∧ (("yes" : Str) == ("__classdict__" : Str)) = false := by decide +kernel
theorem nb_yours : (("yours" : Str) == ("__debug__" : Str)) = false ∧ (("yours" : Str) == ("__classdict__" : Str)) = false := by decide +kernel
theorem bn_all : ("all" : Str) ≠ "__name__" := by decide +kernel
theorem bb_all : bootBuiltins "all" = some (.builtin "all") := by decide +kernel
theorem bn_any : ("any" : Str) ≠ "__name__" := by decide +kernel
theorem bb_any : bootBuiltins "any" = some (.builtin "any") := by decide +kernel
theorem bn_bool : ("bool" : Str) ≠ "__name__" := by decide +kernel
theorem bb_bool : bootBuiltins "bool" = some (.type "bool") := by decide +kernel
theorem bn_dict : ("dict" : Str) ≠ "__name__" := by decide +kernel
theorem bb_dict : bootBuiltins "dict" = some (.type "dict") := by decide +kernel
theorem bn_enumerate : ("enumerate" : Str) ≠ "__name__" := by decide +kernel
theorem bb_enumerate : bootBuiltins "enumerate" = some (.type "enumerate") := by decide +kernel
theorem bn_int : ("int" : Str) ≠ "__name__" := by decide +kernel
theorem bb_int : bootBuiltins "int" = some (.type "int") := by decide +kernel
theorem bn_isinstance : ("isinstance" : Str) ≠ "__name__" := by decide +kernel
theorem bb_isinstance : bootBuiltins "isinstance" = some (.builtin "isinstance") := by decide +kernel
theorem bn_len : ("len" : Str) ≠ "__name__" := by decide +kernel
theorem bb_len : bootBuiltins "len" = some (.builtin "len") := by decide +kernel
theorem bn_list : ("list" : Str) ≠ "__name__" := by decide +kernel
theorem bb_list : bootBuiltins "list" = some (.type "list") := by decide +kernel
theorem bn_max : ("max" : Str) ≠ "__name__" := by decide +kernel
theorem bb_max : bootBuiltins "max" = some (.builtin "max") := by decide +kernel
theorem bn_min : ("min" : Str) ≠ "__name__" := by decide +kernel
theorem bb_min : bootBuiltins "min" = some (.builtin "min") := by decide +kernel
theorem bn_range : ("range" : Str) ≠ "__name__" := by decide +kernel
theorem bb_range : bootBuiltins "range" = some (.type "range") := by decide +kernel
theorem bn_sorted : ("sorted" : Str) ≠ "__name__" := by decide +kernel
theorem bb_sorted : bootBuiltins "sorted" = some (.builtin "sorted") := by decide +kernel
theorem bn_str : ("str" : Str) ≠ "__name__" := by decide +kernel
theorem bb_str : bootBuiltins "str" = some (.type "str") := by decide +kernel
theorem bn_sum : ("sum" : Str) ≠ "__name__" := by decide +kernel
theorem bb_sum : bootBuiltins "sum" = some (.builtin "sum") := by decide +kernel
theorem bn_tuple : ("tuple" : Str) ≠ "__name__" := by decide +kernel
theorem bb_tuple : bootBuiltins "tuple" = some (.type "tuple") := by decide +kernel
theorem bn_zip : ("zip" : Str) ≠ "__name__" := by decide +kernel
theorem bb_zip : bootBuiltins "zip" = some (.type "zip") := by decide +kernel
structure Txt (K : PySem.W.Frag) (w : World) (mg : Str → Option Value) : Prop where
  k_UNKNOWNS : KonAt K mg "UNKNOWNS" k_UNKNOWNS
  k_CASES : KonAt K mg "CASES" k_CASES
  k_MOD : KonAt K mg "MOD" k_MOD
  k_SAME : KonAt K mg "SAME" k_SAME
  k_FAR : KonAt K mg "FAR" k_FAR
  k_LETTERS : KonAt K mg "LETTERS" k_LETTERS
  k_MOST_NAME : KonAt K mg "MOST_NAME" k_MOST_NAME
  k_LOOP : KonAt K mg "LOOP" k_LOOP
  k_TURNS : KonAt K mg "TURNS" k_TURNS
  k_IF : KonAt K mg "IF" k_IF
  k_MOST_TIMES : KonAt K mg "MOST_TIMES" k_MOST_TIMES
  k_MOST_NUMBER : KonAt K mg "MOST_NUMBER" k_MOST_NUMBER
  k_TESTS : KonAt K mg "TESTS" k_TESTS
  k_REST : KonAt K mg "REST" k_REST
  k_MOST_WORTHS : KonAt K mg "MOST_WORTHS" k_MOST_WORTHS
  k_MOST_COUNT : KonAt K mg "MOST_COUNT" k_MOST_COUNT
  k_SET : KonAt K mg "SET" k_SET
  k_READ : KonAt K mg "READ" k_READ
  k_WRITE : KonAt K mg "WRITE" k_WRITE
  k_MOST_ARRAY : KonAt K mg "MOST_ARRAY" k_MOST_ARRAY
  k_FENCE : KonAt K mg "FENCE" k_FENCE
  k_MOST_WITHIN : KonAt K mg "MOST_WITHIN" k_MOST_WITHIN
  k_MOST_DEEDS : KonAt K mg "MOST_DEEDS" k_MOST_DEEDS
  k_MOST_TOUCHES : KonAt K mg "MOST_TOUCHES" k_MOST_TOUCHES
  k_ALL : KonAt K mg "ALL" k_ALL
  k_LAST : KonAt K mg "LAST" k_LAST
  k_NEXT : KonAt K mg "NEXT" k_NEXT
  k_THIS : KonAt K mg "THIS" k_THIS
  k_FREE : KonAt K mg "FREE" k_FREE
  k_SOME : KonAt K mg "SOME" k_SOME
  k_NONE : KonAt K mg "NONE" k_NONE
  f_all : mg "all" = none
  f_any : mg "any" = none
  f_bool : mg "bool" = none
  f_dict : mg "dict" = none
  f_enumerate : mg "enumerate" = none
  f_int : mg "int" = none
  f_isinstance : mg "isinstance" = none
  f_len : mg "len" = none
  f_list : mg "list" = none
  f_max : mg "max" = none
  f_min : mg "min" = none
  f_range : mg "range" = none
  f_sorted : mg "sorted" = none
  f_str : mg "str" = none
  f_sum : mg "sum" = none
  f_tuple : mg "tuple" = none
  f_zip : mg "zip" = none
  g_shows : mg "shows" = some (.ref (He.ga K "shows"))
  g_is_whole : mg "is_whole" = some (.ref (He.ga K "is_whole"))
  g_is_name : mg "is_name" = some (.ref (He.ga K "is_name"))
  g_blocks_of : mg "blocks_of" = some (.ref (He.ga K "blocks_of"))
  g_is_place : mg "is_place" = some (.ref (He.ga K "is_place"))
  g_is_test : mg "is_test" = some (.ref (He.ga K "is_test"))
  g_is_worth : mg "is_worth" = some (.ref (He.ga K "is_worth"))
  g_touches_in : mg "touches_in" = some (.ref (He.ga K "touches_in"))
  g_need_program : mg "need_program" = some (.ref (He.ga K "need_program"))
  g_numbered : mg "numbered" = some (.ref (He.ga K "numbered"))
  g_as_row : mg "as_row" = some (.ref (He.ga K "as_row"))
  g_from_on : mg "from_on" = some (.ref (He.ga K "from_on"))
  g_up_to : mg "up_to" = some (.ref (He.ga K "up_to"))
  g_left_by : mg "left_by" = some (.ref (He.ga K "left_by"))
  g_split : mg "split" = some (.ref (He.ga K "split"))
  g_risen : mg "risen" = some (.ref (He.ga K "risen"))
  g_is_fenced : mg "is_fenced" = some (.ref (He.ga K "is_fenced"))
  g_items_of : mg "items_of" = some (.ref (He.ga K "items_of"))
  g_parts_of : mg "parts_of" = some (.ref (He.ga K "parts_of"))
  g_once : mg "once" = some (.ref (He.ga K "once"))
  g_still : mg "still" = some (.ref (He.ga K "still"))
  g_within : mg "within" = some (.ref (He.ga K "within"))
  g_spans_of : mg "spans_of" = some (.ref (He.ga K "spans_of"))
  g_pair : mg "pair" = some (.ref (He.ga K "pair"))
  g_pairs_of : mg "pairs_of" = some (.ref (He.ga K "pairs_of"))
  g_sights_of : mg "sights_of" = some (.ref (He.ga K "sights_of"))
  g_rows_at : mg "rows_at" = some (.ref (He.ga K "rows_at"))
  g_all_sights : mg "all_sights" = some (.ref (He.ga K "all_sights"))
  g_checked : mg "checked" = some (.ref (He.ga K "checked"))
  g__law_start : mg "_law_start" = some (.ref (He.ga K "_law_start"))
  g__law_drawn : mg "_law_drawn" = some (.ref (He.ga K "_law_drawn"))
  g__law_two : mg "_law_two" = some (.ref (He.ga K "_law_two"))
  g__law_tries : mg "_law_tries" = some (.ref (He.ga K "_law_tries"))
  g__law_settled : mg "_law_settled" = some (.ref (He.ga K "_law_settled"))
  g_law : mg "law" = some (.ref (He.ga K "law"))
  cl_Sight : Cls K (ca K 13)
  gc_Sight : mg "Sight" = some (.ref (ca K 13))
  mk_Sight : Mk K (ca K 13) (He.ma K (ca K 13) "__init__")
  me_Sight_left : Meth K (ca K 13) "left" (He.ma K (ca K 13) "left")
  me_Sight_open_ones : Meth K (ca K 13) "open_ones" (He.ma K (ca K 13) "open_ones")
  me_Sight_ends : Meth K (ca K 13) "ends" (He.ma K (ca K 13) "ends")
  me_Sight_least : Meth K (ca K 13) "least" (He.ma K (ca K 13) "least")
  me_Sight_most : Meth K (ca K 13) "most" (He.ma K (ca K 13) "most")
  me_Sight_is_far : Meth K (ca K 13) "is_far" (He.ma K (ca K 13) "is_far")
  me_Sight_is_mod : Meth K (ca K 13) "is_mod" (He.ma K (ca K 13) "is_mod")
  me_Sight_lane : Meth K (ca K 13) "lane" (He.ma K (ca K 13) "lane")
  me_Sight_is_same : Meth K (ca K 13) "is_same" (He.ma K (ca K 13) "is_same")
  me_Sight_worths : Meth K (ca K 13) "worths" (He.ma K (ca K 13) "worths")
  cl_Looker : Cls K (ca K 10)
  gc_Looker : mg "Looker" = some (.ref (ca K 10))
  mk_Looker : Mk K (ca K 10) (He.ma K (ca K 10) "__init__")
  me_Looker_need : Meth K (ca K 10) "need" (He.ma K (ca K 10) "need")
  me_Looker_head_fits : Meth K (ca K 10) "head_fits" (He.ma K (ca K 10) "head_fits")
  me_Looker_block : Meth K (ca K 10) "block" (He.ma K (ca K 10) "block")
  cl_Flat : Cls K (ca K 11)
  gc_Flat : mg "Flat" = some (.ref (ca K 11))
  mk_Flat : Mk K (ca K 11) (He.ma K (ca K 11) "__init__")
  me_Flat_block : Meth K (ca K 11) "block" (He.ma K (ca K 11) "block")
  me_Flat_deed : Meth K (ca K 11) "deed" (He.ma K (ca K 11) "deed")
  me_Flat_form : Meth K (ca K 11) "form" (He.ma K (ca K 11) "form")
  cl_Maker : Cls K (ca K 12)
  gc_Maker : mg "Maker" = some (.ref (ca K 12))
  mk_Maker : Mk K (ca K 12) (He.ma K (ca K 12) "__init__")
  me_Maker_put : Meth K (ca K 12) "put" (He.ma K (ca K 12) "put")
  me_Maker_shut : Meth K (ca K 12) "shut" (He.ma K (ca K 12) "shut")
  me_Maker_fence : Meth K (ca K 12) "fence" (He.ma K (ca K 12) "fence")
  me_Maker_with_word : Meth K (ca K 12) "with_word" (He.ma K (ca K 12) "with_word")
  me_Maker_turns : Meth K (ca K 12) "turns" (He.ma K (ca K 12) "turns")
  me_Maker_item : Meth K (ca K 12) "item" (He.ma K (ca K 12) "item")
  na_Flat_rows : NoAttr K (ca K 11) "rows"
  na_Flat_turn : NoAttr K (ca K 11) "turn"
  na_Looker_inputs : NoAttr K (ca K 10) "inputs"
  na_Looker_met : NoAttr K (ca K 10) "met"
  na_Maker_found : NoAttr K (ca K 12) "found"
  na_Maker_now : NoAttr K (ca K 12) "now"
  na_Maker_words : NoAttr K (ca K 12) "words"
  na_Sight_bounds : NoAttr K (ca K 13) "bounds"
  na_Sight_known : NoAttr K (ca K 13) "known"
  na_Sight_mine : NoAttr K (ca K 13) "mine"
  na_Sight_one : NoAttr K (ca K 13) "one"
  na_Sight_other : NoAttr K (ca K 13) "other"
  na_Sight_times : NoAttr K (ca K 13) "times"
  na_Sight_total : NoAttr K (ca K 13) "total"
  na_Sight_yours : NoAttr K (ca K 13) "yours"
  tb_SIZES : TabOk K w (He.ga K "SIZES") t_SIZES
  gs_SIZES : mg "SIZES" = some (.ref (He.ga K "SIZES"))
def adr (K : PySem.W.Frag) (i : Nat) : Addr := match i with
  | 32 => He.ma K (ca K 13) "__init__"
  | 33 => He.ma K (ca K 13) "left"
  | 34 => He.ma K (ca K 13) "open_ones"
  | 35 => He.ma K (ca K 13) "ends"
  | 36 => He.ma K (ca K 13) "least"
  | 37 => He.ma K (ca K 13) "most"
  | 38 => He.ma K (ca K 13) "is_far"
  | 39 => He.ma K (ca K 13) "is_mod"
  | 40 => He.ma K (ca K 13) "lane"
  | 41 => He.ma K (ca K 13) "is_same"
  | 42 => He.ma K (ca K 13) "worths"
  | 88 => He.ga K "shows"
  | 1 => He.ga K "is_whole"
  | 2 => He.ga K "is_name"
  | 3 => He.ga K "blocks_of"
  | 4 => He.ga K "is_place"
  | 5 => He.ga K "is_test"
  | 6 => He.ga K "is_worth"
  | 7 => He.ma K (ca K 10) "__init__"
  | 8 => He.ma K (ca K 10) "need"
  | 9 => He.ma K (ca K 10) "head_fits"
  | 10 => He.ma K (ca K 10) "block"
  | 11 => He.ga K "touches_in"
  | 12 => He.ga K "need_program"
  | 13 => He.ga K "numbered"
  | 45 => He.ga K "as_row"
  | 46 => He.ga K "from_on"
  | 47 => He.ga K "up_to"
  | 48 => He.ga K "left_by"
  | 49 => He.ga K "split"
  | 50 => He.ga K "risen"
  | 52 => He.ma K (ca K 11) "__init__"
  | 53 => He.ma K (ca K 11) "block"
  | 54 => He.ma K (ca K 11) "deed"
  | 55 => He.ma K (ca K 11) "form"
  | 56 => He.ga K "is_fenced"
  | 57 => He.ga K "items_of"
  | 58 => He.ga K "parts_of"
  | 59 => He.ga K "once"
  | 60 => He.ga K "still"
  | 61 => He.ga K "within"
  | 62 => He.ma K (ca K 12) "__init__"
  | 63 => He.ma K (ca K 12) "put"
  | 64 => He.ma K (ca K 12) "shut"
  | 65 => He.ma K (ca K 12) "fence"
  | 66 => He.ma K (ca K 12) "with_word"
  | 67 => He.ma K (ca K 12) "turns"
  | 68 => He.ma K (ca K 12) "item"
  | 69 => He.ga K "spans_of"
  | 70 => He.ga K "pair"
  | 71 => He.ga K "pairs_of"
  | 72 => He.ga K "sights_of"
  | 73 => He.ga K "rows_at"
  | 74 => He.ga K "all_sights"
  | 90 => He.ga K "checked"
  | 200 => He.ga K "_law_start"
  | 201 => He.ga K "_law_drawn"
  | 202 => He.ga K "_law_two"
  | 203 => He.ga K "_law_tries"
  | 204 => He.ga K "_law_settled"
  | 205 => He.ga K "law"
  | _ => 0
abbrev FT (P : Program) (w : World) (K : PySem.W.Frag) (mg : Str → Option Value) (base : Heap) (k : Nat) : Prop := ∀ (i : Nat) (d : Df), T i = some d → FOk P w K mg base (2 * k) (callF T k) i d.ps (adr K i)
section
variable {P : Program} {w : World} {K : PySem.W.Frag} {mg : Str → Option Value} {base : Heap} {cdv : Value} {A : Around} {outer : List PySem.Env} {s : Shared} {H : Hp} {E : XK} {k : Nat}
abbrev N_Sight___init__ : List Str := ["self", "pair", "touches", "rows", "k"]
abbrev P_Sight___init__ : List Str := ["self", "pair", "touches", "rows"]
theorem sc_Sight___init__ : FnScope N_Sight___init__ P_Sight___init__ (defScope (inClass (top 10) 0)) := ⟨rfl, rfl, rfl, by decide +kernel, rfl, by decide +kernel, by decide +kernel⟩
theorem w_Sight___init__ (X : Txt K w mg) (F : FT P w K mg base k) (hr : Room (2 * k + 1) (A.deeper (envOfC "Sight.__init__" (defScope (inClass (top 10) 0)) s.heap.objs.size (adr K 32) cdv))) :
    PSsW (cxOf (L2.CX P w) P w K mg base N_Sight___init__ "Sight.__init__" (defScope (inClass (top 10) 0)) (adr K 32) cdv A outer s H E) (fun cls d _ H => E cls d H) (defBody (inClass (top 10) 0)) (m_Sight___init__ (callF T k)) := by
  have hr0 := hr.mono (Nat.le_succ (2 * k))
  have h1 := hu_of hr
  have h64 := hr.units
  have h65 := room65 hr
  have tk : Takes (cxOf (L2.CX P w) P w K mg base N_Sight___init__ "Sight.__init__" (defScope (inClass (top 10) 0)) (adr K 32) cdv A outer s H E) (fun cls d _ H => E cls d H) := takes_of rfl rfl rfl rfl
  have po : PassesOwn (model (cxOf (L2.CX P w) P w K mg base N_Sight___init__ "Sight.__init__" (defScope (inClass (top 10) 0)) (adr K 32) cdv A outer s H E).prog w) (cxOf (L2.CX P w) P w K mg base N_Sight___init__ "Sight.__init__" (defScope (inClass (top 10) 0)) (adr K 32) cdv A outer s H E).A (cxOf (L2.CX P w) P w K mg base N_Sight___init__ "Sight.__init__" (defScope (inClass (top 10) 0)) (adr K 32) cdv A outer s H E).env (cxOf (L2.CX P w) P w K mg base N_Sight___init__ "Sight.__init__" (defScope (inClass (top 10) 0)) (adr K 32) cdv A outer s H E).xe := passes_of rfl
  exact (ssw_cons (sw_tgH (pw_v (i := 2) rfl (.inl rfl) nb_touches.1 nb_touches.2) (pgh_tu rfl (pghs_cons (pgh_at x7_ok X.cl_Sight X.na_Sight_one (pt_v (i := 0) rfl (.inr (.inl rfl)) nb_self.1 nb_self.2)) (pghs_cons (pgh_at x6_ok X.cl_Sight X.na_Sight_other (pt_v (i := 0) rfl (.inr (.inl rfl)) nb_self.1 nb_self.2)) pghs_nil rfl) rfl) rfl rfl) rfl rfl rfl) (ssw_cons (sw_tgH (pw_v (i := 3) rfl (.inl rfl) nb_rows.1 nb_rows.2) (pgh_tu rfl (pghs_cons (pgh_at x5_ok X.cl_Sight X.na_Sight_mine (pt_v (i := 0) rfl (.inr (.inl rfl)) nb_self.1 nb_self.2)) (pghs_cons (pgh_at x4_ok X.cl_Sight X.na_Sight_yours (pt_v (i := 0) rfl (.inr (.inl rfl)) nb_self.1 nb_self.2)) pghs_nil rfl) rfl) rfl rfl) rfl rfl rfl) (ssw_cons (sw_tgH (pw_cut (pt_v (i := 1) rfl (.inl rfl) nb_pair.1 nb_pair.2) (pow_some (PEW.t pw_int)) pow_none) (pgh_tu rfl (pghs_cons (pgh_at x0_ok X.cl_Sight X.na_Sight_bounds (pt_v (i := 0) rfl (.inr (.inl rfl)) nb_self.1 nb_self.2)) (pghs_cons (pgh_at x3_ok X.cl_Sight X.na_Sight_times (pt_v (i := 0) rfl (.inr (.inl rfl)) nb_self.1 nb_self.2)) (pghs_cons (pgh_at x2_ok X.cl_Sight X.na_Sight_total (pt_v (i := 0) rfl (.inr (.inl rfl)) nb_self.1 nb_self.2)) pghs_nil rfl) rfl) rfl) rfl rfl) rfl rfl rfl) (ssw_one (sw_fld x1_ok X.cl_Sight X.na_Sight_known (pt_v (i := 0) rfl (.inr (.inl rfl)) nb_self.1 nb_self.2) (pw_heap (pf_dc (own := [("k", 4)]) rfl sc_Sight___init__.nd (pic_seq (PEW.t (pw_tup (pw_cons pw_int (pw_cons pw_int pw_nil rfl) rfl)))) (blkOk_by (N := N_Sight___init__) (sc := (defScope (inClass (top 10) 0))) (by decide +kernel)) (inS_sub rfl) (fun _ _ _ _ _ => (pgw_nm (i := 4) sc_Sight___init__.nd rfl (.inl rfl) (.inr rfl))) (fun _ _ _ _ _ => (pts_1 (ptw_cmp (op_eqD h64) oc_eq (PEW.t (pw_ix (PEW.t (pw_fld x0_ok X.cl_Sight X.na_Sight_bounds (pt_v (i := 0) rfl (.inr (.inl rfl)) nb_self.1 nb_self.2) rfl)) (pt_v (i := 4) rfl (.inl rfl) nb_k.1 nb_k.2) (fun _ _ => rfl))) (PEW.t pw_int) rfl))) (fun _ _ _ _ _ => (pw_v (i := 4) rfl (.inl rfl) nb_k.1 nb_k.2)) (fun _ _ _ _ _ => pw_int) (fun _ => rfl))) rfl)))))
abbrev N_Sight_left : List Str := ["self", "k", "worth"]
abbrev P_Sight_left : List Str := ["self"]
theorem sc_Sight_left : FnScope N_Sight_left P_Sight_left (defScope (inClass (top 10) 1)) := ⟨rfl, rfl, rfl, by decide +kernel, rfl, by decide +kernel, by decide +kernel⟩
theorem w_Sight_left (X : Txt K w mg) (F : FT P w K mg base k) (hr : Room (2 * k + 1) (A.deeper (envOfC "Sight.left" (defScope (inClass (top 10) 1)) s.heap.objs.size (adr K 33) cdv))) :
    PSsW (cxOf (L2.CX P w) P w K mg base N_Sight_left "Sight.left" (defScope (inClass (top 10) 1)) (adr K 33) cdv A outer s H E) (fun cls d _ H => E cls d H) (defBody (inClass (top 10) 1)) (m_Sight_left (callF T k)) := by
  have hr0 := hr.mono (Nat.le_succ (2 * k))
  have h1 := hu_of hr
  have h64 := hr.units
  have h65 := room65 hr
  have tk : Takes (cxOf (L2.CX P w) P w K mg base N_Sight_left "Sight.left" (defScope (inClass (top 10) 1)) (adr K 33) cdv A outer s H E) (fun cls d _ H => E cls d H) := takes_of rfl rfl rfl rfl
  have po : PassesOwn (model (cxOf (L2.CX P w) P w K mg base N_Sight_left "Sight.left" (defScope (inClass (top 10) 1)) (adr K 33) cdv A outer s H E).prog w) (cxOf (L2.CX P w) P w K mg base N_Sight_left "Sight.left" (defScope (inClass (top 10) 1)) (adr K 33) cdv A outer s H E).A (cxOf (L2.CX P w) P w K mg base N_Sight_left "Sight.left" (defScope (inClass (top 10) 1)) (adr K 33) cdv A outer s H E).env (cxOf (L2.CX P w) P w K mg base N_Sight_left "Sight.left" (defScope (inClass (top 10) 1)) (adr K 33) cdv A outer s H E).xe := passes_of rfl
  exact (ssw_one (sw_ret (pw_op op_sub oc_sub (PEW.t (pw_fld x2_ok X.cl_Sight X.na_Sight_total (pt_v (i := 0) rfl (.inr (.inl rfl)) nb_self.1 nb_self.2) rfl)) (PEW.t (pw_bi (id := "sum") (cr_sum rfl) cb_sum rfl X.f_sum bb_sum bn_sum nb_sum.1 (pat_cons (PEW.t (PEF.w (pf_lcI (own := [("k", 1), ("worth", 2)]) rfl sc_Sight_left.nd (PEW.t (pw_fld x1_ok X.cl_Sight X.na_Sight_known (pt_v (i := 0) rfl (.inr (.inl rfl)) nb_self.1 nb_self.2) rfl)) rfl rfl (blkOk_by (N := N_Sight_left) (sc := (defScope (inClass (top 10) 1))) (by decide +kernel)) (inS_sub rfl) (fun _ _ _ _ _ => (pgw_tu rfl (pgsw_cons (pgw_nm (i := 1) sc_Sight_left.nd rfl (.inl rfl) (.inr rfl)) (pgsw_cons (pgw_nm (i := 2) sc_Sight_left.nd rfl (.inl rfl) (.inr rfl)) pgsw_nil rfl) rfl) rfl rfl)) (fun _ _ _ _ _ => pts_no) (fun _ _ _ _ _ => (pw_op op_mul4 oc_mul (PEW.t (pw_ix (PEW.t (pw_fld x3_ok X.cl_Sight X.na_Sight_times (pt_v (i := 0) rfl (.inr (.inl rfl)) nb_self.1 nb_self.2) rfl)) (pt_v (i := 1) rfl (.inl rfl) nb_k.1 nb_k.2) (fun _ _ => rfl))) (pt_v (i := 2) rfl (.inl rfl) nb_worth.1 nb_worth.2))) (fun _ => rfl)))) pat_nil rfl) rfl rfl)))))
abbrev N_Sight_open_ones : List Str := ["self", "k"]
abbrev P_Sight_open_ones : List Str := ["self"]
theorem sc_Sight_open_ones : FnScope N_Sight_open_ones P_Sight_open_ones (defScope (inClass (top 10) 2)) := ⟨rfl, rfl, rfl, by decide +kernel, rfl, by decide +kernel, by decide +kernel⟩
theorem w_Sight_open_ones (X : Txt K w mg) (F : FT P w K mg base k) (hr : Room (2 * k + 1) (A.deeper (envOfC "Sight.open_ones" (defScope (inClass (top 10) 2)) s.heap.objs.size (adr K 34) cdv))) :
    PSsW (cxOf (L2.CX P w) P w K mg base N_Sight_open_ones "Sight.open_ones" (defScope (inClass (top 10) 2)) (adr K 34) cdv A outer s H E) (fun cls d _ H => E cls d H) (defBody (inClass (top 10) 2)) (m_Sight_open_ones (callF T k)) := by
  have hr0 := hr.mono (Nat.le_succ (2 * k))
  have h1 := hu_of hr
  have h64 := hr.units
  have h65 := room65 hr
  have tk : Takes (cxOf (L2.CX P w) P w K mg base N_Sight_open_ones "Sight.open_ones" (defScope (inClass (top 10) 2)) (adr K 34) cdv A outer s H E) (fun cls d _ H => E cls d H) := takes_of rfl rfl rfl rfl
  have po : PassesOwn (model (cxOf (L2.CX P w) P w K mg base N_Sight_open_ones "Sight.open_ones" (defScope (inClass (top 10) 2)) (adr K 34) cdv A outer s H E).prog w) (cxOf (L2.CX P w) P w K mg base N_Sight_open_ones "Sight.open_ones" (defScope (inClass (top 10) 2)) (adr K 34) cdv A outer s H E).A (cxOf (L2.CX P w) P w K mg base N_Sight_open_ones "Sight.open_ones" (defScope (inClass (top 10) 2)) (adr K 34) cdv A outer s H E).env (cxOf (L2.CX P w) P w K mg base N_Sight_open_ones "Sight.open_ones" (defScope (inClass (top 10) 2)) (adr K 34) cdv A outer s H E).xe := passes_of rfl
  exact (ssw_one (sw_ret (PEF.w (pf_lc (own := [("k", 1)]) rfl sc_Sight_open_ones.nd (PIS.c (pis_rg1 rfl X.f_range (pw_cons (pw_k rfl X.k_UNKNOWNS nb_UNKNOWNS.1) pw_nil rfl) rfl)) (blkOk_by (N := N_Sight_open_ones) (sc := (defScope (inClass (top 10) 2))) (by decide +kernel)) (inS_sub rfl) (fun _ _ _ _ _ => (pgw_nm (i := 1) sc_Sight_open_ones.nd rfl (.inl rfl) (.inr rfl))) (fun _ _ _ _ _ => (pts_1 (PWW.t (ptw_and (ptw_dnotin h1 (pt_v (i := 1) rfl (.inl rfl) nb_k.1 nb_k.2) (PEW.t (pw_fld x1_ok X.cl_Sight X.na_Sight_known (pt_v (i := 0) rfl (.inr (.inl rfl)) nb_self.1 nb_self.2) rfl)) rfl) (ptw_and1 (ptw_cmp (op_neD h64) oc_ne (PEW.t (pw_ix (PEW.t (pw_fld x3_ok X.cl_Sight X.na_Sight_times (pt_v (i := 0) rfl (.inr (.inl rfl)) nb_self.1 nb_self.2) rfl)) (pt_v (i := 1) rfl (.inl rfl) nb_k.1 nb_k.2) (fun _ _ => rfl))) (PEW.t pw_int) rfl)))))) (fun _ _ _ _ _ => (pw_v (i := 1) rfl (.inl rfl) nb_k.1 nb_k.2)) (fun _ => rfl)))))
abbrev N_Sight_ends : List Str := ["self", "number", "most"]
abbrev P_Sight_ends : List Str := ["self", "number"]
theorem sc_Sight_ends : FnScope N_Sight_ends P_Sight_ends (defScope (inClass (top 10) 3)) := ⟨rfl, rfl, rfl, by decide +kernel, rfl, by decide +kernel, by decide +kernel⟩
theorem w_Sight_ends (X : Txt K w mg) (F : FT P w K mg base k) (hr : Room (2 * k + 1) (A.deeper (envOfC "Sight.ends" (defScope (inClass (top 10) 3)) s.heap.objs.size (adr K 35) cdv))) :
    PSsW (cxOf (L2.CX P w) P w K mg base N_Sight_ends "Sight.ends" (defScope (inClass (top 10) 3)) (adr K 35) cdv A outer s H E) (fun cls d _ H => E cls d H) (defBody (inClass (top 10) 3)) (m_Sight_ends (callF T k)) := by
  have hr0 := hr.mono (Nat.le_succ (2 * k))
  have h1 := hu_of hr
  have h64 := hr.units
  have h65 := room65 hr
  have tk : Takes (cxOf (L2.CX P w) P w K mg base N_Sight_ends "Sight.ends" (defScope (inClass (top 10) 3)) (adr K 35) cdv A outer s H E) (fun cls d _ H => E cls d H) := takes_of rfl rfl rfl rfl
  have po : PassesOwn (model (cxOf (L2.CX P w) P w K mg base N_Sight_ends "Sight.ends" (defScope (inClass (top 10) 3)) (adr K 35) cdv A outer s H E).prog w) (cxOf (L2.CX P w) P w K mg base N_Sight_ends "Sight.ends" (defScope (inClass (top 10) 3)) (adr K 35) cdv A outer s H E).A (cxOf (L2.CX P w) P w K mg base N_Sight_ends "Sight.ends" (defScope (inClass (top 10) 3)) (adr K 35) cdv A outer s H E).env (cxOf (L2.CX P w) P w K mg base N_Sight_ends "Sight.ends" (defScope (inClass (top 10) 3)) (adr K 35) cdv A outer s H E).xe := passes_of rfl
  exact (ssw_cons (sw_set (i := 2) sc_Sight_ends.nd rfl (.inl rfl) (.inl rfl) (pw_op op_mul4 oc_mul (PEW.t (pw_ix (PEW.t (pw_fld x3_ok X.cl_Sight X.na_Sight_times (pt_v (i := 0) rfl (.inl rfl) nb_self.1 nb_self.2) rfl)) (pt_v (i := 1) rfl (.inl rfl) nb_number.1 nb_number.2) (fun _ _ => rfl))) (PEW.t (pw_op op_sub oc_sub (PEW.t (pw_ix (PEW.t (pw_fld x0_ok X.cl_Sight X.na_Sight_bounds (pt_v (i := 0) rfl (.inl rfl) nb_self.1 nb_self.2) rfl)) (pt_v (i := 1) rfl (.inl rfl) nb_number.1 nb_number.2) (fun _ _ => rfl))) (PEW.t pw_int)))) rfl) (ssw_cons (sw_if (ptw_cmp op_gt oc_gt (PEW.t (pw_ix (PEW.t (pw_fld x3_ok X.cl_Sight X.na_Sight_times (pt_v (i := 0) rfl (.inl rfl) nb_self.1 nb_self.2) rfl)) (pt_v (i := 1) rfl (.inl rfl) nb_number.1 nb_number.2) (fun _ _ => rfl))) (PEW.t pw_int) rfl) (ssw_one (sw_ret (pw_tup (pw_cons pw_int (pw_cons (pw_if (ptw_cmp op_gt oc_gt (PEW.t (pw_ix (PEW.t (pw_fld x0_ok X.cl_Sight X.na_Sight_bounds (pt_v (i := 0) rfl (.inl rfl) nb_self.1 nb_self.2) rfl)) (pt_v (i := 1) rfl (.inl rfl) nb_number.1 nb_number.2) (fun _ _ => rfl))) (PEW.t pw_int) rfl) (pw_v (i := 2) rfl (.inl rfl) nb_most.1 nb_most.2) pw_non) pw_nil rfl) rfl)))) ssw_nil) (ssw_one (sw_ret (pw_tup (pw_cons (pw_if (ptw_cmp op_gt oc_gt (PEW.t (pw_ix (PEW.t (pw_fld x0_ok X.cl_Sight X.na_Sight_bounds (pt_v (i := 0) rfl (.inl rfl) nb_self.1 nb_self.2) rfl)) (pt_v (i := 1) rfl (.inl rfl) nb_number.1 nb_number.2) (fun _ _ => rfl))) (PEW.t pw_int) rfl) (pw_v (i := 2) rfl (.inl rfl) nb_most.1 nb_most.2) pw_non) (pw_cons pw_int pw_nil rfl) rfl))))))
abbrev N_Sight_least : List Str := ["self", "some", "found", "k"]
abbrev P_Sight_least : List Str := ["self", "some"]
theorem sc_Sight_least : FnScope N_Sight_least P_Sight_least (defScope (inClass (top 10) 4)) := ⟨rfl, rfl, rfl, by decide +kernel, rfl, by decide +kernel, by decide +kernel⟩
theorem w_Sight_least (X : Txt K w mg) (F : FT P w K mg base k) (hr : Room (2 * k + 1) (A.deeper (envOfC "Sight.least" (defScope (inClass (top 10) 4)) s.heap.objs.size (adr K 36) cdv))) :
    PSsW (cxOf (L2.CX P w) P w K mg base N_Sight_least "Sight.least" (defScope (inClass (top 10) 4)) (adr K 36) cdv A outer s H E) (fun cls d _ H => E cls d H) (defBody (inClass (top 10) 4)) (m_Sight_least (callF T k)) := by
  have hr0 := hr.mono (Nat.le_succ (2 * k))
  have h1 := hu_of hr
  have h64 := hr.units
  have h65 := room65 hr
  have tk : Takes (cxOf (L2.CX P w) P w K mg base N_Sight_least "Sight.least" (defScope (inClass (top 10) 4)) (adr K 36) cdv A outer s H E) (fun cls d _ H => E cls d H) := takes_of rfl rfl rfl rfl
  have po : PassesOwn (model (cxOf (L2.CX P w) P w K mg base N_Sight_least "Sight.least" (defScope (inClass (top 10) 4)) (adr K 36) cdv A outer s H E).prog w) (cxOf (L2.CX P w) P w K mg base N_Sight_least "Sight.least" (defScope (inClass (top 10) 4)) (adr K 36) cdv A outer s H E).A (cxOf (L2.CX P w) P w K mg base N_Sight_least "Sight.least" (defScope (inClass (top 10) 4)) (adr K 36) cdv A outer s H E).env (cxOf (L2.CX P w) P w K mg base N_Sight_least "Sight.least" (defScope (inClass (top 10) 4)) (adr K 36) cdv A outer s H E).xe := passes_of rfl
  exact (ssw_cons (sw_lc (i := 2) (own := [("k", 3)]) .val rfl sc_Sight_least.nd rfl rfl (sw_true rfl rfl rfl (by decide +kernel)) (pic_seq (pt_v (i := 1) rfl (.inl rfl) nb_some.1 nb_some.2)) (blkOk_by (N := N_Sight_least) (sc := (defScope (inClass (top 10) 4))) (by decide +kernel)) (inS_sub rfl) (fun _ _ _ _ _ => (pgw_nm (i := 3) sc_Sight_least.nd rfl (.inl rfl) (.inr rfl))) (fun _ _ _ _ _ => pts_no) (fun _ _ _ _ _ => (pw_ix (PEW.t (pw_meth x8_ok X.cl_Sight X.me_Sight_ends (F 35 _ rfl) hr0 takes0 (pw_v (i := 0) rfl (.inr (.inl rfl)) nb_self.1 nb_self.2) (pw_cons (pw_v (i := 3) rfl (.inl rfl) nb_k.1 nb_k.2) pw_nil rfl) rfl rfl rfl)) (PEW.t pw_int) (fun _ _ => rfl))) (fun _ => rfl)) (ssw_one (sw_ret (pw_if (ptw_cmp (op_in3 h65) oc_in (PEW.t pw_non) (pt_v (i := 2) rfl (.inl rfl) nb_found.1 nb_found.2) rfl) pw_non (pw_bi (id := "sum") (cr_sum rfl) cb_sum rfl X.f_sum bb_sum bn_sum nb_sum.1 (pat_cons (pt_v (i := 2) rfl (.inl rfl) nb_found.1 nb_found.2) pat_nil rfl) rfl rfl)))))
abbrev N_Sight_most : List Str := ["self", "some", "found", "k"]
abbrev P_Sight_most : List Str := ["self", "some"]
theorem sc_Sight_most : FnScope N_Sight_most P_Sight_most (defScope (inClass (top 10) 5)) := ⟨rfl, rfl, rfl, by decide +kernel, rfl, by decide +kernel, by decide +kernel⟩
theorem w_Sight_most (X : Txt K w mg) (F : FT P w K mg base k) (hr : Room (2 * k + 1) (A.deeper (envOfC "Sight.most" (defScope (inClass (top 10) 5)) s.heap.objs.size (adr K 37) cdv))) :
    PSsW (cxOf (L2.CX P w) P w K mg base N_Sight_most "Sight.most" (defScope (inClass (top 10) 5)) (adr K 37) cdv A outer s H E) (fun cls d _ H => E cls d H) (defBody (inClass (top 10) 5)) (m_Sight_most (callF T k)) := by
  have hr0 := hr.mono (Nat.le_succ (2 * k))
  have h1 := hu_of hr
  have h64 := hr.units
  have h65 := room65 hr
  have tk : Takes (cxOf (L2.CX P w) P w K mg base N_Sight_most "Sight.most" (defScope (inClass (top 10) 5)) (adr K 37) cdv A outer s H E) (fun cls d _ H => E cls d H) := takes_of rfl rfl rfl rfl
  have po : PassesOwn (model (cxOf (L2.CX P w) P w K mg base N_Sight_most "Sight.most" (defScope (inClass (top 10) 5)) (adr K 37) cdv A outer s H E).prog w) (cxOf (L2.CX P w) P w K mg base N_Sight_most "Sight.most" (defScope (inClass (top 10) 5)) (adr K 37) cdv A outer s H E).A (cxOf (L2.CX P w) P w K mg base N_Sight_most "Sight.most" (defScope (inClass (top 10) 5)) (adr K 37) cdv A outer s H E).env (cxOf (L2.CX P w) P w K mg base N_Sight_most "Sight.most" (defScope (inClass (top 10) 5)) (adr K 37) cdv A outer s H E).xe := passes_of rfl
  exact (ssw_cons (sw_lc (i := 2) (own := [("k", 3)]) .val rfl sc_Sight_most.nd rfl rfl (sw_true rfl rfl rfl (by decide +kernel)) (pic_seq (pt_v (i := 1) rfl (.inl rfl) nb_some.1 nb_some.2)) (blkOk_by (N := N_Sight_most) (sc := (defScope (inClass (top 10) 5))) (by decide +kernel)) (inS_sub rfl) (fun _ _ _ _ _ => (pgw_nm (i := 3) sc_Sight_most.nd rfl (.inl rfl) (.inr rfl))) (fun _ _ _ _ _ => pts_no) (fun _ _ _ _ _ => (pw_ix (PEW.t (pw_meth x8_ok X.cl_Sight X.me_Sight_ends (F 35 _ rfl) hr0 takes0 (pw_v (i := 0) rfl (.inr (.inl rfl)) nb_self.1 nb_self.2) (pw_cons (pw_v (i := 3) rfl (.inl rfl) nb_k.1 nb_k.2) pw_nil rfl) rfl rfl rfl)) (PEW.t pw_int) (fun _ _ => rfl))) (fun _ => rfl)) (ssw_one (sw_ret (pw_if (ptw_cmp (op_in3 h65) oc_in (PEW.t pw_non) (pt_v (i := 2) rfl (.inl rfl) nb_found.1 nb_found.2) rfl) pw_non (pw_bi (id := "sum") (cr_sum rfl) cb_sum rfl X.f_sum bb_sum bn_sum nb_sum.1 (pat_cons (pt_v (i := 2) rfl (.inl rfl) nb_found.1 nb_found.2) pat_nil rfl) rfl rfl)))))
abbrev N_Sight_is_far : List Str := ["self", "least", "most"]
abbrev P_Sight_is_far : List Str := ["self"]
theorem sc_Sight_is_far : FnScope N_Sight_is_far P_Sight_is_far (defScope (inClass (top 10) 6)) := ⟨rfl, rfl, rfl, by decide +kernel, rfl, by decide +kernel, by decide +kernel⟩
theorem w_Sight_is_far (X : Txt K w mg) (F : FT P w K mg base k) (hr : Room (2 * k + 1) (A.deeper (envOfC "Sight.is_far" (defScope (inClass (top 10) 6)) s.heap.objs.size (adr K 38) cdv))) :
    PSsW (cxOf (L2.CX P w) P w K mg base N_Sight_is_far "Sight.is_far" (defScope (inClass (top 10) 6)) (adr K 38) cdv A outer s H E) (fun cls d _ H => E cls d H) (defBody (inClass (top 10) 6)) (m_Sight_is_far (callF T k)) := by
  have hr0 := hr.mono (Nat.le_succ (2 * k))
  have h1 := hu_of hr
  have h64 := hr.units
  have h65 := room65 hr
  have tk : Takes (cxOf (L2.CX P w) P w K mg base N_Sight_is_far "Sight.is_far" (defScope (inClass (top 10) 6)) (adr K 38) cdv A outer s H E) (fun cls d _ H => E cls d H) := takes_of rfl rfl rfl rfl
  have po : PassesOwn (model (cxOf (L2.CX P w) P w K mg base N_Sight_is_far "Sight.is_far" (defScope (inClass (top 10) 6)) (adr K 38) cdv A outer s H E).prog w) (cxOf (L2.CX P w) P w K mg base N_Sight_is_far "Sight.is_far" (defScope (inClass (top 10) 6)) (adr K 38) cdv A outer s H E).A (cxOf (L2.CX P w) P w K mg base N_Sight_is_far "Sight.is_far" (defScope (inClass (top 10) 6)) (adr K 38) cdv A outer s H E).env (cxOf (L2.CX P w) P w K mg base N_Sight_is_far "Sight.is_far" (defScope (inClass (top 10) 6)) (adr K 38) cdv A outer s H E).xe := passes_of rfl
  exact (ssw_cons (sw_par (i := 1) (j := 2) rfl sc_Sight_is_far.nd rfl rfl (by decide) rfl rfl (pw_cons (pw_meth x11_ok X.cl_Sight X.me_Sight_least (F 36 _ rfl) hr0 tk (pw_v (i := 0) rfl (.inl rfl) nb_self.1 nb_self.2) (pw_cons (pw_meth0 x10_ok X.cl_Sight X.me_Sight_open_ones (F 34 _ rfl) hr0 tk (pw_v (i := 0) rfl (.inl rfl) nb_self.1 nb_self.2) rfl) pw_nil rfl) rfl rfl rfl) (pw_cons (pw_meth x12_ok X.cl_Sight X.me_Sight_most (F 37 _ rfl) hr0 tk (pw_v (i := 0) rfl (.inl rfl) nb_self.1 nb_self.2) (pw_cons (pw_meth0 x10_ok X.cl_Sight X.me_Sight_open_ones (F 34 _ rfl) hr0 tk (pw_v (i := 0) rfl (.inl rfl) nb_self.1 nb_self.2) rfl) pw_nil rfl) rfl rfl rfl) pw_nil rfl) rfl) rfl rfl) (ssw_one (sw_ret (pw_or (PEW.t (pw_and (PEW.t (pw_notN (pt_v (i := 1) rfl (.inl rfl) nb_least.1 nb_least.2))) (pw_one (pw_cmp op_gt oc_gt (pt_v (i := 1) rfl (.inl rfl) nb_least.1 nb_least.2) (PEW.t (pw_meth0 x9_ok X.cl_Sight X.me_Sight_left (F 33 _ rfl) hr0 tk (pw_v (i := 0) rfl (.inl rfl) nb_self.1 nb_self.2) rfl)) rfl)))) (pw_one (pw_and (PEW.t (pw_notN (pt_v (i := 2) rfl (.inl rfl) nb_most.1 nb_most.2))) (pw_one (pw_cmp op_lt4 oc_lt (pt_v (i := 2) rfl (.inl rfl) nb_most.1 nb_most.2) (PEW.t (pw_meth0 x9_ok X.cl_Sight X.me_Sight_left (F 33 _ rfl) hr0 tk (pw_v (i := 0) rfl (.inl rfl) nb_self.1 nb_self.2) rfl)) rfl))))))))
abbrev N_Sight_is_mod : List Str := ["self", "part", "k"]
abbrev P_Sight_is_mod : List Str := ["self", "part"]
theorem sc_Sight_is_mod : FnScope N_Sight_is_mod P_Sight_is_mod (defScope (inClass (top 10) 7)) := ⟨rfl, rfl, rfl, by decide +kernel, rfl, by decide +kernel, by decide +kernel⟩
theorem w_Sight_is_mod (X : Txt K w mg) (F : FT P w K mg base k) (hr : Room (2 * k + 1) (A.deeper (envOfC "Sight.is_mod" (defScope (inClass (top 10) 7)) s.heap.objs.size (adr K 39) cdv))) :
    PSsW (cxOf (L2.CX P w) P w K mg base N_Sight_is_mod "Sight.is_mod" (defScope (inClass (top 10) 7)) (adr K 39) cdv A outer s H E) (fun cls d _ H => E cls d H) (defBody (inClass (top 10) 7)) (m_Sight_is_mod (callF T k)) := by
  have hr0 := hr.mono (Nat.le_succ (2 * k))
  have h1 := hu_of hr
  have h64 := hr.units
  have h65 := room65 hr
  have tk : Takes (cxOf (L2.CX P w) P w K mg base N_Sight_is_mod "Sight.is_mod" (defScope (inClass (top 10) 7)) (adr K 39) cdv A outer s H E) (fun cls d _ H => E cls d H) := takes_of rfl rfl rfl rfl
  have po : PassesOwn (model (cxOf (L2.CX P w) P w K mg base N_Sight_is_mod "Sight.is_mod" (defScope (inClass (top 10) 7)) (adr K 39) cdv A outer s H E).prog w) (cxOf (L2.CX P w) P w K mg base N_Sight_is_mod "Sight.is_mod" (defScope (inClass (top 10) 7)) (adr K 39) cdv A outer s H E).A (cxOf (L2.CX P w) P w K mg base N_Sight_is_mod "Sight.is_mod" (defScope (inClass (top 10) 7)) (adr K 39) cdv A outer s H E).env (cxOf (L2.CX P w) P w K mg base N_Sight_is_mod "Sight.is_mod" (defScope (inClass (top 10) 7)) (adr K 39) cdv A outer s H E).xe := passes_of rfl
  exact (ssw_cons (sw_if (ptw_val (PEW.t (pw_bi (id := "any") (cr_any rfl) cb_any rfl X.f_any bb_any bn_any nb_any.1 (pat_cons (PEW.t (PEF.w (pf_lc (own := [("k", 2)]) rfl sc_Sight_is_mod.nd (pic_seq (PEW.t (pw_meth0 x10_ok X.cl_Sight X.me_Sight_open_ones (F 34 _ rfl) hr0 tk (pw_v (i := 0) rfl (.inr (.inl rfl)) nb_self.1 nb_self.2) rfl))) (blkOk_by (N := N_Sight_is_mod) (sc := (defScope (inClass (top 10) 7))) (by decide +kernel)) (inS_sub rfl) (fun _ _ _ _ _ => (pgw_nm (i := 2) sc_Sight_is_mod.nd rfl (.inl rfl) (.inr rfl))) (fun _ _ _ _ _ => pts_no) (fun _ _ _ _ _ => (pw_cmp (op_neD h64) oc_ne (PEW.t (pw_op op_modN oc_mod (PEW.t (pw_ix (PEW.t (pw_fld x3_ok X.cl_Sight X.na_Sight_times (pt_v (i := 0) rfl (.inr (.inl rfl)) nb_self.1 nb_self.2) rfl)) (pt_v (i := 2) rfl (.inl rfl) nb_k.1 nb_k.2) (fun _ _ => rfl))) (pt_v (i := 1) rfl (.inr (.inl rfl)) nb_part.1 nb_part.2))) (PEW.t pw_int) rfl)) (fun _ => rfl)))) pat_nil rfl) rfl rfl)) (fun _ => rfl)) (ssw_one (sw_ret pw_bl)) ssw_nil) (ssw_one (sw_ret (pw_cmp (op_neD h64) oc_ne (PEW.t (pw_op op_modN oc_mod (PEW.t (pw_meth0 x9_ok X.cl_Sight X.me_Sight_left (F 33 _ rfl) hr0 tk (pw_v (i := 0) rfl (.inr (.inl rfl)) nb_self.1 nb_self.2) rfl)) (pt_v (i := 1) rfl (.inr (.inl rfl)) nb_part.1 nb_part.2))) (PEW.t pw_int) rfl))))
abbrev N_Sight_lane : List Str := ["self", "number", "row"]
abbrev P_Sight_lane : List Str := ["self", "number"]
theorem sc_Sight_lane : FnScope N_Sight_lane P_Sight_lane (defScope (inClass (top 10) 8)) := ⟨rfl, rfl, rfl, by decide +kernel, rfl, by decide +kernel, by decide +kernel⟩
theorem w_Sight_lane (X : Txt K w mg) (F : FT P w K mg base k) (hr : Room (2 * k + 1) (A.deeper (envOfC "Sight.lane" (defScope (inClass (top 10) 8)) s.heap.objs.size (adr K 40) cdv))) :
    PSsW (cxOf (L2.CX P w) P w K mg base N_Sight_lane "Sight.lane" (defScope (inClass (top 10) 8)) (adr K 40) cdv A outer s H E) (fun cls d _ H => E cls d H) (defBody (inClass (top 10) 8)) (m_Sight_lane (callF T k)) := by
  have hr0 := hr.mono (Nat.le_succ (2 * k))
  have h1 := hu_of hr
  have h64 := hr.units
  have h65 := room65 hr
  have tk : Takes (cxOf (L2.CX P w) P w K mg base N_Sight_lane "Sight.lane" (defScope (inClass (top 10) 8)) (adr K 40) cdv A outer s H E) (fun cls d _ H => E cls d H) := takes_of rfl rfl rfl rfl
  have po : PassesOwn (model (cxOf (L2.CX P w) P w K mg base N_Sight_lane "Sight.lane" (defScope (inClass (top 10) 8)) (adr K 40) cdv A outer s H E).prog w) (cxOf (L2.CX P w) P w K mg base N_Sight_lane "Sight.lane" (defScope (inClass (top 10) 8)) (adr K 40) cdv A outer s H E).A (cxOf (L2.CX P w) P w K mg base N_Sight_lane "Sight.lane" (defScope (inClass (top 10) 8)) (adr K 40) cdv A outer s H E).env (cxOf (L2.CX P w) P w K mg base N_Sight_lane "Sight.lane" (defScope (inClass (top 10) 8)) (adr K 40) cdv A outer s H E).xe := passes_of rfl
  exact (ssw_cons (sw_set (i := 2) sc_Sight_lane.nd rfl (.inl rfl) (.inl rfl) (pw_ix (PEW.t (pw_tup (pw_cons (pw_fld x5_ok X.cl_Sight X.na_Sight_mine (pt_v (i := 0) rfl (.inl rfl) nb_self.1 nb_self.2) rfl) (pw_cons (pw_fld x4_ok X.cl_Sight X.na_Sight_yours (pt_v (i := 0) rfl (.inl rfl) nb_self.1 nb_self.2) rfl) pw_nil rfl) rfl))) (pt_v (i := 1) rfl (.inl rfl) nb_number.1 nb_number.2) (fun _ _ => rfl)) rfl) (ssw_one (sw_ret (pw_if (ptw_din h1 (pt_v (i := 1) rfl (.inl rfl) nb_number.1 nb_number.2) (PEW.t (pw_fld x1_ok X.cl_Sight X.na_Sight_known (pt_v (i := 0) rfl (.inl rfl) nb_self.1 nb_self.2) rfl)) rfl) (pw_op op_add4 oc_add (PEW.t (pw_ix (pt_v (i := 2) rfl (.inl rfl) nb_row.1 nb_row.2) (PEW.t pw_int) (fun _ _ => rfl))) (PEW.t (pw_op op_mul4 oc_mul (PEW.t (pw_ix (pt_v (i := 2) rfl (.inl rfl) nb_row.1 nb_row.2) (PEW.t pw_int) (fun _ _ => rfl))) (PEW.t (pw_dget h1 (PEW.t (pw_fld x1_ok X.cl_Sight X.na_Sight_known (pt_v (i := 0) rfl (.inl rfl) nb_self.1 nb_self.2) rfl)) (pt_v (i := 1) rfl (.inl rfl) nb_number.1 nb_number.2) (fun _ _ => rfl)))))) pw_non))))
abbrev N_Sight_is_same : List Str := ["self", "rest", "k", "worth"]
abbrev P_Sight_is_same : List Str := ["self"]
theorem sc_Sight_is_same : FnScope N_Sight_is_same P_Sight_is_same (defScope (inClass (top 10) 9)) := ⟨rfl, rfl, rfl, by decide +kernel, rfl, by decide +kernel, by decide +kernel⟩
theorem w_Sight_is_same (X : Txt K w mg) (F : FT P w K mg base k) (hr : Room (2 * k + 1) (A.deeper (envOfC "Sight.is_same" (defScope (inClass (top 10) 9)) s.heap.objs.size (adr K 41) cdv))) :
    PSsW (cxOf (L2.CX P w) P w K mg base N_Sight_is_same "Sight.is_same" (defScope (inClass (top 10) 9)) (adr K 41) cdv A outer s H E) (fun cls d _ H => E cls d H) (defBody (inClass (top 10) 9)) (m_Sight_is_same (callF T k)) := by
  have hr0 := hr.mono (Nat.le_succ (2 * k))
  have h1 := hu_of hr
  have h64 := hr.units
  have h65 := room65 hr
  have tk : Takes (cxOf (L2.CX P w) P w K mg base N_Sight_is_same "Sight.is_same" (defScope (inClass (top 10) 9)) (adr K 41) cdv A outer s H E) (fun cls d _ H => E cls d H) := takes_of rfl rfl rfl rfl
  have po : PassesOwn (model (cxOf (L2.CX P w) P w K mg base N_Sight_is_same "Sight.is_same" (defScope (inClass (top 10) 9)) (adr K 41) cdv A outer s H E).prog w) (cxOf (L2.CX P w) P w K mg base N_Sight_is_same "Sight.is_same" (defScope (inClass (top 10) 9)) (adr K 41) cdv A outer s H E).A (cxOf (L2.CX P w) P w K mg base N_Sight_is_same "Sight.is_same" (defScope (inClass (top 10) 9)) (adr K 41) cdv A outer s H E).env (cxOf (L2.CX P w) P w K mg base N_Sight_is_same "Sight.is_same" (defScope (inClass (top 10) 9)) (adr K 41) cdv A outer s H E).xe := passes_of rfl
  exact (ssw_cons (sw_if (PWW.t (ptw_and (ptw_notN (PEW.t (pw_meth x13_ok X.cl_Sight X.me_Sight_lane (F 40 _ rfl) hr0 tk (pw_v (i := 0) rfl (.inr (.inl rfl)) nb_self.1 nb_self.2) (pw_cons pw_int pw_nil rfl) rfl rfl rfl))) (ptw_and1 (ptw_notN (PEW.t (pw_meth x13_ok X.cl_Sight X.me_Sight_lane (F 40 _ rfl) hr0 tk (pw_v (i := 0) rfl (.inr (.inl rfl)) nb_self.1 nb_self.2) (pw_cons pw_int pw_nil rfl) rfl rfl rfl)))))) (ssw_one (sw_ret (pw_cmp (op_eqD h64) oc_eq (PEW.t (pw_meth x13_ok X.cl_Sight X.me_Sight_lane (F 40 _ rfl) hr0 tk (pw_v (i := 0) rfl (.inr (.inl rfl)) nb_self.1 nb_self.2) (pw_cons pw_int pw_nil rfl) rfl rfl rfl)) (PEW.t (pw_meth x13_ok X.cl_Sight X.me_Sight_lane (F 40 _ rfl) hr0 tk (pw_v (i := 0) rfl (.inr (.inl rfl)) nb_self.1 nb_self.2) (pw_cons pw_int pw_nil rfl) rfl rfl rfl)) rfl))) ssw_nil) (ssw_cons (sw_if (PWW.t (ptw_or (ptw_val (PEW.t (pw_bi (id := "any") (cr_any rfl) cb_any rfl X.f_any bb_any bn_any nb_any.1 (pat_cons (PEW.t (PEF.w (pf_lc (own := [("k", 2)]) rfl sc_Sight_is_same.nd (pic_seq (PEW.t (pw_meth0 x10_ok X.cl_Sight X.me_Sight_open_ones (F 34 _ rfl) hr0 tk (pw_v (i := 0) rfl (.inr (.inl rfl)) nb_self.1 nb_self.2) rfl))) (blkOk_by (N := N_Sight_is_same) (sc := (defScope (inClass (top 10) 9))) (by decide +kernel)) (inS_sub rfl) (fun _ _ _ _ _ => (pgw_nm (i := 2) sc_Sight_is_same.nd rfl (.inl rfl) (.inr rfl))) (fun _ _ _ _ _ => pts_no) (fun _ _ _ _ _ => (pw_cmp op_gt oc_gt (pt_v (i := 2) rfl (.inl rfl) nb_k.1 nb_k.2) (PEW.t pw_int) rfl)) (fun _ => rfl)))) pat_nil rfl) rfl rfl)) (fun _ => rfl)) (ptw_or (ptw_cmp (op_neD h64) oc_ne (PEW.t (pw_ix (PEW.t (pw_fld x7_ok X.cl_Sight X.na_Sight_one (pt_v (i := 0) rfl (.inr (.inl rfl)) nb_self.1 nb_self.2) rfl)) (PEW.t pw_int) (fun _ _ => rfl))) (PEW.t (pw_ix (PEW.t (pw_fld x6_ok X.cl_Sight X.na_Sight_other (pt_v (i := 0) rfl (.inr (.inl rfl)) nb_self.1 nb_self.2) rfl)) (PEW.t pw_int) (fun _ _ => rfl))) rfl) (ptw_or1 (ptw_cmp (op_eqD h64) oc_eq (PEW.t (pw_ix (PEW.t (pw_fld x7_ok X.cl_Sight X.na_Sight_one (pt_v (i := 0) rfl (.inr (.inl rfl)) nb_self.1 nb_self.2) rfl)) (PEW.t pw_int) (fun _ _ => rfl))) (PEW.t pw_int) rfl))))) (ssw_one (sw_ret pw_bl)) ssw_nil) (ssw_cons (sw_set (i := 1) sc_Sight_is_same.nd rfl (.inl rfl) (.inl rfl) (pw_bi (id := "sum") (cr_sum rfl) cb_sum rfl X.f_sum bb_sum bn_sum nb_sum.1 (pat_cons (PEW.t (PEF.w (pf_lcI (own := [("k", 2), ("worth", 3)]) rfl sc_Sight_is_same.nd (PEW.t (pw_fld x1_ok X.cl_Sight X.na_Sight_known (pt_v (i := 0) rfl (.inr (.inl rfl)) nb_self.1 nb_self.2) rfl)) rfl rfl (blkOk_by (N := N_Sight_is_same) (sc := (defScope (inClass (top 10) 9))) (by decide +kernel)) (inS_sub rfl) (fun _ _ _ _ _ => (pgw_tu rfl (pgsw_cons (pgw_nm (i := 2) sc_Sight_is_same.nd rfl (.inl rfl) (.inr rfl)) (pgsw_cons (pgw_nm (i := 3) sc_Sight_is_same.nd rfl (.inl rfl) (.inr rfl)) pgsw_nil rfl) rfl) rfl rfl)) (fun _ _ _ _ _ => (pts_1 (ptw_cmp op_gt oc_gt (pt_v (i := 2) rfl (.inl rfl) nb_k.1 nb_k.2) (PEW.t pw_int) rfl))) (fun _ _ _ _ _ => (pw_op op_mul4 oc_mul (PEW.t (pw_ix (PEW.t (pw_fld x3_ok X.cl_Sight X.na_Sight_times (pt_v (i := 0) rfl (.inr (.inl rfl)) nb_self.1 nb_self.2) rfl)) (pt_v (i := 2) rfl (.inl rfl) nb_k.1 nb_k.2) (fun _ _ => rfl))) (pt_v (i := 3) rfl (.inl rfl) nb_worth.1 nb_worth.2))) (fun _ => rfl)))) pat_nil rfl) rfl rfl) rfl) (ssw_one (sw_ret (pw_cmp (op_eqD h64) oc_eq (PEW.t (pw_op op_add4 oc_add (PEW.t (pw_op op_sub oc_sub (PEW.t (pw_ix (PEW.t (pw_fld x7_ok X.cl_Sight X.na_Sight_one (pt_v (i := 0) rfl (.inr (.inl rfl)) nb_self.1 nb_self.2) rfl)) (PEW.t pw_int) (fun _ _ => rfl))) (PEW.t (pw_ix (PEW.t (pw_fld x6_ok X.cl_Sight X.na_Sight_other (pt_v (i := 0) rfl (.inr (.inl rfl)) nb_self.1 nb_self.2) rfl)) (PEW.t pw_int) (fun _ _ => rfl))))) (pt_v (i := 1) rfl (.inl rfl) nb_rest.1 nb_rest.2))) (PEW.t pw_int) rfl))))))
abbrev N_Sight_worths : List Str := ["self", "number", "others", "times", "left", "end", "many", "k"]
abbrev P_Sight_worths : List Str := ["self", "number"]
theorem sc_Sight_worths : FnScope N_Sight_worths P_Sight_worths (defScope (inClass (top 10) 10)) := ⟨rfl, rfl, rfl, by decide +kernel, rfl, by decide +kernel, by decide +kernel⟩
theorem w_Sight_worths (X : Txt K w mg) (F : FT P w K mg base k) (hr : Room (2 * k + 1) (A.deeper (envOfC "Sight.worths" (defScope (inClass (top 10) 10)) s.heap.objs.size (adr K 42) cdv))) :
    PSsW (cxOf (L2.CX P w) P w K mg base N_Sight_worths "Sight.worths" (defScope (inClass (top 10) 10)) (adr K 42) cdv A outer s H E) (fun cls d _ H => E cls d H) (defBody (inClass (top 10) 10)) (m_Sight_worths (callF T k)) := by
  have hr0 := hr.mono (Nat.le_succ (2 * k))
  have h1 := hu_of hr
  have h64 := hr.units
  have h65 := room65 hr
  have tk : Takes (cxOf (L2.CX P w) P w K mg base N_Sight_worths "Sight.worths" (defScope (inClass (top 10) 10)) (adr K 42) cdv A outer s H E) (fun cls d _ H => E cls d H) := takes_of rfl rfl rfl rfl
  have po : PassesOwn (model (cxOf (L2.CX P w) P w K mg base N_Sight_worths "Sight.worths" (defScope (inClass (top 10) 10)) (adr K 42) cdv A outer s H E).prog w) (cxOf (L2.CX P w) P w K mg base N_Sight_worths "Sight.worths" (defScope (inClass (top 10) 10)) (adr K 42) cdv A outer s H E).A (cxOf (L2.CX P w) P w K mg base N_Sight_worths "Sight.worths" (defScope (inClass (top 10) 10)) (adr K 42) cdv A outer s H E).env (cxOf (L2.CX P w) P w K mg base N_Sight_worths "Sight.worths" (defScope (inClass (top 10) 10)) (adr K 42) cdv A outer s H E).xe := passes_of rfl
  exact (ssw_cons (sw_lc (i := 2) (own := [("k", 7)]) .val rfl sc_Sight_worths.nd rfl rfl (sw_true rfl rfl rfl (by decide +kernel)) (pic_seq (PEW.t (pw_meth0 x10_ok X.cl_Sight X.me_Sight_open_ones (F 34 _ rfl) hr0 tk (pw_v (i := 0) rfl (.inl rfl) nb_self.1 nb_self.2) rfl))) (blkOk_by (N := N_Sight_worths) (sc := (defScope (inClass (top 10) 10))) (by decide +kernel)) (inS_sub rfl) (fun _ _ _ _ _ => (pgw_nm (i := 7) sc_Sight_worths.nd rfl (.inl rfl) (.inr rfl))) (fun _ _ _ _ _ => (pts_1 (ptw_cmp (op_neD h64) oc_ne (pt_v (i := 7) rfl (.inl rfl) nb_k.1 nb_k.2) (pt_v (i := 1) rfl (.inr (.inl rfl)) nb_number.1 nb_number.2) rfl))) (fun _ _ _ _ _ => (pw_v (i := 7) rfl (.inl rfl) nb_k.1 nb_k.2)) (fun _ => rfl)) (ssw_cons (sw_par (i := 3) (j := 4) rfl sc_Sight_worths.nd rfl rfl (by decide) rfl rfl (pw_cons (pw_ix (PEW.t (pw_fld x3_ok X.cl_Sight X.na_Sight_times (pt_v (i := 0) rfl (.inl rfl) nb_self.1 nb_self.2) rfl)) (pt_v (i := 1) rfl (.inr (.inl rfl)) nb_number.1 nb_number.2) (fun _ _ => rfl)) (pw_cons (pw_meth0 x9_ok X.cl_Sight X.me_Sight_left (F 33 _ rfl) hr0 tk (pw_v (i := 0) rfl (.inl rfl) nb_self.1 nb_self.2) rfl) pw_nil rfl) rfl) rfl rfl) (ssw_cons (sw_set (i := 5) sc_Sight_worths.nd rfl (.inl rfl) (.inl rfl) (pw_if (ptw_cmp op_gt oc_gt (pt_v (i := 3) rfl (.inl rfl) nb_times.1 nb_times.2) (PEW.t pw_int) rfl) (pw_meth x11_ok X.cl_Sight X.me_Sight_least (F 36 _ rfl) hr0 tk (pw_v (i := 0) rfl (.inl rfl) nb_self.1 nb_self.2) (pw_cons (pw_v (i := 2) rfl (.inl rfl) nb_others.1 nb_others.2) pw_nil rfl) rfl rfl rfl) (pw_meth x12_ok X.cl_Sight X.me_Sight_most (F 37 _ rfl) hr0 tk (pw_v (i := 0) rfl (.inl rfl) nb_self.1 nb_self.2) (pw_cons (pw_v (i := 2) rfl (.inl rfl) nb_others.1 nb_others.2) pw_nil rfl) rfl rfl rfl)) rfl) (ssw_cons (sw_set (i := 6) sc_Sight_worths.nd rfl (.inl rfl) (.inl rfl) pw_non rfl) (ssw_cons (sw_if (ptw_notN (pt_v (i := 5) rfl (.inl rfl) nb_end.1 nb_end.2)) (ssw_one (sw_set (i := 6) sc_Sight_worths.nd rfl (.inl rfl) (.inl rfl) (pw_bi (id := "max") (call_max2 rfl) cb_max2 rfl X.f_max bb_max bn_max nb_max.1 (pat_cons (PEW.t pw_int) (pat_cons (PEW.t (pw_if (ptw_cmp op_gt oc_gt (pt_v (i := 3) rfl (.inl rfl) nb_times.1 nb_times.2) (PEW.t pw_int) rfl) (pw_op op_add4 oc_add (PEW.t (pw_op op_fdivN oc_div (PEW.t (pw_op op_sub oc_sub (pt_v (i := 4) rfl (.inl rfl) nb_left.1 nb_left.2) (pt_v (i := 5) rfl (.inl rfl) nb_end.1 nb_end.2))) (pt_v (i := 3) rfl (.inl rfl) nb_times.1 nb_times.2))) (PEW.t pw_int)) (pw_op op_add4 oc_add (PEW.t (pw_op op_fdivN oc_div (PEW.t (pw_op op_sub oc_sub (pt_v (i := 5) rfl (.inl rfl) nb_end.1 nb_end.2) (pt_v (i := 4) rfl (.inl rfl) nb_left.1 nb_left.2))) (PEW.t (pw_op op_sub oc_sub (PEW.t pw_int) (pt_v (i := 3) rfl (.inl rfl) nb_times.1 nb_times.2))))) (PEW.t pw_int)))) pat_nil rfl) rfl) rfl rfl) rfl)) ssw_nil) (ssw_cons (sw_if (ptw_cmp op_gt oc_gt (PEW.t (pw_ix (PEW.t (pw_fld x0_ok X.cl_Sight X.na_Sight_bounds (pt_v (i := 0) rfl (.inl rfl) nb_self.1 nb_self.2) rfl)) (pt_v (i := 1) rfl (.inr (.inl rfl)) nb_number.1 nb_number.2) (fun _ _ => rfl))) (PEW.t pw_int) rfl) (ssw_one (sw_set (i := 6) sc_Sight_worths.nd rfl (.inl rfl) (.inl rfl) (pw_if (ptw_isN (pt_v (i := 6) rfl (.inl rfl) nb_many.1 nb_many.2)) (pw_ix (PEW.t (pw_fld x0_ok X.cl_Sight X.na_Sight_bounds (pt_v (i := 0) rfl (.inl rfl) nb_self.1 nb_self.2) rfl)) (pt_v (i := 1) rfl (.inr (.inl rfl)) nb_number.1 nb_number.2) (fun _ _ => rfl)) (pw_bi (id := "min") (call_min2 rfl) cb_min2 rfl X.f_min bb_min bn_min nb_min.1 (pat_cons (pt_v (i := 6) rfl (.inl rfl) nb_many.1 nb_many.2) (pat_cons (PEW.t (pw_ix (PEW.t (pw_fld x0_ok X.cl_Sight X.na_Sight_bounds (pt_v (i := 0) rfl (.inl rfl) nb_self.1 nb_self.2) rfl)) (pt_v (i := 1) rfl (.inr (.inl rfl)) nb_number.1 nb_number.2) (fun _ _ => rfl))) pat_nil rfl) rfl) rfl rfl)) rfl)) ssw_nil) (ssw_one (sw_ret (pw_v (i := 6) rfl (.inl rfl) nb_many.1 nb_many.2)))))))))
abbrev N_shows : List Str := ["sight", "reason", "word", "rest", "one", "worth", "good"]
abbrev P_shows : List Str := ["sight", "reason"]
theorem sc_shows : FnScope N_shows P_shows (defScope (top 11)) := ⟨rfl, rfl, rfl, by decide +kernel, rfl, by decide +kernel, by decide +kernel⟩
theorem w_shows (X : Txt K w mg) (F : FT P w K mg base k) (hr : Room (2 * k + 1) (A.deeper (envOfC "shows" (defScope (top 11)) s.heap.objs.size (adr K 88) cdv))) :
    PSsW (cxOf (L2.CX P w) P w K mg base N_shows "shows" (defScope (top 11)) (adr K 88) cdv A outer s H E) (fun cls d _ H => E cls d H) (defBody (top 11)) (m_shows (callF T k)) := by
  have hr0 := hr.mono (Nat.le_succ (2 * k))
  have h1 := hu_of hr
  have h64 := hr.units
  have h65 := room65 hr
  have tk : Takes (cxOf (L2.CX P w) P w K mg base N_shows "shows" (defScope (top 11)) (adr K 88) cdv A outer s H E) (fun cls d _ H => E cls d H) := takes_of rfl rfl rfl rfl
  have po : PassesOwn (model (cxOf (L2.CX P w) P w K mg base N_shows "shows" (defScope (top 11)) (adr K 88) cdv A outer s H E).prog w) (cxOf (L2.CX P w) P w K mg base N_shows "shows" (defScope (top 11)) (adr K 88) cdv A outer s H E).A (cxOf (L2.CX P w) P w K mg base N_shows "shows" (defScope (top 11)) (adr K 88) cdv A outer s H E).env (cxOf (L2.CX P w) P w K mg base N_shows "shows" (defScope (top 11)) (adr K 88) cdv A outer s H E).xe := passes_of rfl
  exact (ssw_cons (sw_if (PWW.t (ptw_or (ptw_not (ptw_val (PEW.t (pw_isi (t := .tuple) rfl X.f_isinstance rfl X.f_tuple bb_tuple bn_tuple nb_tuple.1 (pt_v (i := 1) rfl (.inl rfl) nb_reason.1 nb_reason.2) rfl rfl)) (fun _ => rfl))) (ptw_or (ptw_cmp (op_eqD h64) oc_eq (pt_v (i := 1) rfl (.inl rfl) nb_reason.1 nb_reason.2) (PEW.t (pw_tup pw_nil)) rfl) (ptw_or1 (ptw_not (ptw_val (PEW.t (pw_isi (t := .str) rfl X.f_isinstance rfl X.f_str bb_str bn_str nb_str.1 (PEW.t (pw_ix (pt_v (i := 1) rfl (.inl rfl) nb_reason.1 nb_reason.2) (PEW.t pw_int) (fun _ _ => rfl))) rfl rfl)) (fun _ => rfl))))))) (ssw_one (sw_ret pw_bl)) ssw_nil) (ssw_cons (sw_star (i := 2) (j := 3) rfl sc_shows.nd rfl rfl (.inl rfl) (.inl rfl) (.inl rfl) (.inl rfl) rfl (pw_v (i := 1) rfl (.inl rfl) nb_reason.1 nb_reason.2) rfl rfl rfl) (ssw_cons (sw_if (ptw_cmp (op_in3 h65) oc_in (pt_v (i := 2) rfl (.inl rfl) nb_word.1 nb_word.2) (PEW.t (pw_tup (pw_cons (pw_k rfl X.k_SAME nb_SAME.1) (pw_cons (pw_k rfl X.k_FAR nb_FAR.1) pw_nil rfl) rfl))) rfl) (ssw_one (sw_ret (pw_and (PEW.t (pw_cmp (op_eqD h64) oc_eq (pt_v (i := 3) rfl (.inl rfl) nb_rest.1 nb_rest.2) (PEW.t (PEF.w (pf_lst pw_nil))) rfl)) (pw_one (pw_if (ptw_cmp (op_eqD h64) oc_eq (pt_v (i := 2) rfl (.inl rfl) nb_word.1 nb_word.2) (PEW.t (pw_k rfl X.k_SAME nb_SAME.1)) rfl) (pw_meth0 x16_ok X.cl_Sight X.me_Sight_is_same (F 41 _ rfl) hr0 tk (pw_v (i := 0) rfl (.inl rfl) nb_sight.1 nb_sight.2) rfl) (pw_meth0 x17_ok X.cl_Sight X.me_Sight_is_far (F 38 _ rfl) hr0 tk (pw_v (i := 0) rfl (.inl rfl) nb_sight.1 nb_sight.2) rfl)))))) ssw_nil) (ssw_cons (sw_if (ptw_val (PEW.t (pw_bi (id := "any") (cr_any rfl) cb_any rfl X.f_any bb_any bn_any nb_any.1 (pat_cons (PEW.t (PEF.w (pf_lc (own := [("one", 4)]) rfl sc_shows.nd (pic_seq (PEW.t (pw_cut (pt_v (i := 3) rfl (.inl rfl) nb_rest.1 nb_rest.2) pow_none (pow_some (PEW.t pw_int))))) (blkOk_by (N := N_shows) (sc := (defScope (top 11))) (by decide +kernel)) (inS_sub rfl) (fun _ _ _ _ _ => (pgw_nm (i := 4) sc_shows.nd rfl (.inl rfl) (.inr rfl))) (fun _ _ _ _ _ => pts_no) (fun _ _ _ _ _ => (pw_or (PEW.t (pw_isi (t := .bool) rfl X.f_isinstance rfl X.f_bool bb_bool bn_bool nb_bool.1 (pt_v (i := 4) rfl (.inl rfl) nb_one.1 nb_one.2) rfl rfl)) (pw_one (pw_not (PEW.t (pw_isi (t := .int) rfl X.f_isinstance rfl X.f_int bb_int bn_int nb_int.1 (pt_v (i := 4) rfl (.inl rfl) nb_one.1 nb_one.2) rfl rfl)))))) (fun _ => rfl)))) pat_nil rfl) rfl rfl)) (fun _ => rfl)) (ssw_one (sw_ret pw_bl)) ssw_nil) (ssw_cons (sw_if (ptw_cmp (op_eqD h64) oc_eq (pt_v (i := 2) rfl (.inl rfl) nb_word.1 nb_word.2) (PEW.t (pw_k rfl X.k_MOD nb_MOD.1)) rfl) (ssw_one (sw_ret (pw_and (PEW.t (pw_cmp (op_eqD h64) oc_eq (PEW.t (pw_bi (id := "len") call_len3 cb_len rfl X.f_len bb_len bn_len nb_len.1 (pat_cons (pt_v (i := 3) rfl (.inl rfl) nb_rest.1 nb_rest.2) pat_nil rfl) rfl rfl)) (PEW.t pw_int) rfl)) (pw_and (PEW.t (pw_cmp op_gt oc_gt (PEW.t (pw_ix (pt_v (i := 3) rfl (.inl rfl) nb_rest.1 nb_rest.2) (PEW.t pw_int) (fun _ _ => rfl))) (PEW.t pw_int) rfl)) (pw_one (pw_meth x15_ok X.cl_Sight X.me_Sight_is_mod (F 39 _ rfl) hr0 tk (pw_v (i := 0) rfl (.inl rfl) nb_sight.1 nb_sight.2) (pw_cons (pw_ix (pt_v (i := 3) rfl (.inl rfl) nb_rest.1 nb_rest.2) (PEW.t pw_int) (fun _ _ => rfl)) pw_nil rfl) rfl rfl rfl)))))) ssw_nil) (ssw_cons (sw_if (PWW.t (ptw_or (ptw_cmp (op_neD h64) oc_ne (pt_v (i := 2) rfl (.inl rfl) nb_word.1 nb_word.2) (PEW.t (pw_k rfl X.k_CASES nb_CASES.1)) rfl) (ptw_or (ptw_cmp (op_neD h64) oc_ne (PEW.t (pw_bi (id := "len") call_len3 cb_len rfl X.f_len bb_len bn_len nb_len.1 (pat_cons (pt_v (i := 3) rfl (.inl rfl) nb_rest.1 nb_rest.2) pat_nil rfl) rfl rfl)) (PEW.t pw_int) rfl) (ptw_or (ptw_cmp (op_notin3 h65) oc_notin (PEW.t (pw_ix (pt_v (i := 3) rfl (.inl rfl) nb_rest.1 nb_rest.2) (PEW.t pw_int) (fun _ _ => rfl))) (PEW.t (pw_meth0 x10_ok X.cl_Sight X.me_Sight_open_ones (F 34 _ rfl) hr0 tk (pw_v (i := 0) rfl (.inl rfl) nb_sight.1 nb_sight.2) rfl)) rfl) (ptw_or1 (ptw_not (ptw_val (PEW.t (pw_isi (t := .tuple) rfl X.f_isinstance rfl X.f_tuple bb_tuple bn_tuple nb_tuple.1 (PEW.t (pw_ix (pt_v (i := 3) rfl (.inl rfl) nb_rest.1 nb_rest.2) (PEW.t pw_int) (fun _ _ => rfl))) rfl rfl)) (fun _ => rfl)))))))) (ssw_one (sw_ret pw_bl)) ssw_nil) (ssw_cons (sw_if (ptw_cmp (op_neD h64) oc_ne (PEW.t (pw_meth x14_ok X.cl_Sight X.me_Sight_worths (F 42 _ rfl) hr0 tk (pw_v (i := 0) rfl (.inl rfl) nb_sight.1 nb_sight.2) (pw_cons (pw_ix (pt_v (i := 3) rfl (.inl rfl) nb_rest.1 nb_rest.2) (PEW.t pw_int) (fun _ _ => rfl)) pw_nil rfl) rfl rfl rfl)) (PEW.t (pw_bi (id := "len") call_len3 cb_len rfl X.f_len bb_len bn_len nb_len.1 (pat_cons (PEW.t (pw_ix (pt_v (i := 3) rfl (.inl rfl) nb_rest.1 nb_rest.2) (PEW.t pw_int) (fun _ _ => rfl))) pat_nil rfl) rfl rfl)) rfl) (ssw_one (sw_ret pw_bl)) ssw_nil) (ssw_cons (sw_for po rfl (pis_enu rfl X.f_enumerate (pw_cons (pw_ix (pt_v (i := 3) rfl (.inl rfl) nb_rest.1 nb_rest.2) (PEW.t pw_int) (fun _ _ => rfl)) pw_nil rfl) rfl) (pgw_tu rfl (pgsw_cons (pgw_nm (i := 5) sc_shows.nd rfl (.inl rfl) (.inl rfl)) (pgsw_cons (pgw_nm (i := 4) sc_shows.nd rfl (.inl rfl) (.inl rfl)) pgsw_nil rfl) rfl) rfl rfl) (ssw_cons (sw_ixD h1 (PEW.t (pw_fld x1_ok X.cl_Sight X.na_Sight_known (pt_v (i := 0) rfl (.inl rfl) nb_sight.1 nb_sight.2) rfl)) (PEW.t (pw_ix (pt_v (i := 3) rfl (.inl rfl) nb_rest.1 nb_rest.2) (PEW.t pw_int) (fun _ _ => rfl))) (pw_v (i := 5) rfl (.inl rfl) nb_worth.1 nb_worth.2) rfl) (ssw_cons (sw_set (i := 6) sc_shows.nd rfl (.inl rfl) (.inl rfl) (pw_call (F 88 _ rfl) hr0 tk rfl X.g_shows nb_shows.1 (pw_cons (pw_v (i := 0) rfl (.inl rfl) nb_sight.1 nb_sight.2) (pw_cons (pw_v (i := 4) rfl (.inl rfl) nb_one.1 nb_one.2) pw_nil rfl) rfl) rfl rfl) rfl) (ssw_cons (sw_pop (pw_fld x1_ok X.cl_Sight X.na_Sight_known (pt_v (i := 0) rfl (.inl rfl) nb_sight.1 nb_sight.2) rfl) (pw_ix (pt_v (i := 3) rfl (.inl rfl) nb_rest.1 nb_rest.2) (PEW.t pw_int) (fun _ _ => rfl)) ⟨rfl, rfl, rfl, rfl⟩ rfl) (ssw_one (sw_if (ptw_not (ptw_val (pt_v (i := 6) rfl (.inl rfl) nb_good.1 nb_good.2) (fun _ => rfl))) (ssw_one (sw_ret pw_bl)) ssw_nil))))) (fun _ => rfl)) (ssw_one (sw_ret pw_bl))))))))))
abbrev N_is_whole : List Str := ["thing", "low", "high"]
abbrev P_is_whole : List Str := ["thing", "low", "high"]
theorem sc_is_whole : FnScope N_is_whole P_is_whole (defScope (top 33)) := ⟨rfl, rfl, rfl, by decide +kernel, rfl, by decide +kernel, by decide +kernel⟩
theorem w_is_whole (X : Txt K w mg) (F : FT P w K mg base k) (hr : Room (2 * k + 1) (A.deeper (envOfC "is_whole" (defScope (top 33)) s.heap.objs.size (adr K 1) cdv))) :
    PSsW (cxOf (L2.CX P w) P w K mg base N_is_whole "is_whole" (defScope (top 33)) (adr K 1) cdv A outer s H E) (fun cls d _ H => E cls d H) (defBody (top 33)) (m_is_whole (callF T k)) := by
  have hr0 := hr.mono (Nat.le_succ (2 * k))
  have h1 := hu_of hr
  have h64 := hr.units
  have h65 := room65 hr
  have tk : Takes (cxOf (L2.CX P w) P w K mg base N_is_whole "is_whole" (defScope (top 33)) (adr K 1) cdv A outer s H E) (fun cls d _ H => E cls d H) := takes_of rfl rfl rfl rfl
  have po : PassesOwn (model (cxOf (L2.CX P w) P w K mg base N_is_whole "is_whole" (defScope (top 33)) (adr K 1) cdv A outer s H E).prog w) (cxOf (L2.CX P w) P w K mg base N_is_whole "is_whole" (defScope (top 33)) (adr K 1) cdv A outer s H E).A (cxOf (L2.CX P w) P w K mg base N_is_whole "is_whole" (defScope (top 33)) (adr K 1) cdv A outer s H E).env (cxOf (L2.CX P w) P w K mg base N_is_whole "is_whole" (defScope (top 33)) (adr K 1) cdv A outer s H E).xe := passes_of rfl
  exact (ssw_one (sw_ret (pw_and (PEW.t (pw_isi (t := .int) rfl X.f_isinstance rfl X.f_int bb_int bn_int nb_int.1 (pt_v (i := 0) rfl (.inl rfl) nb_thing.1 nb_thing.2) rfl rfl)) (pw_and (PEW.t (pw_not (PEW.t (pw_isi (t := .bool) rfl X.f_isinstance rfl X.f_bool bb_bool bn_bool nb_bool.1 (pt_v (i := 0) rfl (.inl rfl) nb_thing.1 nb_thing.2) rfl rfl)))) (pw_one (pw_chain op_le op_le oc_le oc_le (pt_v (i := 1) rfl (.inl rfl) nb_low.1 nb_low.2) (pt_v (i := 0) rfl (.inl rfl) nb_thing.1 nb_thing.2) (pt_v (i := 2) rfl (.inl rfl) nb_high.1 nb_high.2) rfl))))))
abbrev N_is_name : List Str := ["thing", "sign"]
abbrev P_is_name : List Str := ["thing"]
theorem sc_is_name : FnScope N_is_name P_is_name (defScope (top 34)) := ⟨rfl, rfl, rfl, by decide +kernel, rfl, by decide +kernel, by decide +kernel⟩
theorem w_is_name (X : Txt K w mg) (F : FT P w K mg base k) (hr : Room (2 * k + 1) (A.deeper (envOfC "is_name" (defScope (top 34)) s.heap.objs.size (adr K 2) cdv))) :
    PSsW (cxOf (L2.CX P w) P w K mg base N_is_name "is_name" (defScope (top 34)) (adr K 2) cdv A outer s H E) (fun cls d _ H => E cls d H) (defBody (top 34)) (m_is_name (callF T k)) := by
  have hr0 := hr.mono (Nat.le_succ (2 * k))
  have h1 := hu_of hr
  have h64 := hr.units
  have h65 := room65 hr
  have tk : Takes (cxOf (L2.CX P w) P w K mg base N_is_name "is_name" (defScope (top 34)) (adr K 2) cdv A outer s H E) (fun cls d _ H => E cls d H) := takes_of rfl rfl rfl rfl
  have po : PassesOwn (model (cxOf (L2.CX P w) P w K mg base N_is_name "is_name" (defScope (top 34)) (adr K 2) cdv A outer s H E).prog w) (cxOf (L2.CX P w) P w K mg base N_is_name "is_name" (defScope (top 34)) (adr K 2) cdv A outer s H E).A (cxOf (L2.CX P w) P w K mg base N_is_name "is_name" (defScope (top 34)) (adr K 2) cdv A outer s H E).env (cxOf (L2.CX P w) P w K mg base N_is_name "is_name" (defScope (top 34)) (adr K 2) cdv A outer s H E).xe := passes_of rfl
  exact (ssw_cons (sw_if (PWW.t (ptw_or (ptw_not (ptw_val (PEW.t (pw_isi (t := .str) rfl X.f_isinstance rfl X.f_str bb_str bn_str nb_str.1 (pt_v (i := 0) rfl (.inl rfl) nb_thing.1 nb_thing.2) rfl rfl)) (fun _ => rfl))) (ptw_or1 (ptw_not (ptw_chain op_le op_le oc_le oc_le (PEW.t pw_int) (PEW.t (pw_bi (id := "len") call_len3 cb_len rfl X.f_len bb_len bn_len nb_len.1 (pat_cons (pt_v (i := 0) rfl (.inl rfl) nb_thing.1 nb_thing.2) pat_nil rfl) rfl rfl)) (PEW.t (pw_k rfl X.k_MOST_NAME nb_MOST_NAME.1)) rfl))))) (ssw_one (sw_ret pw_bl)) ssw_nil) (ssw_one (sw_ret (pw_bi (id := "all") (cr_all rfl) cb_all rfl X.f_all bb_all bn_all nb_all.1 (pat_cons (PEW.t (PEF.w (pf_lc (own := [("sign", 1)]) rfl sc_is_name.nd (PIS.c (pis_str (pt_v (i := 0) rfl (.inl rfl) nb_thing.1 nb_thing.2))) (blkOk_by (N := N_is_name) (sc := (defScope (top 34))) (by decide +kernel)) (inS_sub rfl) (fun _ _ _ _ _ => (pgw_nm (i := 1) sc_is_name.nd rfl (.inl rfl) (.inr rfl))) (fun _ _ _ _ _ => pts_no) (fun _ _ _ _ _ => (pw_cmp (op_in3 h65) oc_in (pt_v (i := 1) rfl (.inl rfl) nb_sign.1 nb_sign.2) (PEW.t (pw_k rfl X.k_LETTERS nb_LETTERS.1)) rfl)) (fun _ => rfl)))) pat_nil rfl) rfl rfl))))
abbrev N_blocks_of : List Str := ["deed"]
abbrev P_blocks_of : List Str := ["deed"]
theorem sc_blocks_of : FnScope N_blocks_of P_blocks_of (defScope (top 35)) := ⟨rfl, rfl, rfl, by decide +kernel, rfl, by decide +kernel, by decide +kernel⟩
theorem w_blocks_of (X : Txt K w mg) (F : FT P w K mg base k) (hr : Room (2 * k + 1) (A.deeper (envOfC "blocks_of" (defScope (top 35)) s.heap.objs.size (adr K 3) cdv))) :
    PSsW (cxOf (L2.CX P w) P w K mg base N_blocks_of "blocks_of" (defScope (top 35)) (adr K 3) cdv A outer s H E) (fun cls d _ H => E cls d H) (defBody (top 35)) (m_blocks_of (callF T k)) := by
  have hr0 := hr.mono (Nat.le_succ (2 * k))
  have h1 := hu_of hr
  have h64 := hr.units
  have h65 := room65 hr
  have tk : Takes (cxOf (L2.CX P w) P w K mg base N_blocks_of "blocks_of" (defScope (top 35)) (adr K 3) cdv A outer s H E) (fun cls d _ H => E cls d H) := takes_of rfl rfl rfl rfl
  have po : PassesOwn (model (cxOf (L2.CX P w) P w K mg base N_blocks_of "blocks_of" (defScope (top 35)) (adr K 3) cdv A outer s H E).prog w) (cxOf (L2.CX P w) P w K mg base N_blocks_of "blocks_of" (defScope (top 35)) (adr K 3) cdv A outer s H E).A (cxOf (L2.CX P w) P w K mg base N_blocks_of "blocks_of" (defScope (top 35)) (adr K 3) cdv A outer s H E).env (cxOf (L2.CX P w) P w K mg base N_blocks_of "blocks_of" (defScope (top 35)) (adr K 3) cdv A outer s H E).xe := passes_of rfl
  exact (ssw_cons (sw_if (ptw_cmp (op_eqD h64) oc_eq (PEW.t (pw_ix (pt_v (i := 0) rfl (.inl rfl) nb_deed.1 nb_deed.2) (PEW.t pw_int) (fun _ _ => rfl))) (PEW.t (pw_k rfl X.k_IF nb_IF.1)) rfl) (ssw_one (sw_ret (PEF.w (pf_lst (pw_cons (pw_ix (pt_v (i := 0) rfl (.inl rfl) nb_deed.1 nb_deed.2) (PEW.t pw_int) (fun _ _ => rfl)) (pw_cons (pw_ix (pt_v (i := 0) rfl (.inl rfl) nb_deed.1 nb_deed.2) (PEW.t pw_int) (fun _ _ => rfl)) pw_nil rfl) rfl))))) ssw_nil) (ssw_one (sw_ret (pw_if (ptw_cmp (op_in3 h65) oc_in (PEW.t (pw_ix (pt_v (i := 0) rfl (.inl rfl) nb_deed.1 nb_deed.2) (PEW.t pw_int) (fun _ _ => rfl))) (PEW.t (pw_tup (pw_cons (pw_k rfl X.k_LOOP nb_LOOP.1) (pw_cons (pw_k rfl X.k_TURNS nb_TURNS.1) pw_nil rfl) rfl))) rfl) (PEF.w (pf_lst (pw_cons (pw_ix (pt_v (i := 0) rfl (.inl rfl) nb_deed.1 nb_deed.2) (PEW.t pw_int) (fun _ _ => rfl)) pw_nil rfl))) (PEF.w (pf_lst pw_nil))))))
abbrev N_is_place : List Str := ["place", "turns", "row", "names", "k"]
abbrev P_is_place : List Str := ["place", "turns"]
theorem sc_is_place : FnScope N_is_place P_is_place (defScope (top 36)) := ⟨rfl, rfl, rfl, by decide +kernel, rfl, by decide +kernel, by decide +kernel⟩
theorem w_is_place (X : Txt K w mg) (F : FT P w K mg base k) (hr : Room (2 * k + 1) (A.deeper (envOfC "is_place" (defScope (top 36)) s.heap.objs.size (adr K 4) cdv))) :
    PSsW (cxOf (L2.CX P w) P w K mg base N_is_place "is_place" (defScope (top 36)) (adr K 4) cdv A outer s H E) (fun cls d _ H => E cls d H) (defBody (top 36)) (m_is_place (callF T k)) := by
  have hr0 := hr.mono (Nat.le_succ (2 * k))
  have h1 := hu_of hr
  have h64 := hr.units
  have h65 := room65 hr
  have tk : Takes (cxOf (L2.CX P w) P w K mg base N_is_place "is_place" (defScope (top 36)) (adr K 4) cdv A outer s H E) (fun cls d _ H => E cls d H) := takes_of rfl rfl rfl rfl
  have po : PassesOwn (model (cxOf (L2.CX P w) P w K mg base N_is_place "is_place" (defScope (top 36)) (adr K 4) cdv A outer s H E).prog w) (cxOf (L2.CX P w) P w K mg base N_is_place "is_place" (defScope (top 36)) (adr K 4) cdv A outer s H E).A (cxOf (L2.CX P w) P w K mg base N_is_place "is_place" (defScope (top 36)) (adr K 4) cdv A outer s H E).env (cxOf (L2.CX P w) P w K mg base N_is_place "is_place" (defScope (top 36)) (adr K 4) cdv A outer s H E).xe := passes_of rfl
  exact (ssw_cons (sw_if (PWW.t (ptw_or (ptw_not (ptw_val (PEW.t (pw_isi (t := .tuple) rfl X.f_isinstance rfl X.f_tuple bb_tuple bn_tuple nb_tuple.1 (pt_v (i := 0) rfl (.inl rfl) nb_place.1 nb_place.2) rfl rfl)) (fun _ => rfl))) (ptw_or (ptw_cmp (op_neD h64) oc_ne (PEW.t (pw_bi (id := "len") call_len3 cb_len rfl X.f_len bb_len bn_len nb_len.1 (pat_cons (pt_v (i := 0) rfl (.inl rfl) nb_place.1 nb_place.2) pat_nil rfl) rfl rfl)) (PEW.t pw_int) rfl) (ptw_or1 (ptw_not (ptw_val (PEW.t (pw_isi (t := .tuple) rfl X.f_isinstance rfl X.f_tuple bb_tuple bn_tuple nb_tuple.1 (PEW.t (pw_ix (pt_v (i := 0) rfl (.inl rfl) nb_place.1 nb_place.2) (PEW.t pw_int) (fun _ _ => rfl))) rfl rfl)) (fun _ => rfl))))))) (ssw_one (sw_ret pw_bl)) ssw_nil) (ssw_cons (sw_if (PWW.t (ptw_or (ptw_not (ptw_val (PEW.t (pw_call (F 1 _ rfl) hr0 tk rfl X.g_is_whole nb_is_whole.1 (pw_cons (pw_ix (pt_v (i := 0) rfl (.inl rfl) nb_place.1 nb_place.2) (PEW.t pw_int) (fun _ _ => rfl)) (pw_cons (pw_neg (PEW.t (pw_k rfl X.k_MOST_TIMES nb_MOST_TIMES.1))) (pw_cons (pw_k rfl X.k_MOST_TIMES nb_MOST_TIMES.1) pw_nil rfl) rfl) rfl) rfl rfl)) (fun _ => rfl))) (ptw_or1 (ptw_not (ptw_val (PEW.t (pw_call (F 1 _ rfl) hr0 tk rfl X.g_is_whole nb_is_whole.1 (pw_cons (pw_ix (pt_v (i := 0) rfl (.inl rfl) nb_place.1 nb_place.2) (PEW.t pw_int) (fun _ _ => rfl)) (pw_cons (pw_neg (PEW.t (pw_k rfl X.k_MOST_NUMBER nb_MOST_NUMBER.1))) (pw_cons (pw_k rfl X.k_MOST_NUMBER nb_MOST_NUMBER.1) pw_nil rfl) rfl) rfl) rfl rfl)) (fun _ => rfl)))))) (ssw_one (sw_ret pw_bl)) ssw_nil) (ssw_cons (sw_for po rfl (pis_seq (pw_ix (pt_v (i := 0) rfl (.inl rfl) nb_place.1 nb_place.2) (PEW.t pw_int) (fun _ _ => rfl))) (pgw_nm (i := 2) sc_is_place.nd rfl (.inl rfl) (.inl rfl)) (ssw_cons (sw_if (PWW.t (ptw_or (ptw_not (ptw_val (PEW.t (pw_isi (t := .tuple) rfl X.f_isinstance rfl X.f_tuple bb_tuple bn_tuple nb_tuple.1 (pt_v (i := 2) rfl (.inl rfl) nb_row.1 nb_row.2) rfl rfl)) (fun _ => rfl))) (ptw_or (ptw_cmp (op_neD h64) oc_ne (PEW.t (pw_bi (id := "len") call_len3 cb_len rfl X.f_len bb_len bn_len nb_len.1 (pat_cons (pt_v (i := 2) rfl (.inl rfl) nb_row.1 nb_row.2) pat_nil rfl) rfl rfl)) (PEW.t pw_int) rfl) (ptw_or (ptw_not (ptw_val (PEW.t (pw_isi (t := .str) rfl X.f_isinstance rfl X.f_str bb_str bn_str nb_str.1 (PEW.t (pw_ix (pt_v (i := 2) rfl (.inl rfl) nb_row.1 nb_row.2) (PEW.t pw_int) (fun _ _ => rfl))) rfl rfl)) (fun _ => rfl))) (ptw_or1 (ptw_cmp (op_notin3 h65) oc_notin (PEW.t (pw_ix (pt_v (i := 2) rfl (.inl rfl) nb_row.1 nb_row.2) (PEW.t pw_int) (fun _ _ => rfl))) (pt_v (i := 1) rfl (.inl rfl) nb_turns.1 nb_turns.2) rfl)))))) (ssw_one (sw_ret pw_bl)) ssw_nil) (ssw_one (sw_if (ptw_not (ptw_val (PEW.t (pw_call (F 1 _ rfl) hr0 tk rfl X.g_is_whole nb_is_whole.1 (pw_cons (pw_ix (pt_v (i := 2) rfl (.inl rfl) nb_row.1 nb_row.2) (PEW.t pw_int) (fun _ _ => rfl)) (pw_cons (pw_neg (PEW.t (pw_k rfl X.k_MOST_TIMES nb_MOST_TIMES.1))) (pw_cons (pw_k rfl X.k_MOST_TIMES nb_MOST_TIMES.1) pw_nil rfl) rfl) rfl) rfl rfl)) (fun _ => rfl))) (ssw_one (sw_ret pw_bl)) ssw_nil))) (fun _ => rfl)) (ssw_cons (sw_set (i := 3) sc_is_place.nd rfl (.inr rfl) (.inl rfl) (PEF.w (pf_lc (own := [("row", 2)]) rfl sc_is_place.nd (pic_seq (PEW.t (pw_ix (pt_v (i := 0) rfl (.inl rfl) nb_place.1 nb_place.2) (PEW.t pw_int) (fun _ _ => rfl)))) (blkOk_by (N := N_is_place) (sc := (defScope (top 36))) (by decide +kernel)) (inS_sub rfl) (fun _ _ _ _ _ => (pgw_nm (i := 2) sc_is_place.nd rfl (.inl rfl) (.inr rfl))) (fun _ _ _ _ _ => pts_no) (fun _ _ _ _ _ => (pw_ix (pt_v (i := 2) rfl (.inl rfl) nb_row.1 nb_row.2) (PEW.t pw_int) (fun _ _ => rfl))) (fun _ => rfl))) rfl) (ssw_one (sw_ret (pw_bi (id := "all") (cr_all rfl) cb_all rfl X.f_all bb_all bn_all nb_all.1 (pat_cons (PEW.t (PEF.w (pf_lc (own := [("k", 4)]) rfl sc_is_place.nd (PIS.c (pis_rg1 rfl X.f_range (pw_cons (pw_op op_sub oc_sub (PEW.t (pw_bi (id := "len") call_len3 cb_len rfl X.f_len bb_len bn_len nb_len.1 (pat_cons (pt_v (i := 3) rfl (.inr (.inl rfl)) nb_names.1 nb_names.2) pat_nil rfl) rfl rfl)) (PEW.t pw_int)) pw_nil rfl) rfl)) (blkOk_by (N := N_is_place) (sc := (defScope (top 36))) (by decide +kernel)) (inS_sub rfl) (fun _ _ _ _ _ => (pgw_nm (i := 4) sc_is_place.nd rfl (.inl rfl) (.inr rfl))) (fun _ _ _ _ _ => pts_no) (fun _ _ _ _ _ => (pw_cmp op_lt4 oc_lt (PEW.t (pw_ix (pt_v (i := 3) rfl (.inr (.inl rfl)) nb_names.1 nb_names.2) (pt_v (i := 4) rfl (.inl rfl) nb_k.1 nb_k.2) (fun _ _ => rfl))) (PEW.t (pw_ix (pt_v (i := 3) rfl (.inr (.inl rfl)) nb_names.1 nb_names.2) (PEW.t (pw_op op_add4 oc_add (pt_v (i := 4) rfl (.inl rfl) nb_k.1 nb_k.2) (PEW.t pw_int))) (fun _ _ => rfl))) rfl)) (fun _ => rfl)))) pat_nil rfl) rfl rfl)))))))
abbrev N_is_test : List Str := ["test"]
abbrev P_is_test : List Str := ["test"]
theorem sc_is_test : FnScope N_is_test P_is_test (defScope (top 37)) := ⟨rfl, rfl, rfl, by decide +kernel, rfl, by decide +kernel, by decide +kernel⟩
theorem w_is_test (X : Txt K w mg) (F : FT P w K mg base k) (hr : Room (2 * k + 1) (A.deeper (envOfC "is_test" (defScope (top 37)) s.heap.objs.size (adr K 5) cdv))) :
    PSsW (cxOf (L2.CX P w) P w K mg base N_is_test "is_test" (defScope (top 37)) (adr K 5) cdv A outer s H E) (fun cls d _ H => E cls d H) (defBody (top 37)) (m_is_test (callF T k)) := by
  have hr0 := hr.mono (Nat.le_succ (2 * k))
  have h1 := hu_of hr
  have h64 := hr.units
  have h65 := room65 hr
  have tk : Takes (cxOf (L2.CX P w) P w K mg base N_is_test "is_test" (defScope (top 37)) (adr K 5) cdv A outer s H E) (fun cls d _ H => E cls d H) := takes_of rfl rfl rfl rfl
  have po : PassesOwn (model (cxOf (L2.CX P w) P w K mg base N_is_test "is_test" (defScope (top 37)) (adr K 5) cdv A outer s H E).prog w) (cxOf (L2.CX P w) P w K mg base N_is_test "is_test" (defScope (top 37)) (adr K 5) cdv A outer s H E).A (cxOf (L2.CX P w) P w K mg base N_is_test "is_test" (defScope (top 37)) (adr K 5) cdv A outer s H E).env (cxOf (L2.CX P w) P w K mg base N_is_test "is_test" (defScope (top 37)) (adr K 5) cdv A outer s H E).xe := passes_of rfl
  exact (ssw_cons (sw_if (PWW.t (ptw_or (ptw_not (ptw_val (PEW.t (pw_isi (t := .tuple) rfl X.f_isinstance rfl X.f_tuple bb_tuple bn_tuple nb_tuple.1 (pt_v (i := 0) rfl (.inl rfl) nb_test.1 nb_test.2) rfl rfl)) (fun _ => rfl))) (ptw_or (ptw_cmp op_lt4 oc_lt (PEW.t (pw_bi (id := "len") call_len3 cb_len rfl X.f_len bb_len bn_len nb_len.1 (pat_cons (pt_v (i := 0) rfl (.inl rfl) nb_test.1 nb_test.2) pat_nil rfl) rfl rfl)) (PEW.t pw_int) rfl) (ptw_or1 (ptw_not (ptw_val (PEW.t (pw_isi (t := .str) rfl X.f_isinstance rfl X.f_str bb_str bn_str nb_str.1 (PEW.t (pw_ix (pt_v (i := 0) rfl (.inl rfl) nb_test.1 nb_test.2) (PEW.t pw_int) (fun _ _ => rfl))) rfl rfl)) (fun _ => rfl))))))) (ssw_one (sw_ret pw_bl)) ssw_nil) (ssw_cons (sw_if (ptw_cmp (op_eqD h64) oc_eq (PEW.t (pw_ix (pt_v (i := 0) rfl (.inl rfl) nb_test.1 nb_test.2) (PEW.t pw_int) (fun _ _ => rfl))) (PEW.t (pw_k rfl X.k_REST nb_REST.1)) rfl) (ssw_one (sw_ret (pw_and (PEW.t (pw_cmp (op_eqD h64) oc_eq (PEW.t (pw_bi (id := "len") call_len3 cb_len rfl X.f_len bb_len bn_len nb_len.1 (pat_cons (pt_v (i := 0) rfl (.inl rfl) nb_test.1 nb_test.2) pat_nil rfl) rfl rfl)) (PEW.t pw_int) rfl)) (pw_and (PEW.t (pw_call (F 1 _ rfl) hr0 tk rfl X.g_is_whole nb_is_whole.1 (pw_cons (pw_ix (pt_v (i := 0) rfl (.inl rfl) nb_test.1 nb_test.2) (PEW.t pw_int) (fun _ _ => rfl)) (pw_cons pw_int (pw_cons pw_int pw_nil rfl) rfl) rfl) rfl rfl)) (pw_one (pw_call (F 1 _ rfl) hr0 tk rfl X.g_is_whole nb_is_whole.1 (pw_cons (pw_ix (pt_v (i := 0) rfl (.inl rfl) nb_test.1 nb_test.2) (PEW.t pw_int) (fun _ _ => rfl)) (pw_cons pw_int (pw_cons (pw_op op_sub oc_sub (PEW.t (pw_ix (pt_v (i := 0) rfl (.inl rfl) nb_test.1 nb_test.2) (PEW.t pw_int) (fun _ _ => rfl))) (PEW.t pw_int)) pw_nil rfl) rfl) rfl) rfl rfl)))))) ssw_nil) (ssw_one (sw_ret (pw_and (PEW.t (pw_cmp (op_in3 h65) oc_in (PEW.t (pw_ix (pt_v (i := 0) rfl (.inl rfl) nb_test.1 nb_test.2) (PEW.t pw_int) (fun _ _ => rfl))) (PEW.t (pw_k rfl X.k_TESTS nb_TESTS.1)) rfl)) (pw_and (PEW.t (pw_cmp (op_eqD h64) oc_eq (PEW.t (pw_bi (id := "len") call_len3 cb_len rfl X.f_len bb_len bn_len nb_len.1 (pat_cons (pt_v (i := 0) rfl (.inl rfl) nb_test.1 nb_test.2) pat_nil rfl) rfl rfl)) (PEW.t pw_int) rfl)) (pw_one (pw_call (F 1 _ rfl) hr0 tk rfl X.g_is_whole nb_is_whole.1 (pw_cons (pw_ix (pt_v (i := 0) rfl (.inl rfl) nb_test.1 nb_test.2) (PEW.t pw_int) (fun _ _ => rfl)) (pw_cons pw_int (pw_cons (pw_k rfl X.k_MOST_NUMBER nb_MOST_NUMBER.1) pw_nil rfl) rfl) rfl) rfl rfl))))))))
abbrev N_is_worth : List Str := ["worth", "turns", "deep", "word", "parts", "part"]
abbrev P_is_worth : List Str := ["worth", "turns", "deep"]
theorem sc_is_worth : FnScope N_is_worth P_is_worth (defScope (top 38)) := ⟨rfl, rfl, rfl, by decide +kernel, rfl, by decide +kernel, by decide +kernel⟩
theorem w_is_worth (X : Txt K w mg) (F : FT P w K mg base k) (hr : Room (2 * k + 1) (A.deeper (envOfC "is_worth" (defScope (top 38)) s.heap.objs.size (adr K 6) cdv))) :
    PSsW (cxOf (L2.CX P w) P w K mg base N_is_worth "is_worth" (defScope (top 38)) (adr K 6) cdv A outer s H E) (fun cls d _ H => E cls d H) (defBody (top 38)) (m_is_worth (callF T k)) := by
  have hr0 := hr.mono (Nat.le_succ (2 * k))
  have h1 := hu_of hr
  have h64 := hr.units
  have h65 := room65 hr
  have tk : Takes (cxOf (L2.CX P w) P w K mg base N_is_worth "is_worth" (defScope (top 38)) (adr K 6) cdv A outer s H E) (fun cls d _ H => E cls d H) := takes_of rfl rfl rfl rfl
  have po : PassesOwn (model (cxOf (L2.CX P w) P w K mg base N_is_worth "is_worth" (defScope (top 38)) (adr K 6) cdv A outer s H E).prog w) (cxOf (L2.CX P w) P w K mg base N_is_worth "is_worth" (defScope (top 38)) (adr K 6) cdv A outer s H E).A (cxOf (L2.CX P w) P w K mg base N_is_worth "is_worth" (defScope (top 38)) (adr K 6) cdv A outer s H E).env (cxOf (L2.CX P w) P w K mg base N_is_worth "is_worth" (defScope (top 38)) (adr K 6) cdv A outer s H E).xe := passes_of rfl
  exact (ssw_cons (sw_if (PWW.t (ptw_or (ptw_not (ptw_val (PEW.t (pw_isi (t := .tuple) rfl X.f_isinstance rfl X.f_tuple bb_tuple bn_tuple nb_tuple.1 (pt_v (i := 0) rfl (.inl rfl) nb_worth.1 nb_worth.2) rfl rfl)) (fun _ => rfl))) (ptw_or (ptw_cmp (op_eqD h64) oc_eq (pt_v (i := 0) rfl (.inl rfl) nb_worth.1 nb_worth.2) (PEW.t (pw_tup pw_nil)) rfl) (ptw_or (ptw_cmp op_gt oc_gt (pt_v (i := 2) rfl (.inr (.inl rfl)) nb_deep.1 nb_deep.2) (PEW.t (pw_k rfl X.k_MOST_WORTHS nb_MOST_WORTHS.1)) rfl) (ptw_or1 (ptw_not (ptw_val (PEW.t (pw_isi (t := .str) rfl X.f_isinstance rfl X.f_str bb_str bn_str nb_str.1 (PEW.t (pw_ix (pt_v (i := 0) rfl (.inl rfl) nb_worth.1 nb_worth.2) (PEW.t pw_int) (fun _ _ => rfl))) rfl rfl)) (fun _ => rfl)))))))) (ssw_one (sw_ret pw_bl)) ssw_nil) (ssw_cons (sw_star (i := 3) (j := 4) rfl sc_is_worth.nd rfl rfl (.inl rfl) (.inl rfl) (.inl rfl) (.inl rfl) rfl (pw_v (i := 0) rfl (.inl rfl) nb_worth.1 nb_worth.2) rfl rfl rfl) (ssw_cons (sw_if (ptw_cmp (op_in3 h65) oc_in (pt_v (i := 3) rfl (.inl rfl) nb_word.1 nb_word.2) (PEW.t (pw_tup (pw_cons (pw_str x13_ok) (pw_cons (pw_str x24_ok) pw_nil rfl) rfl))) rfl) (ssw_one (sw_ret (pw_cmp (op_eqD h64) oc_eq (pt_v (i := 4) rfl (.inl rfl) nb_parts.1 nb_parts.2) (PEW.t (PEF.w (pf_lst pw_nil))) rfl))) ssw_nil) (ssw_cons (sw_if (ptw_cmp (op_in3 h65) oc_in (pt_v (i := 3) rfl (.inl rfl) nb_word.1 nb_word.2) (PEW.t (pw_tup (pw_cons (pw_str x22_ok) (pw_cons (pw_str x23_ok) pw_nil rfl) rfl))) rfl) (ssw_one (sw_ret (pw_and (PEW.t (pw_cmp (op_eqD h64) oc_eq (PEW.t (pw_bi (id := "len") call_len3 cb_len rfl X.f_len bb_len bn_len nb_len.1 (pat_cons (pt_v (i := 4) rfl (.inl rfl) nb_parts.1 nb_parts.2) pat_nil rfl) rfl rfl)) (PEW.t pw_int) rfl)) (pw_one (pw_bi (id := "all") (cr_all rfl) cb_all rfl X.f_all bb_all bn_all nb_all.1 (pat_cons (PEW.t (PEF.w (pf_lc (own := [("part", 5)]) rfl sc_is_worth.nd (pic_seq (pt_v (i := 4) rfl (.inl rfl) nb_parts.1 nb_parts.2)) (blkOk_by (N := N_is_worth) (sc := (defScope (top 38))) (by decide +kernel)) (inS_sub rfl) (fun _ _ _ _ _ => (pgw_nm (i := 5) sc_is_worth.nd rfl (.inl rfl) (.inr rfl))) (fun _ _ _ _ _ => pts_no) (fun _ _ _ _ _ => (pw_call (F 6 _ rfl) hr0 takes0 rfl X.g_is_worth nb_is_worth.1 (pw_cons (pw_v (i := 5) rfl (.inl rfl) nb_part.1 nb_part.2) (pw_cons (pw_v (i := 1) rfl (.inr (.inl rfl)) nb_turns.1 nb_turns.2) (pw_cons (pw_op op_add4 oc_add (pt_v (i := 2) rfl (.inr (.inl rfl)) nb_deep.1 nb_deep.2) (PEW.t pw_int)) pw_nil rfl) rfl) rfl) rfl rfl)) (fun _ => rfl)))) pat_nil rfl) rfl rfl))))) ssw_nil) (ssw_cons (sw_if (ptw_cmp (op_neD h64) oc_ne (PEW.t (pw_bi (id := "len") call_len3 cb_len rfl X.f_len bb_len bn_len nb_len.1 (pat_cons (pt_v (i := 4) rfl (.inl rfl) nb_parts.1 nb_parts.2) pat_nil rfl) rfl rfl)) (PEW.t pw_int) rfl) (ssw_one (sw_ret pw_bl)) ssw_nil) (ssw_cons (sw_if (ptw_cmp (op_eqD h64) oc_eq (pt_v (i := 3) rfl (.inl rfl) nb_word.1 nb_word.2) (PEW.t (pw_str x21_ok)) rfl) (ssw_one (sw_ret (pw_call (F 1 _ rfl) hr0 tk rfl X.g_is_whole nb_is_whole.1 (pw_cons (pw_ix (pt_v (i := 4) rfl (.inl rfl) nb_parts.1 nb_parts.2) (PEW.t pw_int) (fun _ _ => rfl)) (pw_cons (pw_neg (PEW.t (pw_k rfl X.k_MOST_NUMBER nb_MOST_NUMBER.1))) (pw_cons (pw_k rfl X.k_MOST_NUMBER nb_MOST_NUMBER.1) pw_nil rfl) rfl) rfl) rfl rfl))) ssw_nil) (ssw_cons (sw_if (ptw_cmp (op_eqD h64) oc_eq (pt_v (i := 3) rfl (.inl rfl) nb_word.1 nb_word.2) (PEW.t (pw_str x20_ok)) rfl) (ssw_one (sw_ret (pw_call (F 1 _ rfl) hr0 tk rfl X.g_is_whole nb_is_whole.1 (pw_cons (pw_ix (pt_v (i := 4) rfl (.inl rfl) nb_parts.1 nb_parts.2) (PEW.t pw_int) (fun _ _ => rfl)) (pw_cons pw_int (pw_cons pw_int pw_nil rfl) rfl) rfl) rfl rfl))) ssw_nil) (ssw_cons (sw_if (ptw_cmp (op_eqD h64) oc_eq (pt_v (i := 3) rfl (.inl rfl) nb_word.1 nb_word.2) (PEW.t (pw_str x19_ok)) rfl) (ssw_one (sw_ret (pw_call (F 2 _ rfl) hr0 tk rfl X.g_is_name nb_is_name.1 (pw_cons (pw_ix (pt_v (i := 4) rfl (.inl rfl) nb_parts.1 nb_parts.2) (PEW.t pw_int) (fun _ _ => rfl)) pw_nil rfl) rfl rfl))) ssw_nil) (ssw_one (sw_ret (pw_and (PEW.t (pw_cmp (op_eqD h64) oc_eq (pt_v (i := 3) rfl (.inl rfl) nb_word.1 nb_word.2) (PEW.t (pw_str x18_ok)) rfl)) (pw_and (PEW.t (pw_isi (t := .str) rfl X.f_isinstance rfl X.f_str bb_str bn_str nb_str.1 (PEW.t (pw_ix (pt_v (i := 4) rfl (.inl rfl) nb_parts.1 nb_parts.2) (PEW.t pw_int) (fun _ _ => rfl))) rfl rfl)) (pw_one (pw_cmp (op_in3 h65) oc_in (PEW.t (pw_ix (pt_v (i := 4) rfl (.inl rfl) nb_parts.1 nb_parts.2) (PEW.t pw_int) (fun _ _ => rfl))) (pt_v (i := 1) rfl (.inr (.inl rfl)) nb_turns.1 nb_turns.2) rfl))))))))))))))
abbrev N_Looker___init__ : List Str := ["self"]
abbrev P_Looker___init__ : List Str := ["self"]
theorem sc_Looker___init__ : FnScope N_Looker___init__ P_Looker___init__ (defScope (inClass (top 39) 0)) := ⟨rfl, rfl, rfl, by decide +kernel, rfl, by decide +kernel, by decide +kernel⟩
theorem w_Looker___init__ (X : Txt K w mg) (F : FT P w K mg base k) (hr : Room (2 * k + 1) (A.deeper (envOfC "Looker.__init__" (defScope (inClass (top 39) 0)) s.heap.objs.size (adr K 7) cdv))) :
    PSsW (cxOf (L2.CX P w) P w K mg base N_Looker___init__ "Looker.__init__" (defScope (inClass (top 39) 0)) (adr K 7) cdv A outer s H E) (fun cls d _ H => E cls d H) (defBody (inClass (top 39) 0)) (m_Looker___init__ (callF T k)) := by
  have hr0 := hr.mono (Nat.le_succ (2 * k))
  have h1 := hu_of hr
  have h64 := hr.units
  have h65 := room65 hr
  have tk : Takes (cxOf (L2.CX P w) P w K mg base N_Looker___init__ "Looker.__init__" (defScope (inClass (top 39) 0)) (adr K 7) cdv A outer s H E) (fun cls d _ H => E cls d H) := takes_of rfl rfl rfl rfl
  have po : PassesOwn (model (cxOf (L2.CX P w) P w K mg base N_Looker___init__ "Looker.__init__" (defScope (inClass (top 39) 0)) (adr K 7) cdv A outer s H E).prog w) (cxOf (L2.CX P w) P w K mg base N_Looker___init__ "Looker.__init__" (defScope (inClass (top 39) 0)) (adr K 7) cdv A outer s H E).A (cxOf (L2.CX P w) P w K mg base N_Looker___init__ "Looker.__init__" (defScope (inClass (top 39) 0)) (adr K 7) cdv A outer s H E).env (cxOf (L2.CX P w) P w K mg base N_Looker___init__ "Looker.__init__" (defScope (inClass (top 39) 0)) (adr K 7) cdv A outer s H E).xe := passes_of rfl
  exact (ssw_cons (sw_fld x26_ok X.cl_Looker X.na_Looker_inputs (pt_v (i := 0) rfl (.inl rfl) nb_self.1 nb_self.2) (pw_heap (pf_lst pw_nil)) rfl) (ssw_one (sw_fld x25_ok X.cl_Looker X.na_Looker_met (pt_v (i := 0) rfl (.inl rfl) nb_self.1 nb_self.2) pw_int rfl)))
abbrev N_Looker_need : List Str := ["self", "good", "place"]
abbrev P_Looker_need : List Str := ["self", "good", "place"]
theorem sc_Looker_need : FnScope N_Looker_need P_Looker_need (defScope (inClass (top 39) 1)) := ⟨rfl, rfl, rfl, by decide +kernel, rfl, by decide +kernel, by decide +kernel⟩
theorem w_Looker_need (X : Txt K w mg) (F : FT P w K mg base k) (hr : Room (2 * k + 1) (A.deeper (envOfC "Looker.need" (defScope (inClass (top 39) 1)) s.heap.objs.size (adr K 8) cdv))) :
    PSsW (cxOf (L2.CX P w) P w K mg base N_Looker_need "Looker.need" (defScope (inClass (top 39) 1)) (adr K 8) cdv A outer s H E) (fun cls d _ H => E cls d H) (defBody (inClass (top 39) 1)) (m_Looker_need (callF T k)) := by
  have hr0 := hr.mono (Nat.le_succ (2 * k))
  have h1 := hu_of hr
  have h64 := hr.units
  have h65 := room65 hr
  have tk : Takes (cxOf (L2.CX P w) P w K mg base N_Looker_need "Looker.need" (defScope (inClass (top 39) 1)) (adr K 8) cdv A outer s H E) (fun cls d _ H => E cls d H) := takes_of rfl rfl rfl rfl
  have po : PassesOwn (model (cxOf (L2.CX P w) P w K mg base N_Looker_need "Looker.need" (defScope (inClass (top 39) 1)) (adr K 8) cdv A outer s H E).prog w) (cxOf (L2.CX P w) P w K mg base N_Looker_need "Looker.need" (defScope (inClass (top 39) 1)) (adr K 8) cdv A outer s H E).A (cxOf (L2.CX P w) P w K mg base N_Looker_need "Looker.need" (defScope (inClass (top 39) 1)) (adr K 8) cdv A outer s H E).env (cxOf (L2.CX P w) P w K mg base N_Looker_need "Looker.need" (defScope (inClass (top 39) 1)) (adr K 8) cdv A outer s H E).xe := passes_of rfl
  exact (ssw_one (sw_if (ptw_not (ptw_val (pt_v (i := 1) rfl (.inl rfl) nb_good.1 nb_good.2) (fun _ => rfl))) (ssw_one sw_never) ssw_nil))
abbrev N_Looker_head_fits : List Str := ["self", "deed", "turns", "deep", "word", "array", "place", "good"]
abbrev P_Looker_head_fits : List Str := ["self", "deed", "turns", "deep"]
theorem sc_Looker_head_fits : FnScope N_Looker_head_fits P_Looker_head_fits (defScope (inClass (top 39) 2)) := ⟨rfl, rfl, rfl, by decide +kernel, rfl, by decide +kernel, by decide +kernel⟩
theorem w_Looker_head_fits (X : Txt K w mg) (F : FT P w K mg base k) (hr : Room (2 * k + 1) (A.deeper (envOfC "Looker.head_fits" (defScope (inClass (top 39) 2)) s.heap.objs.size (adr K 9) cdv))) :
    PSsW (cxOf (L2.CX P w) P w K mg base N_Looker_head_fits "Looker.head_fits" (defScope (inClass (top 39) 2)) (adr K 9) cdv A outer s H E) (fun cls d _ H => E cls d H) (defBody (inClass (top 39) 2)) (m_Looker_head_fits (callF T k)) := by
  have hr0 := hr.mono (Nat.le_succ (2 * k))
  have h1 := hu_of hr
  have h64 := hr.units
  have h65 := room65 hr
  have tk : Takes (cxOf (L2.CX P w) P w K mg base N_Looker_head_fits "Looker.head_fits" (defScope (inClass (top 39) 2)) (adr K 9) cdv A outer s H E) (fun cls d _ H => E cls d H) := takes_of rfl rfl rfl rfl
  have po : PassesOwn (model (cxOf (L2.CX P w) P w K mg base N_Looker_head_fits "Looker.head_fits" (defScope (inClass (top 39) 2)) (adr K 9) cdv A outer s H E).prog w) (cxOf (L2.CX P w) P w K mg base N_Looker_head_fits "Looker.head_fits" (defScope (inClass (top 39) 2)) (adr K 9) cdv A outer s H E).A (cxOf (L2.CX P w) P w K mg base N_Looker_head_fits "Looker.head_fits" (defScope (inClass (top 39) 2)) (adr K 9) cdv A outer s H E).env (cxOf (L2.CX P w) P w K mg base N_Looker_head_fits "Looker.head_fits" (defScope (inClass (top 39) 2)) (adr K 9) cdv A outer s H E).xe := passes_of rfl
  exact (ssw_cons (sw_set (i := 4) sc_Looker_head_fits.nd rfl (.inl rfl) (.inl rfl) (pw_ix (pt_v (i := 1) rfl (.inl rfl) nb_deed.1 nb_deed.2) (PEW.t pw_int) (fun _ _ => rfl)) rfl) (ssw_cons (sw_if (ptw_cmp (op_eqD h64) oc_eq (pt_v (i := 4) rfl (.inl rfl) nb_word.1 nb_word.2) (PEW.t (pw_k rfl X.k_FENCE nb_FENCE.1)) rfl) (ssw_one (sw_ret pw_bl)) ssw_nil) (ssw_cons (sw_if (ptw_cmp (op_in3 h65) oc_in (pt_v (i := 4) rfl (.inl rfl) nb_word.1 nb_word.2) (PEW.t (pw_tup (pw_cons (pw_k rfl X.k_READ nb_READ.1) (pw_cons (pw_k rfl X.k_WRITE nb_WRITE.1) pw_nil rfl) rfl))) rfl) (ssw_cons (sw_tg (pw_if (ptw_cmp (op_eqD h64) oc_eq (pt_v (i := 4) rfl (.inl rfl) nb_word.1 nb_word.2) (PEW.t (pw_k rfl X.k_READ nb_READ.1)) rfl) (pw_tup (pw_cons (pw_ix (pt_v (i := 1) rfl (.inl rfl) nb_deed.1 nb_deed.2) (PEW.t pw_int) (fun _ _ => rfl)) (pw_cons (pw_ix (pt_v (i := 1) rfl (.inl rfl) nb_deed.1 nb_deed.2) (PEW.t pw_int) (fun _ _ => rfl)) pw_nil rfl) rfl)) (pw_tup (pw_cons (pw_ix (pt_v (i := 1) rfl (.inl rfl) nb_deed.1 nb_deed.2) (PEW.t pw_int) (fun _ _ => rfl)) (pw_cons (pw_ix (pt_v (i := 1) rfl (.inl rfl) nb_deed.1 nb_deed.2) (PEW.t pw_int) (fun _ _ => rfl)) pw_nil rfl) rfl))) (pgw_tu rfl (pgsw_cons (pgw_nm (i := 5) sc_Looker_head_fits.nd rfl (.inl rfl) (.inl rfl)) (pgsw_cons (pgw_nm (i := 6) sc_Looker_head_fits.nd rfl (.inl rfl) (.inl rfl)) pgsw_nil rfl) rfl) rfl rfl) rfl rfl rfl) (ssw_cons (sw_set (i := 7) sc_Looker_head_fits.nd rfl (.inl rfl) (.inl rfl) (pw_if (ptw_cmp (op_eqD h64) oc_eq (pt_v (i := 4) rfl (.inl rfl) nb_word.1 nb_word.2) (PEW.t (pw_k rfl X.k_READ nb_READ.1)) rfl) (pw_call (F 2 _ rfl) hr0 tk rfl X.g_is_name nb_is_name.1 (pw_cons (pw_ix (pt_v (i := 1) rfl (.inl rfl) nb_deed.1 nb_deed.2) (PEW.t pw_int) (fun _ _ => rfl)) pw_nil rfl) rfl rfl) (pw_call (F 6 _ rfl) hr0 tk rfl X.g_is_worth nb_is_worth.1 (pw_cons (pw_ix (pt_v (i := 1) rfl (.inl rfl) nb_deed.1 nb_deed.2) (PEW.t pw_int) (fun _ _ => rfl)) (pw_cons (pw_v (i := 2) rfl (.inl rfl) nb_turns.1 nb_turns.2) (pw_cons pw_int pw_nil rfl) rfl) rfl) rfl rfl)) rfl) (ssw_one (sw_ret (pw_and (pt_v (i := 7) rfl (.inl rfl) nb_good.1 nb_good.2) (pw_and (PEW.t (pw_call (F 1 _ rfl) hr0 tk rfl X.g_is_whole nb_is_whole.1 (pw_cons (pw_v (i := 5) rfl (.inl rfl) nb_array.1 nb_array.2) (pw_cons pw_int (pw_cons (pw_k rfl X.k_MOST_ARRAY nb_MOST_ARRAY.1) pw_nil rfl) rfl) rfl) rfl rfl)) (pw_one (pw_call (F 4 _ rfl) hr0 tk rfl X.g_is_place nb_is_place.1 (pw_cons (pw_v (i := 6) rfl (.inl rfl) nb_place.1 nb_place.2) (pw_cons (pw_v (i := 2) rfl (.inl rfl) nb_turns.1 nb_turns.2) pw_nil rfl) rfl) rfl rfl)))))))) ssw_nil) (ssw_cons (sw_if (ptw_cmp (op_eqD h64) oc_eq (pt_v (i := 4) rfl (.inl rfl) nb_word.1 nb_word.2) (PEW.t (pw_k rfl X.k_SET nb_SET.1)) rfl) (ssw_one (sw_ret (pw_and (PEW.t (pw_call (F 2 _ rfl) hr0 tk rfl X.g_is_name nb_is_name.1 (pw_cons (pw_ix (pt_v (i := 1) rfl (.inl rfl) nb_deed.1 nb_deed.2) (PEW.t pw_int) (fun _ _ => rfl)) pw_nil rfl) rfl rfl)) (pw_one (pw_call (F 6 _ rfl) hr0 tk rfl X.g_is_worth nb_is_worth.1 (pw_cons (pw_ix (pt_v (i := 1) rfl (.inl rfl) nb_deed.1 nb_deed.2) (PEW.t pw_int) (fun _ _ => rfl)) (pw_cons (pw_v (i := 2) rfl (.inl rfl) nb_turns.1 nb_turns.2) (pw_cons pw_int pw_nil rfl) rfl) rfl) rfl rfl))))) ssw_nil) (ssw_cons (sw_if (ptw_cmp (op_eqD h64) oc_eq (pt_v (i := 4) rfl (.inl rfl) nb_word.1 nb_word.2) (PEW.t (pw_k rfl X.k_IF nb_IF.1)) rfl) (ssw_one (sw_ret (pw_and (PEW.t (pw_call (F 5 _ rfl) hr0 tk rfl X.g_is_test nb_is_test.1 (pw_cons (pw_ix (pt_v (i := 1) rfl (.inl rfl) nb_deed.1 nb_deed.2) (PEW.t pw_int) (fun _ _ => rfl)) pw_nil rfl) rfl rfl)) (pw_and (PEW.t (pw_isi (t := .tuple) rfl X.f_isinstance rfl X.f_tuple bb_tuple bn_tuple nb_tuple.1 (PEW.t (pw_ix (pt_v (i := 1) rfl (.inl rfl) nb_deed.1 nb_deed.2) (PEW.t pw_int) (fun _ _ => rfl))) rfl rfl)) (pw_one (pw_isi (t := .tuple) rfl X.f_isinstance rfl X.f_tuple bb_tuple bn_tuple nb_tuple.1 (PEW.t (pw_ix (pt_v (i := 1) rfl (.inl rfl) nb_deed.1 nb_deed.2) (PEW.t pw_int) (fun _ _ => rfl))) rfl rfl)))))) ssw_nil) (ssw_cons (sw_if (PWW.t (ptw_or (ptw_not (ptw_val (PEW.t (pw_call (F 2 _ rfl) hr0 tk rfl X.g_is_name nb_is_name.1 (pw_cons (pw_ix (pt_v (i := 1) rfl (.inl rfl) nb_deed.1 nb_deed.2) (PEW.t pw_int) (fun _ _ => rfl)) pw_nil rfl) rfl rfl)) (fun _ => rfl))) (ptw_or (ptw_cmp (op_in3 h65) oc_in (PEW.t (pw_ix (pt_v (i := 1) rfl (.inl rfl) nb_deed.1 nb_deed.2) (PEW.t pw_int) (fun _ _ => rfl))) (pt_v (i := 2) rfl (.inl rfl) nb_turns.1 nb_turns.2) rfl) (ptw_or1 (ptw_not (ptw_val (PEW.t (pw_isi (t := .tuple) rfl X.f_isinstance rfl X.f_tuple bb_tuple bn_tuple nb_tuple.1 (PEW.t (pw_ix (pt_v (i := 1) rfl (.inl rfl) nb_deed.1 nb_deed.2) (PEW.t pw_int) (fun _ _ => rfl))) rfl rfl)) (fun _ => rfl))))))) (ssw_one (sw_ret pw_bl)) ssw_nil) (ssw_cons (sw_if (ptw_cmp (op_eqD h64) oc_eq (pt_v (i := 4) rfl (.inl rfl) nb_word.1 nb_word.2) (PEW.t (pw_k rfl X.k_LOOP nb_LOOP.1)) rfl) (ssw_one (sw_ret (pw_call (F 1 _ rfl) hr0 tk rfl X.g_is_whole nb_is_whole.1 (pw_cons (pw_ix (pt_v (i := 1) rfl (.inl rfl) nb_deed.1 nb_deed.2) (PEW.t pw_int) (fun _ _ => rfl)) (pw_cons pw_int (pw_cons (pw_k rfl X.k_MOST_COUNT nb_MOST_COUNT.1) pw_nil rfl) rfl) rfl) rfl rfl))) ssw_nil) (ssw_one (sw_ret (pw_and (PEW.t (pw_call (F 1 _ rfl) hr0 tk rfl X.g_is_whole nb_is_whole.1 (pw_cons (pw_ix (pt_v (i := 1) rfl (.inl rfl) nb_deed.1 nb_deed.2) (PEW.t pw_int) (fun _ _ => rfl)) (pw_cons pw_int (pw_cons pw_int pw_nil rfl) rfl) rfl) rfl rfl)) (pw_and (PEW.t (pw_cmp (op_notin3 h65) oc_notin (PEW.t (pw_ix (pt_v (i := 1) rfl (.inl rfl) nb_deed.1 nb_deed.2) (PEW.t pw_int) (fun _ _ => rfl))) (PEW.t (pw_fld x26_ok X.cl_Looker X.na_Looker_inputs (pt_v (i := 0) rfl (.inl rfl) nb_self.1 nb_self.2) rfl)) rfl)) (pw_one (pw_cmp (op_eqD h64) oc_eq (pt_v (i := 3) rfl (.inl rfl) nb_deep.1 nb_deep.2) (PEW.t pw_int) rfl)))))))))))))
abbrev N_Looker_block : List Str := ["self", "block", "turns", "deep", "deed", "place", "more", "part"]
abbrev P_Looker_block : List Str := ["self", "block", "turns", "deep"]
theorem sc_Looker_block : FnScope N_Looker_block P_Looker_block (defScope (inClass (top 39) 3)) := ⟨rfl, rfl, rfl, by decide +kernel, rfl, by decide +kernel, by decide +kernel⟩
theorem w_Looker_block (X : Txt K w mg) (F : FT P w K mg base k) (hr : Room (2 * k + 1) (A.deeper (envOfC "Looker.block" (defScope (inClass (top 39) 3)) s.heap.objs.size (adr K 10) cdv))) :
    PSsW (cxOf (L2.CX P w) P w K mg base N_Looker_block "Looker.block" (defScope (inClass (top 39) 3)) (adr K 10) cdv A outer s H E) (fun cls d _ H => E cls d H) (defBody (inClass (top 39) 3)) (m_Looker_block (callF T k)) := by
  have hr0 := hr.mono (Nat.le_succ (2 * k))
  have h1 := hu_of hr
  have h64 := hr.units
  have h65 := room65 hr
  have tk : Takes (cxOf (L2.CX P w) P w K mg base N_Looker_block "Looker.block" (defScope (inClass (top 39) 3)) (adr K 10) cdv A outer s H E) (fun cls d _ H => E cls d H) := takes_of rfl rfl rfl rfl
  have po : PassesOwn (model (cxOf (L2.CX P w) P w K mg base N_Looker_block "Looker.block" (defScope (inClass (top 39) 3)) (adr K 10) cdv A outer s H E).prog w) (cxOf (L2.CX P w) P w K mg base N_Looker_block "Looker.block" (defScope (inClass (top 39) 3)) (adr K 10) cdv A outer s H E).A (cxOf (L2.CX P w) P w K mg base N_Looker_block "Looker.block" (defScope (inClass (top 39) 3)) (adr K 10) cdv A outer s H E).env (cxOf (L2.CX P w) P w K mg base N_Looker_block "Looker.block" (defScope (inClass (top 39) 3)) (adr K 10) cdv A outer s H E).xe := passes_of rfl
  exact (ssw_one (sw_for po rfl (pis_seq (pw_v (i := 1) rfl (.inl rfl) nb_block.1 nb_block.2)) (pgw_nm (i := 4) sc_Looker_block.nd rfl (.inl rfl) (.inl rfl)) (ssw_cons (sw_set (i := 5) sc_Looker_block.nd rfl (.inl rfl) (.inl rfl) (pw_fld x25_ok X.cl_Looker X.na_Looker_met (pt_v (i := 0) rfl (.inl rfl) nb_self.1 nb_self.2) rfl) rfl) (ssw_cons (sw_fldadd x25_ok X.cl_Looker X.na_Looker_met (pt_v (i := 0) rfl (.inl rfl) nb_self.1 nb_self.2) pw_int) (ssw_cons (sw_exp (pw_meth x29_ok X.cl_Looker X.me_Looker_need (F 8 _ rfl) hr0 tk (pw_v (i := 0) rfl (.inl rfl) nb_self.1 nb_self.2) (pw_cons (pw_and (PEW.t (pw_cmp op_lt4 oc_lt (pt_v (i := 5) rfl (.inl rfl) nb_place.1 nb_place.2) (PEW.t (pw_k rfl X.k_MOST_DEEDS nb_MOST_DEEDS.1)) rfl)) (pw_and (PEW.t (pw_cmp op_le oc_le (pt_v (i := 3) rfl (.inl rfl) nb_deep.1 nb_deep.2) (PEW.t (pw_k rfl X.k_MOST_WITHIN nb_MOST_WITHIN.1)) rfl)) (pw_and (PEW.t (pw_isi (t := .tuple) rfl X.f_isinstance rfl X.f_tuple bb_tuple bn_tuple nb_tuple.1 (pt_v (i := 4) rfl (.inl rfl) nb_deed.1 nb_deed.2) rfl rfl)) (pw_one (pw_cmp (op_neD h64) oc_ne (pt_v (i := 4) rfl (.inl rfl) nb_deed.1 nb_deed.2) (PEW.t (pw_tup pw_nil)) rfl))))) (pw_cons (pw_v (i := 5) rfl (.inl rfl) nb_place.1 nb_place.2) pw_nil rfl) rfl) rfl rfl rfl) rfl) (ssw_cons (sw_exp (pw_meth x29_ok X.cl_Looker X.me_Looker_need (F 8 _ rfl) hr0 tk (pw_v (i := 0) rfl (.inl rfl) nb_self.1 nb_self.2) (pw_cons (pw_and (PEW.t (pw_isi (t := .str) rfl X.f_isinstance rfl X.f_str bb_str bn_str nb_str.1 (PEW.t (pw_ix (pt_v (i := 4) rfl (.inl rfl) nb_deed.1 nb_deed.2) (PEW.t pw_int) (fun _ _ => rfl))) rfl rfl)) (pw_one (pw_cmp (op_eqD h64) oc_eq (PEW.t (pw_tabk X.tb_SIZES rfl X.gs_SIZES nb_SIZES.1 (pw_ix (pt_v (i := 4) rfl (.inl rfl) nb_deed.1 nb_deed.2) (PEW.t pw_int) (fun _ _ => rfl)) pw_int ⟨rfl, rfl, rfl, rfl⟩)) (PEW.t (pw_bi (id := "len") call_len3 cb_len rfl X.f_len bb_len bn_len nb_len.1 (pat_cons (pt_v (i := 4) rfl (.inl rfl) nb_deed.1 nb_deed.2) pat_nil rfl) rfl rfl)) rfl))) (pw_cons (pw_v (i := 5) rfl (.inl rfl) nb_place.1 nb_place.2) pw_nil rfl) rfl) rfl rfl rfl) rfl) (ssw_cons (sw_exp (pw_meth x29_ok X.cl_Looker X.me_Looker_need (F 8 _ rfl) hr0 tk (pw_v (i := 0) rfl (.inl rfl) nb_self.1 nb_self.2) (pw_cons (pw_meth x28_ok X.cl_Looker X.me_Looker_head_fits (F 9 _ rfl) hr0 tk (pw_v (i := 0) rfl (.inl rfl) nb_self.1 nb_self.2) (pw_cons (pw_v (i := 4) rfl (.inl rfl) nb_deed.1 nb_deed.2) (pw_cons (pw_v (i := 2) rfl (.inl rfl) nb_turns.1 nb_turns.2) (pw_cons (pw_v (i := 3) rfl (.inl rfl) nb_deep.1 nb_deep.2) pw_nil rfl) rfl) rfl) rfl rfl rfl) (pw_cons (pw_v (i := 5) rfl (.inl rfl) nb_place.1 nb_place.2) pw_nil rfl) rfl) rfl rfl rfl) rfl) (ssw_cons (sw_if (ptw_cmp (op_eqD h64) oc_eq (PEW.t (pw_ix (pt_v (i := 4) rfl (.inl rfl) nb_deed.1 nb_deed.2) (PEW.t pw_int) (fun _ _ => rfl))) (PEW.t (pw_k rfl X.k_TURNS nb_TURNS.1)) rfl) (ssw_one (sw_app (pw_fld x26_ok X.cl_Looker X.na_Looker_inputs (pt_v (i := 0) rfl (.inl rfl) nb_self.1 nb_self.2) rfl) (pw_ix (pt_v (i := 4) rfl (.inl rfl) nb_deed.1 nb_deed.2) (PEW.t pw_int) (fun _ _ => rfl)) rfl rfl rfl rfl rfl rfl)) ssw_nil) (ssw_cons (sw_set (i := 6) sc_Looker_block.nd rfl (.inl rfl) (.inl rfl) (pw_if (ptw_cmp (op_in3 h65) oc_in (PEW.t (pw_ix (pt_v (i := 4) rfl (.inl rfl) nb_deed.1 nb_deed.2) (PEW.t pw_int) (fun _ _ => rfl))) (PEW.t (pw_tup (pw_cons (pw_k rfl X.k_LOOP nb_LOOP.1) (pw_cons (pw_k rfl X.k_TURNS nb_TURNS.1) pw_nil rfl) rfl))) rfl) (PEF.w (pf_lst (pw_cons (pw_ix (pt_v (i := 4) rfl (.inl rfl) nb_deed.1 nb_deed.2) (PEW.t pw_int) (fun _ _ => rfl)) pw_nil rfl))) (PEF.w (pf_lst pw_nil))) rfl) (ssw_one (sw_for po rfl (pis_seq (pw_call (F 3 _ rfl) hr0 tk rfl X.g_blocks_of nb_blocks_of.1 (pw_cons (pw_v (i := 4) rfl (.inl rfl) nb_deed.1 nb_deed.2) pw_nil rfl) rfl rfl)) (pgw_nm (i := 7) sc_Looker_block.nd rfl (.inl rfl) (.inl rfl)) (ssw_one (sw_exp (pw_meth x27_ok X.cl_Looker X.me_Looker_block (F 10 _ rfl) hr0 tk (pw_v (i := 0) rfl (.inl rfl) nb_self.1 nb_self.2) (pw_cons (pw_v (i := 7) rfl (.inl rfl) nb_part.1 nb_part.2) (pw_cons (pw_op op_add4 oc_add (pt_v (i := 2) rfl (.inl rfl) nb_turns.1 nb_turns.2) (pt_v (i := 6) rfl (.inl rfl) nb_more.1 nb_more.2)) (pw_cons (pw_op op_add4 oc_add (pt_v (i := 3) rfl (.inl rfl) nb_deep.1 nb_deep.2) (PEW.t pw_int)) pw_nil rfl) rfl) rfl) rfl rfl rfl) rfl)) (fun _ => rfl)))))))))) (fun _ => rfl)))
abbrev N_touches_in : List Str := ["block", "found", "deed", "part"]
abbrev P_touches_in : List Str := ["block"]
theorem sc_touches_in : FnScope N_touches_in P_touches_in (defScope (top 40)) := ⟨rfl, rfl, rfl, by decide +kernel, rfl, by decide +kernel, by decide +kernel⟩
theorem w_touches_in (X : Txt K w mg) (F : FT P w K mg base k) (hr : Room (2 * k + 1) (A.deeper (envOfC "touches_in" (defScope (top 40)) s.heap.objs.size (adr K 11) cdv))) :
    PSsW (cxOf (L2.CX P w) P w K mg base N_touches_in "touches_in" (defScope (top 40)) (adr K 11) cdv A outer s H E) (fun cls d _ H => E cls d H) (defBody (top 40)) (m_touches_in (callF T k)) := by
  have hr0 := hr.mono (Nat.le_succ (2 * k))
  have h1 := hu_of hr
  have h64 := hr.units
  have h65 := room65 hr
  have tk : Takes (cxOf (L2.CX P w) P w K mg base N_touches_in "touches_in" (defScope (top 40)) (adr K 11) cdv A outer s H E) (fun cls d _ H => E cls d H) := takes_of rfl rfl rfl rfl
  have po : PassesOwn (model (cxOf (L2.CX P w) P w K mg base N_touches_in "touches_in" (defScope (top 40)) (adr K 11) cdv A outer s H E).prog w) (cxOf (L2.CX P w) P w K mg base N_touches_in "touches_in" (defScope (top 40)) (adr K 11) cdv A outer s H E).A (cxOf (L2.CX P w) P w K mg base N_touches_in "touches_in" (defScope (top 40)) (adr K 11) cdv A outer s H E).env (cxOf (L2.CX P w) P w K mg base N_touches_in "touches_in" (defScope (top 40)) (adr K 11) cdv A outer s H E).xe := passes_of rfl
  exact (ssw_cons (sw_set (i := 1) sc_touches_in.nd rfl (.inl rfl) (.inl rfl) pw_int rfl) (ssw_cons (sw_for po rfl (pis_seq (pw_v (i := 0) rfl (.inl rfl) nb_block.1 nb_block.2)) (pgw_nm (i := 2) sc_touches_in.nd rfl (.inl rfl) (.inl rfl)) (ssw_cons (sw_add (i := 1) sc_touches_in.nd rfl (.inl rfl) (.inl rfl) (PEW.t (pw_ty (T := "int") call_int1 cb_int rfl X.f_int bb_int bn_int nb_int.1 (pat_cons (PEW.t (pw_cmp (op_in3 h65) oc_in (PEW.t (pw_ix (pt_v (i := 2) rfl (.inl rfl) nb_deed.1 nb_deed.2) (PEW.t pw_int) (fun _ _ => rfl))) (PEW.t (pw_tup (pw_cons (pw_k rfl X.k_READ nb_READ.1) (pw_cons (pw_k rfl X.k_WRITE nb_WRITE.1) (pw_cons (pw_k rfl X.k_FENCE nb_FENCE.1) pw_nil rfl) rfl) rfl))) rfl)) pat_nil rfl) rfl rfl))) (ssw_one (sw_add (i := 1) sc_touches_in.nd rfl (.inl rfl) (.inl rfl) (PEW.t (pw_op op_mul4 oc_mul (PEW.t (pw_bi (id := "sum") (cr_sum rfl) cb_sum rfl X.f_sum bb_sum bn_sum nb_sum.1 (pat_cons (PEW.t (PEF.w (pf_lc (own := [("part", 3)]) rfl sc_touches_in.nd (pic_seq (PEW.t (pw_call (F 3 _ rfl) hr0 tk rfl X.g_blocks_of nb_blocks_of.1 (pw_cons (pw_v (i := 2) rfl (.inl rfl) nb_deed.1 nb_deed.2) pw_nil rfl) rfl rfl))) (blkOk_by (N := N_touches_in) (sc := (defScope (top 40))) (by decide +kernel)) (inS_sub rfl) (fun _ _ _ _ _ => (pgw_nm (i := 3) sc_touches_in.nd rfl (.inl rfl) (.inr rfl))) (fun _ _ _ _ _ => pts_no) (fun _ _ _ _ _ => (pw_call (F 11 _ rfl) hr0 takes0 rfl X.g_touches_in nb_touches_in.1 (pw_cons (pw_v (i := 3) rfl (.inl rfl) nb_part.1 nb_part.2) pw_nil rfl) rfl rfl)) (fun _ => rfl)))) pat_nil rfl) rfl rfl)) (PEW.t (pw_if (ptw_cmp (op_eqD h64) oc_eq (PEW.t (pw_ix (pt_v (i := 2) rfl (.inl rfl) nb_deed.1 nb_deed.2) (PEW.t pw_int) (fun _ _ => rfl))) (PEW.t (pw_k rfl X.k_LOOP nb_LOOP.1)) rfl) (pw_ix (pt_v (i := 2) rfl (.inl rfl) nb_deed.1 nb_deed.2) (PEW.t pw_int) (fun _ _ => rfl)) pw_int))))))) (fun _ => rfl)) (ssw_one (sw_ret (pw_v (i := 1) rfl (.inl rfl) nb_found.1 nb_found.2)))))
abbrev N_need_program : List Str := ["program", "looker"]
abbrev P_need_program : List Str := ["program"]
theorem sc_need_program : FnScope N_need_program P_need_program (defScope (top 41)) := ⟨rfl, rfl, rfl, by decide +kernel, rfl, by decide +kernel, by decide +kernel⟩
theorem w_need_program (X : Txt K w mg) (F : FT P w K mg base k) (hr : Room (2 * k + 1) (A.deeper (envOfC "need_program" (defScope (top 41)) s.heap.objs.size (adr K 12) cdv))) :
    PSsW (cxOf (L2.CX P w) P w K mg base N_need_program "need_program" (defScope (top 41)) (adr K 12) cdv A outer s H E) (fun cls d _ H => E cls d H) (defBody (top 41)) (m_need_program (callF T k)) := by
  have hr0 := hr.mono (Nat.le_succ (2 * k))
  have h1 := hu_of hr
  have h64 := hr.units
  have h65 := room65 hr
  have tk : Takes (cxOf (L2.CX P w) P w K mg base N_need_program "need_program" (defScope (top 41)) (adr K 12) cdv A outer s H E) (fun cls d _ H => E cls d H) := takes_of rfl rfl rfl rfl
  have po : PassesOwn (model (cxOf (L2.CX P w) P w K mg base N_need_program "need_program" (defScope (top 41)) (adr K 12) cdv A outer s H E).prog w) (cxOf (L2.CX P w) P w K mg base N_need_program "need_program" (defScope (top 41)) (adr K 12) cdv A outer s H E).A (cxOf (L2.CX P w) P w K mg base N_need_program "need_program" (defScope (top 41)) (adr K 12) cdv A outer s H E).env (cxOf (L2.CX P w) P w K mg base N_need_program "need_program" (defScope (top 41)) (adr K 12) cdv A outer s H E).xe := passes_of rfl
  exact (ssw_cons (sw_set (i := 1) sc_need_program.nd rfl (.inl rfl) (.inl rfl) (pw_new0 X.mk_Looker (F 7 _ rfl) hr rfl X.gc_Looker nb_Looker.1) rfl) (ssw_cons (sw_exp (pw_meth x29_ok X.cl_Looker X.me_Looker_need (F 8 _ rfl) hr0 tk (pw_v (i := 1) rfl (.inl rfl) nb_looker.1 nb_looker.2) (pw_cons (pw_isi (t := .tuple) rfl X.f_isinstance rfl X.f_tuple bb_tuple bn_tuple nb_tuple.1 (pt_v (i := 0) rfl (.inl rfl) nb_program.1 nb_program.2) rfl rfl) (pw_cons (pw_neg (PEW.t pw_int)) pw_nil rfl) rfl) rfl rfl rfl) rfl) (ssw_cons (sw_exp (pw_meth x27_ok X.cl_Looker X.me_Looker_block (F 10 _ rfl) hr0 tk (pw_v (i := 1) rfl (.inl rfl) nb_looker.1 nb_looker.2) (pw_cons (pw_v (i := 0) rfl (.inl rfl) nb_program.1 nb_program.2) (pw_cons (PEF.w (pf_lst pw_nil)) (pw_cons pw_int pw_nil rfl) rfl) rfl) rfl rfl rfl) rfl) (ssw_one (sw_exp (pw_meth x29_ok X.cl_Looker X.me_Looker_need (F 8 _ rfl) hr0 tk (pw_v (i := 1) rfl (.inl rfl) nb_looker.1 nb_looker.2) (pw_cons (pw_cmp op_le oc_le (PEW.t (pw_call (F 11 _ rfl) hr0 tk rfl X.g_touches_in nb_touches_in.1 (pw_cons (pw_v (i := 0) rfl (.inl rfl) nb_program.1 nb_program.2) pw_nil rfl) rfl rfl)) (PEW.t (pw_k rfl X.k_MOST_TOUCHES nb_MOST_TOUCHES.1)) rfl) (pw_cons (pw_fld x25_ok X.cl_Looker X.na_Looker_met (pt_v (i := 1) rfl (.inl rfl) nb_looker.1 nb_looker.2) rfl) pw_nil rfl) rfl) rfl rfl rfl) rfl)))))
abbrev N_numbered : List Str := ["block", "number", "rows", "deed", "mine", "parts", "part", "inner"]
abbrev P_numbered : List Str := ["block", "number"]
theorem sc_numbered : FnScope N_numbered P_numbered (defScope (top 42)) := ⟨rfl, rfl, rfl, by decide +kernel, rfl, by decide +kernel, by decide +kernel⟩
theorem w_numbered (X : Txt K w mg) (F : FT P w K mg base k) (hr : Room (2 * k + 1) (A.deeper (envOfC "numbered" (defScope (top 42)) s.heap.objs.size (adr K 13) cdv))) :
    PSsW (cxOf (L2.CX P w) P w K mg base N_numbered "numbered" (defScope (top 42)) (adr K 13) cdv A outer s H E) (fun cls d _ H => E cls d H) (defBody (top 42)) (m_numbered (callF T k)) := by
  have hr0 := hr.mono (Nat.le_succ (2 * k))
  have h1 := hu_of hr
  have h64 := hr.units
  have h65 := room65 hr
  have tk : Takes (cxOf (L2.CX P w) P w K mg base N_numbered "numbered" (defScope (top 42)) (adr K 13) cdv A outer s H E) (fun cls d _ H => E cls d H) := takes_of rfl rfl rfl rfl
  have po : PassesOwn (model (cxOf (L2.CX P w) P w K mg base N_numbered "numbered" (defScope (top 42)) (adr K 13) cdv A outer s H E).prog w) (cxOf (L2.CX P w) P w K mg base N_numbered "numbered" (defScope (top 42)) (adr K 13) cdv A outer s H E).A (cxOf (L2.CX P w) P w K mg base N_numbered "numbered" (defScope (top 42)) (adr K 13) cdv A outer s H E).env (cxOf (L2.CX P w) P w K mg base N_numbered "numbered" (defScope (top 42)) (adr K 13) cdv A outer s H E).xe := passes_of rfl
  exact (ssw_cons (sw_setO (i := 2) sc_numbered.nd rfl (.inl rfl) (.inl rfl) (pf_lst pw_nil) rfl) (ssw_cons (sw_for po rfl (pis_seq (pw_v (i := 0) rfl (.inl rfl) nb_block.1 nb_block.2)) (pgw_nm (i := 3) sc_numbered.nd rfl (.inl rfl) (.inl rfl)) (ssw_cons (sw_set (i := 4) sc_numbered.nd rfl (.inl rfl) (.inl rfl) (pw_v (i := 1) rfl (.inl rfl) nb_number.1 nb_number.2) rfl) (ssw_cons (sw_add (i := 1) sc_numbered.nd rfl (.inl rfl) (.inl rfl) (PEW.t pw_int)) (ssw_cons (sw_setO (i := 5) sc_numbered.nd rfl (.inl rfl) (.inl rfl) (pf_lst pw_nil) rfl) (ssw_cons (sw_for po rfl (pis_seq (pw_call (F 3 _ rfl) hr0 tk rfl X.g_blocks_of nb_blocks_of.1 (pw_cons (pw_v (i := 3) rfl (.inl rfl) nb_deed.1 nb_deed.2) pw_nil rfl) rfl rfl)) (pgw_nm (i := 6) sc_numbered.nd rfl (.inl rfl) (.inl rfl)) (ssw_cons (sw_tg (pw_call (F 13 _ rfl) hr0 tk rfl X.g_numbered nb_numbered.1 (pw_cons (pw_v (i := 6) rfl (.inl rfl) nb_part.1 nb_part.2) (pw_cons (pw_v (i := 1) rfl (.inl rfl) nb_number.1 nb_number.2) pw_nil rfl) rfl) rfl rfl) (pgw_tu rfl (pgsw_cons (pgw_nm (i := 7) sc_numbered.nd rfl (.inl rfl) (.inl rfl)) (pgsw_cons (pgw_nm (i := 1) sc_numbered.nd rfl (.inl rfl) (.inl rfl)) pgsw_nil rfl) rfl) rfl rfl) rfl rfl rfl) (ssw_one (sw_appO (i := 5) rfl (.inl rfl) nb_parts.1 nb_parts.2 (pw_v (i := 7) rfl (.inl rfl) nb_inner.1 nb_inner.2) rfl rfl rfl rfl rfl rfl))) (fun _ => rfl)) (ssw_fz (i := 5) (ssw_one (sw_appO (i := 2) rfl (.inl rfl) nb_rows.1 nb_rows.2 (pw_tup (pw_cons (pw_v (i := 4) rfl (.inl rfl) nb_mine.1 nb_mine.2) (pw_cons (pw_v (i := 3) rfl (.inl rfl) nb_deed.1 nb_deed.2) (pw_cons (pw_v (i := 5) rfl (.inl rfl) nb_parts.1 nb_parts.2) pw_nil rfl) rfl) rfl)) rfl rfl rfl rfl rfl rfl))))))) (fun _ => rfl)) (ssw_fz (i := 2) (ssw_one (sw_ret (pw_tup (pw_cons (pw_v (i := 2) rfl (.inl rfl) nb_rows.1 nb_rows.2) (pw_cons (pw_v (i := 1) rfl (.inl rfl) nb_number.1 nb_number.2) pw_nil rfl) rfl)))))))
abbrev N_as_row : List Str := ["first", "step", "many"]
abbrev P_as_row : List Str := ["first", "step", "many"]
theorem sc_as_row : FnScope N_as_row P_as_row (defScope (top 45)) := ⟨rfl, rfl, rfl, by decide +kernel, rfl, by decide +kernel, by decide +kernel⟩
theorem w_as_row (X : Txt K w mg) (F : FT P w K mg base k) (hr : Room (2 * k + 1) (A.deeper (envOfC "as_row" (defScope (top 45)) s.heap.objs.size (adr K 45) cdv))) :
    PSsW (cxOf (L2.CX P w) P w K mg base N_as_row "as_row" (defScope (top 45)) (adr K 45) cdv A outer s H E) (fun cls d _ H => E cls d H) (defBody (top 45)) (m_as_row (callF T k)) := by
  have hr0 := hr.mono (Nat.le_succ (2 * k))
  have h1 := hu_of hr
  have h64 := hr.units
  have h65 := room65 hr
  have tk : Takes (cxOf (L2.CX P w) P w K mg base N_as_row "as_row" (defScope (top 45)) (adr K 45) cdv A outer s H E) (fun cls d _ H => E cls d H) := takes_of rfl rfl rfl rfl
  have po : PassesOwn (model (cxOf (L2.CX P w) P w K mg base N_as_row "as_row" (defScope (top 45)) (adr K 45) cdv A outer s H E).prog w) (cxOf (L2.CX P w) P w K mg base N_as_row "as_row" (defScope (top 45)) (adr K 45) cdv A outer s H E).A (cxOf (L2.CX P w) P w K mg base N_as_row "as_row" (defScope (top 45)) (adr K 45) cdv A outer s H E).env (cxOf (L2.CX P w) P w K mg base N_as_row "as_row" (defScope (top 45)) (adr K 45) cdv A outer s H E).xe := passes_of rfl
  exact (ssw_one (sw_ret (pw_if (ptw_cmp (op_eqD h64) oc_eq (pt_v (i := 2) rfl (.inl rfl) nb_many.1 nb_many.2) (PEW.t pw_int) rfl) (pw_tup (pw_cons (pw_v (i := 0) rfl (.inl rfl) nb_first.1 nb_first.2) (pw_cons pw_int (pw_cons pw_int pw_nil rfl) rfl) rfl)) (pw_tup (pw_cons (pw_v (i := 0) rfl (.inl rfl) nb_first.1 nb_first.2) (pw_cons (pw_v (i := 1) rfl (.inl rfl) nb_step.1 nb_step.2) (pw_cons (pw_v (i := 2) rfl (.inl rfl) nb_many.1 nb_many.2) pw_nil rfl) rfl) rfl)))))
abbrev N_from_on : List Str := ["row", "low", "first", "step", "many", "gone"]
abbrev P_from_on : List Str := ["row", "low"]
theorem sc_from_on : FnScope N_from_on P_from_on (defScope (top 46)) := ⟨rfl, rfl, rfl, by decide +kernel, rfl, by decide +kernel, by decide +kernel⟩
theorem w_from_on (X : Txt K w mg) (F : FT P w K mg base k) (hr : Room (2 * k + 1) (A.deeper (envOfC "from_on" (defScope (top 46)) s.heap.objs.size (adr K 46) cdv))) :
    PSsW (cxOf (L2.CX P w) P w K mg base N_from_on "from_on" (defScope (top 46)) (adr K 46) cdv A outer s H E) (fun cls d _ H => E cls d H) (defBody (top 46)) (m_from_on (callF T k)) := by
  have hr0 := hr.mono (Nat.le_succ (2 * k))
  have h1 := hu_of hr
  have h64 := hr.units
  have h65 := room65 hr
  have tk : Takes (cxOf (L2.CX P w) P w K mg base N_from_on "from_on" (defScope (top 46)) (adr K 46) cdv A outer s H E) (fun cls d _ H => E cls d H) := takes_of rfl rfl rfl rfl
  have po : PassesOwn (model (cxOf (L2.CX P w) P w K mg base N_from_on "from_on" (defScope (top 46)) (adr K 46) cdv A outer s H E).prog w) (cxOf (L2.CX P w) P w K mg base N_from_on "from_on" (defScope (top 46)) (adr K 46) cdv A outer s H E).A (cxOf (L2.CX P w) P w K mg base N_from_on "from_on" (defScope (top 46)) (adr K 46) cdv A outer s H E).env (cxOf (L2.CX P w) P w K mg base N_from_on "from_on" (defScope (top 46)) (adr K 46) cdv A outer s H E).xe := passes_of rfl
  exact (ssw_cons (sw_tg (pw_v (i := 0) rfl (.inl rfl) nb_row.1 nb_row.2) (pgw_tu rfl (pgsw_cons (pgw_nm (i := 2) sc_from_on.nd rfl (.inl rfl) (.inl rfl)) (pgsw_cons (pgw_nm (i := 3) sc_from_on.nd rfl (.inl rfl) (.inl rfl)) (pgsw_cons (pgw_nm (i := 4) sc_from_on.nd rfl (.inl rfl) (.inl rfl)) pgsw_nil rfl) rfl) rfl) rfl rfl) rfl rfl rfl) (ssw_cons (sw_if (ptw_cmp op_ge oc_ge (pt_v (i := 2) rfl (.inl rfl) nb_first.1 nb_first.2) (pt_v (i := 1) rfl (.inl rfl) nb_low.1 nb_low.2) rfl) (ssw_one (sw_ret (pw_v (i := 0) rfl (.inl rfl) nb_row.1 nb_row.2))) ssw_nil) (ssw_cons (sw_set (i := 5) sc_from_on.nd rfl (.inl rfl) (.inl rfl) (pw_op op_fdivN oc_div (PEW.t (pw_op op_sub oc_sub (PEW.t (pw_op op_add4 oc_add (PEW.t (pw_op op_sub oc_sub (pt_v (i := 1) rfl (.inl rfl) nb_low.1 nb_low.2) (pt_v (i := 2) rfl (.inl rfl) nb_first.1 nb_first.2))) (pt_v (i := 3) rfl (.inl rfl) nb_step.1 nb_step.2))) (PEW.t pw_int))) (pt_v (i := 3) rfl (.inl rfl) nb_step.1 nb_step.2)) rfl) (ssw_cons (sw_if (PWW.t (ptw_and (ptw_cmp op_gt oc_gt (pt_v (i := 4) rfl (.inl rfl) nb_many.1 nb_many.2) (PEW.t pw_int) rfl) (ptw_and1 (ptw_cmp op_ge oc_ge (pt_v (i := 5) rfl (.inl rfl) nb_gone.1 nb_gone.2) (pt_v (i := 4) rfl (.inl rfl) nb_many.1 nb_many.2) rfl)))) (ssw_one (sw_ret pw_non)) ssw_nil) (ssw_one (sw_ret (pw_call (F 45 _ rfl) hr0 tk rfl X.g_as_row nb_as_row.1 (pw_cons (pw_op op_add4 oc_add (pt_v (i := 2) rfl (.inl rfl) nb_first.1 nb_first.2) (PEW.t (pw_op op_mul4 oc_mul (pt_v (i := 5) rfl (.inl rfl) nb_gone.1 nb_gone.2) (pt_v (i := 3) rfl (.inl rfl) nb_step.1 nb_step.2)))) (pw_cons (pw_v (i := 3) rfl (.inl rfl) nb_step.1 nb_step.2) (pw_cons (pw_if (ptw_cmp op_gt oc_gt (pt_v (i := 4) rfl (.inl rfl) nb_many.1 nb_many.2) (PEW.t pw_int) rfl) (pw_op op_sub oc_sub (pt_v (i := 4) rfl (.inl rfl) nb_many.1 nb_many.2) (pt_v (i := 5) rfl (.inl rfl) nb_gone.1 nb_gone.2)) pw_int) pw_nil rfl) rfl) rfl) rfl rfl)))))))
abbrev N_up_to : List Str := ["row", "high", "first", "step", "many", "most"]
abbrev P_up_to : List Str := ["row", "high"]
theorem sc_up_to : FnScope N_up_to P_up_to (defScope (top 47)) := ⟨rfl, rfl, rfl, by decide +kernel, rfl, by decide +kernel, by decide +kernel⟩
theorem w_up_to (X : Txt K w mg) (F : FT P w K mg base k) (hr : Room (2 * k + 1) (A.deeper (envOfC "up_to" (defScope (top 47)) s.heap.objs.size (adr K 47) cdv))) :
    PSsW (cxOf (L2.CX P w) P w K mg base N_up_to "up_to" (defScope (top 47)) (adr K 47) cdv A outer s H E) (fun cls d _ H => E cls d H) (defBody (top 47)) (m_up_to (callF T k)) := by
  have hr0 := hr.mono (Nat.le_succ (2 * k))
  have h1 := hu_of hr
  have h64 := hr.units
  have h65 := room65 hr
  have tk : Takes (cxOf (L2.CX P w) P w K mg base N_up_to "up_to" (defScope (top 47)) (adr K 47) cdv A outer s H E) (fun cls d _ H => E cls d H) := takes_of rfl rfl rfl rfl
  have po : PassesOwn (model (cxOf (L2.CX P w) P w K mg base N_up_to "up_to" (defScope (top 47)) (adr K 47) cdv A outer s H E).prog w) (cxOf (L2.CX P w) P w K mg base N_up_to "up_to" (defScope (top 47)) (adr K 47) cdv A outer s H E).A (cxOf (L2.CX P w) P w K mg base N_up_to "up_to" (defScope (top 47)) (adr K 47) cdv A outer s H E).env (cxOf (L2.CX P w) P w K mg base N_up_to "up_to" (defScope (top 47)) (adr K 47) cdv A outer s H E).xe := passes_of rfl
  exact (ssw_cons (sw_tg (pw_v (i := 0) rfl (.inl rfl) nb_row.1 nb_row.2) (pgw_tu rfl (pgsw_cons (pgw_nm (i := 2) sc_up_to.nd rfl (.inl rfl) (.inl rfl)) (pgsw_cons (pgw_nm (i := 3) sc_up_to.nd rfl (.inl rfl) (.inl rfl)) (pgsw_cons (pgw_nm (i := 4) sc_up_to.nd rfl (.inl rfl) (.inl rfl)) pgsw_nil rfl) rfl) rfl) rfl rfl) rfl rfl rfl) (ssw_cons (sw_if (ptw_cmp op_ge oc_ge (pt_v (i := 2) rfl (.inl rfl) nb_first.1 nb_first.2) (pt_v (i := 1) rfl (.inl rfl) nb_high.1 nb_high.2) rfl) (ssw_one (sw_ret pw_non)) ssw_nil) (ssw_cons (sw_set (i := 5) sc_up_to.nd rfl (.inl rfl) (.inl rfl) (pw_op op_fdivN oc_div (PEW.t (pw_op op_sub oc_sub (PEW.t (pw_op op_add4 oc_add (PEW.t (pw_op op_sub oc_sub (pt_v (i := 1) rfl (.inl rfl) nb_high.1 nb_high.2) (pt_v (i := 2) rfl (.inl rfl) nb_first.1 nb_first.2))) (pt_v (i := 3) rfl (.inl rfl) nb_step.1 nb_step.2))) (PEW.t pw_int))) (pt_v (i := 3) rfl (.inl rfl) nb_step.1 nb_step.2)) rfl) (ssw_one (sw_ret (pw_call (F 45 _ rfl) hr0 tk rfl X.g_as_row nb_as_row.1 (pw_cons (pw_v (i := 2) rfl (.inl rfl) nb_first.1 nb_first.2) (pw_cons (pw_v (i := 3) rfl (.inl rfl) nb_step.1 nb_step.2) (pw_cons (pw_if (ptw_cmp (op_eqD h64) oc_eq (pt_v (i := 4) rfl (.inl rfl) nb_many.1 nb_many.2) (PEW.t pw_int) rfl) (pw_v (i := 5) rfl (.inl rfl) nb_most.1 nb_most.2) (pw_bi (id := "min") (call_min2 rfl) cb_min2 rfl X.f_min bb_min bn_min nb_min.1 (pat_cons (pt_v (i := 4) rfl (.inl rfl) nb_many.1 nb_many.2) (pat_cons (pt_v (i := 5) rfl (.inl rfl) nb_most.1 nb_most.2) pat_nil rfl) rfl) rfl rfl)) pw_nil rfl) rfl) rfl) rfl rfl))))))
abbrev N_left_by : List Str := ["row", "part", "rest", "first", "step", "many", "some", "gap", "count", "k"]
abbrev P_left_by : List Str := ["row", "part", "rest"]
theorem sc_left_by : FnScope N_left_by P_left_by (defScope (top 48)) := ⟨rfl, rfl, rfl, by decide +kernel, rfl, by decide +kernel, by decide +kernel⟩
theorem w_left_by (X : Txt K w mg) (F : FT P w K mg base k) (hr : Room (2 * k + 1) (A.deeper (envOfC "left_by" (defScope (top 48)) s.heap.objs.size (adr K 48) cdv))) :
    PSsW (cxOf (L2.CX P w) P w K mg base N_left_by "left_by" (defScope (top 48)) (adr K 48) cdv A outer s H E) (fun cls d _ H => E cls d H) (defBody (top 48)) (m_left_by (callF T k)) := by
  have hr0 := hr.mono (Nat.le_succ (2 * k))
  have h1 := hu_of hr
  have h64 := hr.units
  have h65 := room65 hr
  have tk : Takes (cxOf (L2.CX P w) P w K mg base N_left_by "left_by" (defScope (top 48)) (adr K 48) cdv A outer s H E) (fun cls d _ H => E cls d H) := takes_of rfl rfl rfl rfl
  have po : PassesOwn (model (cxOf (L2.CX P w) P w K mg base N_left_by "left_by" (defScope (top 48)) (adr K 48) cdv A outer s H E).prog w) (cxOf (L2.CX P w) P w K mg base N_left_by "left_by" (defScope (top 48)) (adr K 48) cdv A outer s H E).A (cxOf (L2.CX P w) P w K mg base N_left_by "left_by" (defScope (top 48)) (adr K 48) cdv A outer s H E).env (cxOf (L2.CX P w) P w K mg base N_left_by "left_by" (defScope (top 48)) (adr K 48) cdv A outer s H E).xe := passes_of rfl
  exact (ssw_cons (sw_tg (pw_v (i := 0) rfl (.inl rfl) nb_row.1 nb_row.2) (pgw_tu rfl (pgsw_cons (pgw_nm (i := 3) sc_left_by.nd rfl (.inr rfl) (.inl rfl)) (pgsw_cons (pgw_nm (i := 4) sc_left_by.nd rfl (.inr rfl) (.inl rfl)) (pgsw_cons (pgw_nm (i := 5) sc_left_by.nd rfl (.inl rfl) (.inl rfl)) pgsw_nil rfl) rfl) rfl) rfl rfl) rfl rfl rfl) (ssw_cons (sw_lc (i := 6) (own := [("k", 9)]) .val rfl sc_left_by.nd rfl rfl (sw_true rfl rfl rfl (by decide +kernel)) (PIS.c (pis_rg1 rfl X.f_range (pw_cons (pw_v (i := 1) rfl (.inr (.inl rfl)) nb_part.1 nb_part.2) pw_nil rfl) rfl)) (blkOk_by (N := N_left_by) (sc := (defScope (top 48))) (by decide +kernel)) (inS_sub rfl) (fun _ _ _ _ _ => (pgw_nm (i := 9) sc_left_by.nd rfl (.inl rfl) (.inr rfl))) (fun _ _ _ _ _ => (pts_1 (ptw_cmp (op_eqD h64) oc_eq (PEW.t (pw_op op_modN oc_mod (PEW.t (pw_op op_add4 oc_add (pt_v (i := 3) rfl (.inr (.inl rfl)) nb_first.1 nb_first.2) (PEW.t (pw_op op_mul4 oc_mul (pt_v (i := 9) rfl (.inl rfl) nb_k.1 nb_k.2) (pt_v (i := 4) rfl (.inr (.inl rfl)) nb_step.1 nb_step.2))))) (pt_v (i := 1) rfl (.inr (.inl rfl)) nb_part.1 nb_part.2))) (pt_v (i := 2) rfl (.inr (.inl rfl)) nb_rest.1 nb_rest.2) rfl))) (fun _ _ _ _ _ => (pw_v (i := 9) rfl (.inl rfl) nb_k.1 nb_k.2)) (fun _ => rfl)) (ssw_cons (sw_if (PWW.t (ptw_or (ptw_cmp (op_eqD h64) oc_eq (pt_v (i := 6) rfl (.inl rfl) nb_some.1 nb_some.2) (PEW.t (PEF.w (pf_lst pw_nil))) rfl) (ptw_or1 (ptw_chain op_lt4 op_le oc_lt oc_le (PEW.t pw_int) (pt_v (i := 5) rfl (.inl rfl) nb_many.1 nb_many.2) (PEW.t (pw_ix (pt_v (i := 6) rfl (.inl rfl) nb_some.1 nb_some.2) (PEW.t pw_int) (fun _ _ => rfl))) rfl)))) (ssw_one (sw_ret pw_non)) ssw_nil) (ssw_cons (sw_set (i := 7) sc_left_by.nd rfl (.inl rfl) (.inl rfl) (pw_if (ptw_cmp op_gt oc_gt (PEW.t (pw_bi (id := "len") call_len3 cb_len rfl X.f_len bb_len bn_len nb_len.1 (pat_cons (pt_v (i := 6) rfl (.inl rfl) nb_some.1 nb_some.2) pat_nil rfl) rfl rfl)) (PEW.t pw_int) rfl) (pw_op op_sub oc_sub (PEW.t (pw_ix (pt_v (i := 6) rfl (.inl rfl) nb_some.1 nb_some.2) (PEW.t pw_int) (fun _ _ => rfl))) (PEW.t (pw_ix (pt_v (i := 6) rfl (.inl rfl) nb_some.1 nb_some.2) (PEW.t pw_int) (fun _ _ => rfl)))) (pw_v (i := 1) rfl (.inr (.inl rfl)) nb_part.1 nb_part.2)) rfl) (ssw_cons (sw_set (i := 8) sc_left_by.nd rfl (.inl rfl) (.inl rfl) (pw_if (ptw_cmp op_gt oc_gt (pt_v (i := 5) rfl (.inl rfl) nb_many.1 nb_many.2) (PEW.t pw_int) rfl) (pw_op op_fdivN oc_div (PEW.t (pw_op op_sub oc_sub (PEW.t (pw_op op_add4 oc_add (PEW.t (pw_op op_sub oc_sub (pt_v (i := 5) rfl (.inl rfl) nb_many.1 nb_many.2) (PEW.t (pw_ix (pt_v (i := 6) rfl (.inl rfl) nb_some.1 nb_some.2) (PEW.t pw_int) (fun _ _ => rfl))))) (pt_v (i := 7) rfl (.inl rfl) nb_gap.1 nb_gap.2))) (PEW.t pw_int))) (pt_v (i := 7) rfl (.inl rfl) nb_gap.1 nb_gap.2)) pw_int) rfl) (ssw_one (sw_ret (pw_call (F 45 _ rfl) hr0 tk rfl X.g_as_row nb_as_row.1 (pw_cons (pw_op op_add4 oc_add (pt_v (i := 3) rfl (.inr (.inl rfl)) nb_first.1 nb_first.2) (PEW.t (pw_op op_mul4 oc_mul (PEW.t (pw_ix (pt_v (i := 6) rfl (.inl rfl) nb_some.1 nb_some.2) (PEW.t pw_int) (fun _ _ => rfl))) (pt_v (i := 4) rfl (.inr (.inl rfl)) nb_step.1 nb_step.2)))) (pw_cons (pw_op op_mul4 oc_mul (pt_v (i := 7) rfl (.inl rfl) nb_gap.1 nb_gap.2) (pt_v (i := 4) rfl (.inr (.inl rfl)) nb_step.1 nb_step.2)) (pw_cons (pw_v (i := 8) rfl (.inl rfl) nb_count.1 nb_count.2) pw_nil rfl) rfl) rfl) rfl rfl))))))))
abbrev N_split : List Str := ["lanes", "test", "part", "rest", "others", "yes", "no", "one", "row"]
abbrev P_split : List Str := ["lanes", "test"]
theorem sc_split : FnScope N_split P_split (defScope (top 49)) := ⟨rfl, rfl, rfl, by decide +kernel, rfl, by decide +kernel, by decide +kernel⟩
theorem w_split (X : Txt K w mg) (F : FT P w K mg base k) (hr : Room (2 * k + 1) (A.deeper (envOfC "split" (defScope (top 49)) s.heap.objs.size (adr K 49) cdv))) :
    PSsW (cxOf (L2.CX P w) P w K mg base N_split "split" (defScope (top 49)) (adr K 49) cdv A outer s H E) (fun cls d _ H => E cls d H) (defBody (top 49)) (m_split (callF T k)) := by
  have hr0 := hr.mono (Nat.le_succ (2 * k))
  have h1 := hu_of hr
  have h64 := hr.units
  have h65 := room65 hr
  have tk : Takes (cxOf (L2.CX P w) P w K mg base N_split "split" (defScope (top 49)) (adr K 49) cdv A outer s H E) (fun cls d _ H => E cls d H) := takes_of rfl rfl rfl rfl
  have po : PassesOwn (model (cxOf (L2.CX P w) P w K mg base N_split "split" (defScope (top 49)) (adr K 49) cdv A outer s H E).prog w) (cxOf (L2.CX P w) P w K mg base N_split "split" (defScope (top 49)) (adr K 49) cdv A outer s H E).A (cxOf (L2.CX P w) P w K mg base N_split "split" (defScope (top 49)) (adr K 49) cdv A outer s H E).env (cxOf (L2.CX P w) P w K mg base N_split "split" (defScope (top 49)) (adr K 49) cdv A outer s H E).xe := passes_of rfl
  exact (ssw_cons (sw_if (ptw_cmp (op_eqD h64) oc_eq (PEW.t (pw_ix (pt_v (i := 1) rfl (.inr (.inl rfl)) nb_test.1 nb_test.2) (PEW.t pw_int) (fun _ _ => rfl))) (PEW.t (pw_k rfl X.k_REST nb_REST.1)) rfl) (ssw_cons (sw_tg (pw_cut (pt_v (i := 1) rfl (.inr (.inl rfl)) nb_test.1 nb_test.2) (pow_some (PEW.t pw_int)) pow_none) (pgw_tu rfl (pgsw_cons (pgw_nm (i := 2) sc_split.nd rfl (.inr rfl) (.inl rfl)) (pgsw_cons (pgw_nm (i := 3) sc_split.nd rfl (.inr rfl) (.inl rfl)) pgsw_nil rfl) rfl) rfl rfl) rfl rfl rfl) (ssw_cons (sw_set (i := 4) sc_split.nd rfl (.inr rfl) (.inl rfl) (PEF.w (pf_lc (own := [("one", 7)]) rfl sc_split.nd (PIS.c (pis_rg1 rfl X.f_range (pw_cons (pw_v (i := 2) rfl (.inr (.inl rfl)) nb_part.1 nb_part.2) pw_nil rfl) rfl)) (blkOk_by (N := N_split) (sc := (defScope (top 49))) (by decide +kernel)) (inS_sub rfl) (fun _ _ _ _ _ => (pgw_nm (i := 7) sc_split.nd rfl (.inl rfl) (.inr rfl))) (fun _ _ _ _ _ => (pts_1 (ptw_cmp (op_neD h64) oc_ne (pt_v (i := 7) rfl (.inl rfl) nb_one.1 nb_one.2) (pt_v (i := 3) rfl (.inr (.inl rfl)) nb_rest.1 nb_rest.2) rfl))) (fun _ _ _ _ _ => (pw_v (i := 7) rfl (.inl rfl) nb_one.1 nb_one.2)) (fun _ => rfl))) rfl) (ssw_cons (sw_lc (i := 5) (own := [("row", 8)]) .val rfl sc_split.nd rfl rfl (sw_true rfl rfl rfl (by decide +kernel)) (pic_seq (pt_v (i := 0) rfl (.inl rfl) nb_lanes.1 nb_lanes.2)) (blkOk_by (N := N_split) (sc := (defScope (top 49))) (by decide +kernel)) (inS_sub rfl) (fun _ _ _ _ _ => (pgw_nm (i := 8) sc_split.nd rfl (.inl rfl) (.inr rfl))) (fun _ _ _ _ _ => pts_no) (fun _ _ _ _ _ => (pw_call (F 48 _ rfl) hr0 takes0 rfl X.g_left_by nb_left_by.1 (pw_cons (pw_v (i := 8) rfl (.inl rfl) nb_row.1 nb_row.2) (pw_cons (pw_v (i := 2) rfl (.inr (.inl rfl)) nb_part.1 nb_part.2) (pw_cons (pw_v (i := 3) rfl (.inr (.inl rfl)) nb_rest.1 nb_rest.2) pw_nil rfl) rfl) rfl) rfl rfl)) (fun _ => rfl)) (ssw_one (sw_lc2 (i := 6) (own := [("row", 8), ("one", 7)]) .val rfl sc_split.nd rfl rfl (sw_true rfl rfl rfl (by decide +kernel)) (pic_seq (pt_v (i := 0) rfl (.inl rfl) nb_lanes.1 nb_lanes.2)) (blkOk_by (N := N_split) (sc := (defScope (top 49))) (by decide +kernel)) (inS_sub rfl) (inS_sub rfl) (sub_mem rfl) (fun _ _ _ _ _ => (pgw_nm (i := 8) sc_split.nd rfl (.inl rfl) (.inr rfl))) (fun _ _ _ _ _ => pts_no) (fun _ _ _ _ _ => (pic_seq (pt_v (i := 4) rfl (.inr (.inl rfl)) nb_others.1 nb_others.2))) (fun _ _ _ _ _ => (pgw_nm (i := 7) sc_split.nd rfl (.inl rfl) (.inr rfl))) (fun _ _ _ _ _ => pts_no) (fun _ _ _ _ _ => (pw_call (F 48 _ rfl) hr0 takes0 rfl X.g_left_by nb_left_by.1 (pw_cons (pw_v (i := 8) rfl (.inl rfl) nb_row.1 nb_row.2) (pw_cons (pw_v (i := 2) rfl (.inr (.inl rfl)) nb_part.1 nb_part.2) (pw_cons (pw_v (i := 7) rfl (.inl rfl) nb_one.1 nb_one.2) pw_nil rfl) rfl) rfl) rfl rfl)) (fun _ => rfl) (fun _ _ => rfl)))))) (ssw_one (sw_if (ptw_cmp (op_eqD h64) oc_eq (PEW.t (pw_ix (pt_v (i := 1) rfl (.inr (.inl rfl)) nb_test.1 nb_test.2) (PEW.t pw_int) (fun _ _ => rfl))) (PEW.t (pw_str x30_ok)) rfl) (ssw_cons (sw_lc (i := 5) (own := [("row", 8)]) .val rfl sc_split.nd rfl rfl (sw_true rfl rfl rfl (by decide +kernel)) (pic_seq (PEW.t (PEF.w (pf_lc (own := [("row", 8)]) rfl sc_split.nd (pic_seq (pt_v (i := 0) rfl (.inl rfl) nb_lanes.1 nb_lanes.2)) (blkOk_by (N := N_split) (sc := (defScope (top 49))) (by decide +kernel)) (inS_sub rfl) (fun _ _ _ _ _ => (pgw_nm (i := 8) sc_split.nd rfl (.inl rfl) (.inr rfl))) (fun _ _ _ _ _ => pts_no) (fun _ _ _ _ _ => (pw_call (F 46 _ rfl) hr0 takes0 rfl X.g_from_on nb_from_on.1 (pw_cons (pw_v (i := 8) rfl (.inl rfl) nb_row.1 nb_row.2) (pw_cons (pw_ix (pt_v (i := 1) rfl (.inr (.inl rfl)) nb_test.1 nb_test.2) (PEW.t pw_int) (fun _ _ => rfl)) pw_nil rfl) rfl) rfl rfl)) (fun _ => rfl))))) (blkOk_by (N := N_split) (sc := (defScope (top 49))) (by decide +kernel)) (inS_sub rfl) (fun _ _ _ _ _ => (pgw_nm (i := 8) sc_split.nd rfl (.inl rfl) (.inr rfl))) (fun _ _ _ _ _ => (pts_1 (ptw_notN (pt_v (i := 8) rfl (.inl rfl) nb_row.1 nb_row.2)))) (fun _ _ _ _ _ => (pw_call (F 47 _ rfl) hr0 takes0 rfl X.g_up_to nb_up_to.1 (pw_cons (pw_v (i := 8) rfl (.inl rfl) nb_row.1 nb_row.2) (pw_cons (pw_op op_add4 oc_add (PEW.t (pw_ix (pt_v (i := 1) rfl (.inr (.inl rfl)) nb_test.1 nb_test.2) (PEW.t pw_int) (fun _ _ => rfl))) (PEW.t pw_int)) pw_nil rfl) rfl) rfl rfl)) (fun _ => rfl)) (ssw_one (sw_set (i := 6) sc_split.nd rfl (.inl rfl) (.inl rfl) (pw_op op_add4 oc_add (PEW.t (PEF.w (pf_lc (own := [("row", 8)]) rfl sc_split.nd (pic_seq (pt_v (i := 0) rfl (.inl rfl) nb_lanes.1 nb_lanes.2)) (blkOk_by (N := N_split) (sc := (defScope (top 49))) (by decide +kernel)) (inS_sub rfl) (fun _ _ _ _ _ => (pgw_nm (i := 8) sc_split.nd rfl (.inl rfl) (.inr rfl))) (fun _ _ _ _ _ => pts_no) (fun _ _ _ _ _ => (pw_call (F 47 _ rfl) hr0 takes0 rfl X.g_up_to nb_up_to.1 (pw_cons (pw_v (i := 8) rfl (.inl rfl) nb_row.1 nb_row.2) (pw_cons (pw_ix (pt_v (i := 1) rfl (.inr (.inl rfl)) nb_test.1 nb_test.2) (PEW.t pw_int) (fun _ _ => rfl)) pw_nil rfl) rfl) rfl rfl)) (fun _ => rfl)))) (PEW.t (PEF.w (pf_lc (own := [("row", 8)]) rfl sc_split.nd (pic_seq (pt_v (i := 0) rfl (.inl rfl) nb_lanes.1 nb_lanes.2)) (blkOk_by (N := N_split) (sc := (defScope (top 49))) (by decide +kernel)) (inS_sub rfl) (fun _ _ _ _ _ => (pgw_nm (i := 8) sc_split.nd rfl (.inl rfl) (.inr rfl))) (fun _ _ _ _ _ => pts_no) (fun _ _ _ _ _ => (pw_call (F 46 _ rfl) hr0 takes0 rfl X.g_from_on nb_from_on.1 (pw_cons (pw_v (i := 8) rfl (.inl rfl) nb_row.1 nb_row.2) (pw_cons (pw_op op_add4 oc_add (PEW.t (pw_ix (pt_v (i := 1) rfl (.inr (.inl rfl)) nb_test.1 nb_test.2) (PEW.t pw_int) (fun _ _ => rfl))) (PEW.t pw_int)) pw_nil rfl) rfl) rfl rfl)) (fun _ => rfl))))) rfl))) (ssw_cons (sw_lc (i := 5) (own := [("row", 8)]) .val rfl sc_split.nd rfl rfl (sw_true rfl rfl rfl (by decide +kernel)) (pic_seq (pt_v (i := 0) rfl (.inl rfl) nb_lanes.1 nb_lanes.2)) (blkOk_by (N := N_split) (sc := (defScope (top 49))) (by decide +kernel)) (inS_sub rfl) (fun _ _ _ _ _ => (pgw_nm (i := 8) sc_split.nd rfl (.inl rfl) (.inr rfl))) (fun _ _ _ _ _ => pts_no) (fun _ _ _ _ _ => (pw_call (F 47 _ rfl) hr0 takes0 rfl X.g_up_to nb_up_to.1 (pw_cons (pw_v (i := 8) rfl (.inl rfl) nb_row.1 nb_row.2) (pw_cons (pw_ix (pt_v (i := 1) rfl (.inr (.inl rfl)) nb_test.1 nb_test.2) (PEW.t pw_int) (fun _ _ => rfl)) pw_nil rfl) rfl) rfl rfl)) (fun _ => rfl)) (ssw_cons (sw_lc (i := 6) (own := [("row", 8)]) .val rfl sc_split.nd rfl rfl (sw_true rfl rfl rfl (by decide +kernel)) (pic_seq (pt_v (i := 0) rfl (.inl rfl) nb_lanes.1 nb_lanes.2)) (blkOk_by (N := N_split) (sc := (defScope (top 49))) (by decide +kernel)) (inS_sub rfl) (fun _ _ _ _ _ => (pgw_nm (i := 8) sc_split.nd rfl (.inl rfl) (.inr rfl))) (fun _ _ _ _ _ => pts_no) (fun _ _ _ _ _ => (pw_call (F 46 _ rfl) hr0 takes0 rfl X.g_from_on nb_from_on.1 (pw_cons (pw_v (i := 8) rfl (.inl rfl) nb_row.1 nb_row.2) (pw_cons (pw_ix (pt_v (i := 1) rfl (.inr (.inl rfl)) nb_test.1 nb_test.2) (PEW.t pw_int) (fun _ _ => rfl)) pw_nil rfl) rfl) rfl rfl)) (fun _ => rfl)) (ssw_one (sw_if (ptw_cmp (op_eqD h64) oc_eq (PEW.t (pw_ix (pt_v (i := 1) rfl (.inr (.inl rfl)) nb_test.1 nb_test.2) (PEW.t pw_int) (fun _ _ => rfl))) (PEW.t (pw_str x31_ok)) rfl) (ssw_one (sw_par (i := 5) (j := 6) rfl sc_split.nd rfl rfl (by decide) rfl rfl (pw_cons (pw_v (i := 6) rfl (.inl rfl) nb_no.1 nb_no.2) (pw_cons (pw_v (i := 5) rfl (.inl rfl) nb_yes.1 nb_yes.2) pw_nil rfl) rfl) rfl rfl)) ssw_nil))))))) (ssw_one (sw_ret (pw_tup (pw_cons (pw_call (F 50 _ rfl) hr0 tk rfl X.g_risen nb_risen.1 (pw_cons (pw_v (i := 5) rfl (.inl rfl) nb_yes.1 nb_yes.2) pw_nil rfl) rfl rfl) (pw_cons (pw_call (F 50 _ rfl) hr0 tk rfl X.g_risen nb_risen.1 (pw_cons (pw_v (i := 6) rfl (.inl rfl) nb_no.1 nb_no.2) pw_nil rfl) rfl rfl) pw_nil rfl) rfl)))))
abbrev N_risen : List Str := ["rows", "row"]
abbrev P_risen : List Str := ["rows"]
theorem sc_risen : FnScope N_risen P_risen (defScope (top 50)) := ⟨rfl, rfl, rfl, by decide +kernel, rfl, by decide +kernel, by decide +kernel⟩
theorem w_risen (X : Txt K w mg) (F : FT P w K mg base k) (hr : Room (2 * k + 1) (A.deeper (envOfC "risen" (defScope (top 50)) s.heap.objs.size (adr K 50) cdv))) :
    PSsW (cxOf (L2.CX P w) P w K mg base N_risen "risen" (defScope (top 50)) (adr K 50) cdv A outer s H E) (fun cls d _ H => E cls d H) (defBody (top 50)) (m_risen (callF T k)) := by
  have hr0 := hr.mono (Nat.le_succ (2 * k))
  have h1 := hu_of hr
  have h64 := hr.units
  have h65 := room65 hr
  have tk : Takes (cxOf (L2.CX P w) P w K mg base N_risen "risen" (defScope (top 50)) (adr K 50) cdv A outer s H E) (fun cls d _ H => E cls d H) := takes_of rfl rfl rfl rfl
  have po : PassesOwn (model (cxOf (L2.CX P w) P w K mg base N_risen "risen" (defScope (top 50)) (adr K 50) cdv A outer s H E).prog w) (cxOf (L2.CX P w) P w K mg base N_risen "risen" (defScope (top 50)) (adr K 50) cdv A outer s H E).A (cxOf (L2.CX P w) P w K mg base N_risen "risen" (defScope (top 50)) (adr K 50) cdv A outer s H E).env (cxOf (L2.CX P w) P w K mg base N_risen "risen" (defScope (top 50)) (adr K 50) cdv A outer s H E).xe := passes_of rfl
  exact (ssw_one (sw_ret (pw_ty (T := "tuple") call_tuple_of cb_tuple rfl X.f_tuple bb_tuple bn_tuple nb_tuple.1 (pat_cons (PEW.t (PEF.w (pf_bi (id := "sorted") cr_sortV cf_sortT rfl X.f_sorted bb_sorted bn_sorted nb_sorted.1 (pat_cons (PEW.t (PEF.w (pf_lc (own := [("row", 1)]) rfl sc_risen.nd (pic_seq (pt_v (i := 0) rfl (.inl rfl) nb_rows.1 nb_rows.2)) (blkOk_by (N := N_risen) (sc := (defScope (top 50))) (by decide +kernel)) (inS_sub rfl) (fun _ _ _ _ _ => (pgw_nm (i := 1) sc_risen.nd rfl (.inl rfl) (.inr rfl))) (fun _ _ _ _ _ => (pts_1 (ptw_notN (pt_v (i := 1) rfl (.inl rfl) nb_row.1 nb_row.2)))) (fun _ _ _ _ _ => (pw_v (i := 1) rfl (.inl rfl) nb_row.1 nb_row.2)) (fun _ => rfl)))) pat_nil rfl) rfl rfl))) pat_nil rfl) rfl rfl)))
abbrev N_Flat___init__ : List Str := ["self", "turn"]
abbrev P_Flat___init__ : List Str := ["self", "turn"]
theorem sc_Flat___init__ : FnScope N_Flat___init__ P_Flat___init__ (defScope (inClass (top 58) 0)) := ⟨rfl, rfl, rfl, by decide +kernel, rfl, by decide +kernel, by decide +kernel⟩
theorem w_Flat___init__ (X : Txt K w mg) (F : FT P w K mg base k) (hr : Room (2 * k + 1) (A.deeper (envOfC "Flat.__init__" (defScope (inClass (top 58) 0)) s.heap.objs.size (adr K 52) cdv))) :
    PSsW (cxOf (L2.CX P w) P w K mg base N_Flat___init__ "Flat.__init__" (defScope (inClass (top 58) 0)) (adr K 52) cdv A outer s H E) (fun cls d _ H => E cls d H) (defBody (inClass (top 58) 0)) (m_Flat___init__ (callF T k)) := by
  have hr0 := hr.mono (Nat.le_succ (2 * k))
  have h1 := hu_of hr
  have h64 := hr.units
  have h65 := room65 hr
  have tk : Takes (cxOf (L2.CX P w) P w K mg base N_Flat___init__ "Flat.__init__" (defScope (inClass (top 58) 0)) (adr K 52) cdv A outer s H E) (fun cls d _ H => E cls d H) := takes_of rfl rfl rfl rfl
  have po : PassesOwn (model (cxOf (L2.CX P w) P w K mg base N_Flat___init__ "Flat.__init__" (defScope (inClass (top 58) 0)) (adr K 52) cdv A outer s H E).prog w) (cxOf (L2.CX P w) P w K mg base N_Flat___init__ "Flat.__init__" (defScope (inClass (top 58) 0)) (adr K 52) cdv A outer s H E).A (cxOf (L2.CX P w) P w K mg base N_Flat___init__ "Flat.__init__" (defScope (inClass (top 58) 0)) (adr K 52) cdv A outer s H E).env (cxOf (L2.CX P w) P w K mg base N_Flat___init__ "Flat.__init__" (defScope (inClass (top 58) 0)) (adr K 52) cdv A outer s H E).xe := passes_of rfl
  exact (ssw_cons (sw_fld x18_ok X.cl_Flat X.na_Flat_turn (pt_v (i := 0) rfl (.inl rfl) nb_self.1 nb_self.2) (pw_v (i := 1) rfl (.inl rfl) nb_turn.1 nb_turn.2) rfl) (ssw_one (sw_fld x32_ok X.cl_Flat X.na_Flat_rows (pt_v (i := 0) rfl (.inl rfl) nb_self.1 nb_self.2) (pw_heap (pf_lst pw_nil)) rfl)))
abbrev N_Flat_block : List Str := ["self", "rows", "lanes", "known", "number", "deed", "parts"]
abbrev P_Flat_block : List Str := ["self", "rows", "lanes", "known"]
theorem sc_Flat_block : FnScope N_Flat_block P_Flat_block (defScope (inClass (top 58) 1)) := ⟨rfl, rfl, rfl, by decide +kernel, rfl, by decide +kernel, by decide +kernel⟩
theorem w_Flat_block (X : Txt K w mg) (F : FT P w K mg base k) (hr : Room (2 * k + 1) (A.deeper (envOfC "Flat.block" (defScope (inClass (top 58) 1)) s.heap.objs.size (adr K 53) cdv))) :
    PSsW (cxOf (L2.CX P w) P w K mg base N_Flat_block "Flat.block" (defScope (inClass (top 58) 1)) (adr K 53) cdv A outer s H E) (fun cls d _ H => E cls d H) (defBody (inClass (top 58) 1)) (m_Flat_block (callF T k)) := by
  have hr0 := hr.mono (Nat.le_succ (2 * k))
  have h1 := hu_of hr
  have h64 := hr.units
  have h65 := room65 hr
  have tk : Takes (cxOf (L2.CX P w) P w K mg base N_Flat_block "Flat.block" (defScope (inClass (top 58) 1)) (adr K 53) cdv A outer s H E) (fun cls d _ H => E cls d H) := takes_of rfl rfl rfl rfl
  have po : PassesOwn (model (cxOf (L2.CX P w) P w K mg base N_Flat_block "Flat.block" (defScope (inClass (top 58) 1)) (adr K 53) cdv A outer s H E).prog w) (cxOf (L2.CX P w) P w K mg base N_Flat_block "Flat.block" (defScope (inClass (top 58) 1)) (adr K 53) cdv A outer s H E).A (cxOf (L2.CX P w) P w K mg base N_Flat_block "Flat.block" (defScope (inClass (top 58) 1)) (adr K 53) cdv A outer s H E).env (cxOf (L2.CX P w) P w K mg base N_Flat_block "Flat.block" (defScope (inClass (top 58) 1)) (adr K 53) cdv A outer s H E).xe := passes_of rfl
  exact (ssw_one (sw_for po rfl (pis_seq (pw_v (i := 1) rfl (.inl rfl) nb_rows.1 nb_rows.2)) (pgw_tu rfl (pgsw_cons (pgw_nm (i := 4) sc_Flat_block.nd rfl (.inl rfl) (.inl rfl)) (pgsw_cons (pgw_nm (i := 5) sc_Flat_block.nd rfl (.inl rfl) (.inl rfl)) (pgsw_cons (pgw_nm (i := 6) sc_Flat_block.nd rfl (.inl rfl) (.inl rfl)) pgsw_nil rfl) rfl) rfl) rfl rfl) (ssw_one (sw_if (ptw_cmp (op_neD h64) oc_ne (pt_v (i := 2) rfl (.inl rfl) nb_lanes.1 nb_lanes.2) (PEW.t (pw_tup pw_nil)) rfl) (ssw_one (sw_exp (pw_meth x33_ok X.cl_Flat X.me_Flat_deed (F 54 _ rfl) hr0 tk (pw_v (i := 0) rfl (.inl rfl) nb_self.1 nb_self.2) (pw_cons (pw_v (i := 4) rfl (.inl rfl) nb_number.1 nb_number.2) (pw_cons (pw_v (i := 5) rfl (.inl rfl) nb_deed.1 nb_deed.2) (pw_cons (pw_v (i := 6) rfl (.inl rfl) nb_parts.1 nb_parts.2) (pw_cons (pw_v (i := 2) rfl (.inl rfl) nb_lanes.1 nb_lanes.2) (pw_cons (pw_v (i := 3) rfl (.inl rfl) nb_known.1 nb_known.2) pw_nil rfl) rfl) rfl) rfl) rfl) rfl rfl rfl) rfl)) ssw_nil)) (fun _ => rfl)))
abbrev N_Flat_deed : List Str := ["self", "number", "deed", "parts", "lanes", "known", "now", "more", "yes", "no"]
abbrev P_Flat_deed : List Str := ["self", "number", "deed", "parts", "lanes", "known"]
theorem sc_Flat_deed : FnScope N_Flat_deed P_Flat_deed (defScope (inClass (top 58) 2)) := ⟨rfl, rfl, rfl, by decide +kernel, rfl, by decide +kernel, by decide +kernel⟩
theorem w_Flat_deed (X : Txt K w mg) (F : FT P w K mg base k) (hr : Room (2 * k + 1) (A.deeper (envOfC "Flat.deed" (defScope (inClass (top 58) 2)) s.heap.objs.size (adr K 54) cdv))) :
    PSsW (cxOf (L2.CX P w) P w K mg base N_Flat_deed "Flat.deed" (defScope (inClass (top 58) 2)) (adr K 54) cdv A outer s H E) (fun cls d _ H => E cls d H) (defBody (inClass (top 58) 2)) (m_Flat_deed (callF T k)) := by
  have hr0 := hr.mono (Nat.le_succ (2 * k))
  have h1 := hu_of hr
  have h64 := hr.units
  have h65 := room65 hr
  have tk : Takes (cxOf (L2.CX P w) P w K mg base N_Flat_deed "Flat.deed" (defScope (inClass (top 58) 2)) (adr K 54) cdv A outer s H E) (fun cls d _ H => E cls d H) := takes_of rfl rfl rfl rfl
  have po : PassesOwn (model (cxOf (L2.CX P w) P w K mg base N_Flat_deed "Flat.deed" (defScope (inClass (top 58) 2)) (adr K 54) cdv A outer s H E).prog w) (cxOf (L2.CX P w) P w K mg base N_Flat_deed "Flat.deed" (defScope (inClass (top 58) 2)) (adr K 54) cdv A outer s H E).A (cxOf (L2.CX P w) P w K mg base N_Flat_deed "Flat.deed" (defScope (inClass (top 58) 2)) (adr K 54) cdv A outer s H E).env (cxOf (L2.CX P w) P w K mg base N_Flat_deed "Flat.deed" (defScope (inClass (top 58) 2)) (adr K 54) cdv A outer s H E).xe := passes_of rfl
  exact (ssw_one (sw_if (ptw_cmp (op_eqD h64) oc_eq (PEW.t (pw_ix (pt_v (i := 2) rfl (.inl rfl) nb_deed.1 nb_deed.2) (PEW.t pw_int) (fun _ _ => rfl))) (PEW.t (pw_k rfl X.k_FENCE nb_FENCE.1)) rfl) (ssw_one (sw_app (pw_fld x32_ok X.cl_Flat X.na_Flat_rows (pt_v (i := 0) rfl (.inl rfl) nb_self.1 nb_self.2) rfl) (pw_tup (pw_cons (pw_v (i := 1) rfl (.inl rfl) nb_number.1 nb_number.2) (pw_cons (pw_k rfl X.k_FENCE nb_FENCE.1) (pw_cons (pw_v (i := 4) rfl (.inl rfl) nb_lanes.1 nb_lanes.2) pw_nil rfl) rfl) rfl)) rfl rfl rfl rfl rfl rfl)) (ssw_one (sw_if (ptw_cmp (op_eqD h64) oc_eq (PEW.t (pw_ix (pt_v (i := 2) rfl (.inl rfl) nb_deed.1 nb_deed.2) (PEW.t pw_int) (fun _ _ => rfl))) (PEW.t (pw_k rfl X.k_READ nb_READ.1)) rfl) (ssw_one (sw_app (pw_fld x32_ok X.cl_Flat X.na_Flat_rows (pt_v (i := 0) rfl (.inl rfl) nb_self.1 nb_self.2) rfl) (pw_tup (pw_cons (pw_v (i := 1) rfl (.inl rfl) nb_number.1 nb_number.2) (pw_cons (pw_k rfl X.k_READ nb_READ.1) (pw_cons (pw_ix (pt_v (i := 2) rfl (.inl rfl) nb_deed.1 nb_deed.2) (PEW.t pw_int) (fun _ _ => rfl)) (pw_cons (pw_v (i := 4) rfl (.inl rfl) nb_lanes.1 nb_lanes.2) (pw_cons (pw_meth x34_ok X.cl_Flat X.me_Flat_form (F 55 _ rfl) hr0 tk (pw_v (i := 0) rfl (.inl rfl) nb_self.1 nb_self.2) (pw_cons (pw_ix (pt_v (i := 2) rfl (.inl rfl) nb_deed.1 nb_deed.2) (PEW.t pw_int) (fun _ _ => rfl)) (pw_cons (pw_v (i := 5) rfl (.inl rfl) nb_known.1 nb_known.2) pw_nil rfl) rfl) rfl rfl rfl) pw_nil rfl) rfl) rfl) rfl) rfl)) rfl rfl rfl rfl rfl rfl)) (ssw_one (sw_if (ptw_cmp (op_eqD h64) oc_eq (PEW.t (pw_ix (pt_v (i := 2) rfl (.inl rfl) nb_deed.1 nb_deed.2) (PEW.t pw_int) (fun _ _ => rfl))) (PEW.t (pw_k rfl X.k_WRITE nb_WRITE.1)) rfl) (ssw_one (sw_app (pw_fld x32_ok X.cl_Flat X.na_Flat_rows (pt_v (i := 0) rfl (.inl rfl) nb_self.1 nb_self.2) rfl) (pw_tup (pw_cons (pw_v (i := 1) rfl (.inl rfl) nb_number.1 nb_number.2) (pw_cons (pw_k rfl X.k_WRITE nb_WRITE.1) (pw_cons (pw_ix (pt_v (i := 2) rfl (.inl rfl) nb_deed.1 nb_deed.2) (PEW.t pw_int) (fun _ _ => rfl)) (pw_cons (pw_v (i := 4) rfl (.inl rfl) nb_lanes.1 nb_lanes.2) (pw_cons (pw_meth x34_ok X.cl_Flat X.me_Flat_form (F 55 _ rfl) hr0 tk (pw_v (i := 0) rfl (.inl rfl) nb_self.1 nb_self.2) (pw_cons (pw_ix (pt_v (i := 2) rfl (.inl rfl) nb_deed.1 nb_deed.2) (PEW.t pw_int) (fun _ _ => rfl)) (pw_cons (pw_v (i := 5) rfl (.inl rfl) nb_known.1 nb_known.2) pw_nil rfl) rfl) rfl rfl rfl) pw_nil rfl) rfl) rfl) rfl) rfl)) rfl rfl rfl rfl rfl rfl)) (ssw_one (sw_if (ptw_cmp (op_eqD h64) oc_eq (PEW.t (pw_ix (pt_v (i := 2) rfl (.inl rfl) nb_deed.1 nb_deed.2) (PEW.t pw_int) (fun _ _ => rfl))) (PEW.t (pw_k rfl X.k_LOOP nb_LOOP.1)) rfl) (ssw_one (sw_for po rfl (pis_rg1 rfl X.f_range (pw_cons (pw_ix (pt_v (i := 2) rfl (.inl rfl) nb_deed.1 nb_deed.2) (PEW.t pw_int) (fun _ _ => rfl)) pw_nil rfl) rfl) (pgw_nm (i := 6) sc_Flat_deed.nd rfl (.inl rfl) (.inl rfl)) (ssw_cons (sw_setO (i := 7) sc_Flat_deed.nd rfl (.inl rfl) (.inl rfl) (pf_ty (T := "dict") call_dictD cf_dict rfl X.f_dict bb_dict bn_dict nb_dict.1 (pat_cons (pt_v (i := 5) rfl (.inl rfl) nb_known.1 nb_known.2) pat_nil rfl) rfl rfl) rfl) (ssw_cons (sw_ixOD (i := 7) h1 rfl (.inl rfl) nb_more.1 nb_more.2 (PEW.t (pw_ix (pt_v (i := 2) rfl (.inl rfl) nb_deed.1 nb_deed.2) (PEW.t pw_int) (fun _ _ => rfl))) (pw_v (i := 6) rfl (.inl rfl) nb_now.1 nb_now.2) rfl) (ssw_fz (i := 7) (ssw_one (sw_exp (pw_meth x27_ok X.cl_Flat X.me_Flat_block (F 53 _ rfl) hr0 tk (pw_v (i := 0) rfl (.inl rfl) nb_self.1 nb_self.2) (pw_cons (pw_ix (pt_v (i := 3) rfl (.inl rfl) nb_parts.1 nb_parts.2) (PEW.t pw_int) (fun _ _ => rfl)) (pw_cons (pw_v (i := 4) rfl (.inl rfl) nb_lanes.1 nb_lanes.2) (pw_cons (pw_v (i := 7) rfl (.inl rfl) nb_more.1 nb_more.2) pw_nil rfl) rfl) rfl) rfl rfl rfl) rfl))))) (fun _ => rfl))) (ssw_one (sw_if (ptw_cmp (op_eqD h64) oc_eq (PEW.t (pw_ix (pt_v (i := 2) rfl (.inl rfl) nb_deed.1 nb_deed.2) (PEW.t pw_int) (fun _ _ => rfl))) (PEW.t (pw_k rfl X.k_IF nb_IF.1)) rfl) (ssw_cons (sw_tg (pw_call (F 49 _ rfl) hr0 tk rfl X.g_split nb_split.1 (pw_cons (pw_v (i := 4) rfl (.inl rfl) nb_lanes.1 nb_lanes.2) (pw_cons (pw_ix (pt_v (i := 2) rfl (.inl rfl) nb_deed.1 nb_deed.2) (PEW.t pw_int) (fun _ _ => rfl)) pw_nil rfl) rfl) rfl rfl) (pgw_tu rfl (pgsw_cons (pgw_nm (i := 8) sc_Flat_deed.nd rfl (.inl rfl) (.inl rfl)) (pgsw_cons (pgw_nm (i := 9) sc_Flat_deed.nd rfl (.inl rfl) (.inl rfl)) pgsw_nil rfl) rfl) rfl rfl) rfl rfl rfl) (ssw_cons (sw_exp (pw_meth x27_ok X.cl_Flat X.me_Flat_block (F 53 _ rfl) hr0 tk (pw_v (i := 0) rfl (.inl rfl) nb_self.1 nb_self.2) (pw_cons (pw_ix (pt_v (i := 3) rfl (.inl rfl) nb_parts.1 nb_parts.2) (PEW.t pw_int) (fun _ _ => rfl)) (pw_cons (pw_v (i := 8) rfl (.inl rfl) nb_yes.1 nb_yes.2) (pw_cons (pw_v (i := 5) rfl (.inl rfl) nb_known.1 nb_known.2) pw_nil rfl) rfl) rfl) rfl rfl rfl) rfl) (ssw_one (sw_exp (pw_meth x27_ok X.cl_Flat X.me_Flat_block (F 53 _ rfl) hr0 tk (pw_v (i := 0) rfl (.inl rfl) nb_self.1 nb_self.2) (pw_cons (pw_ix (pt_v (i := 3) rfl (.inl rfl) nb_parts.1 nb_parts.2) (PEW.t pw_int) (fun _ _ => rfl)) (pw_cons (pw_v (i := 9) rfl (.inl rfl) nb_no.1 nb_no.2) (pw_cons (pw_v (i := 5) rfl (.inl rfl) nb_known.1 nb_known.2) pw_nil rfl) rfl) rfl) rfl rfl rfl) rfl)))) ssw_nil))))))))))
abbrev N_Flat_form : List Str := ["self", "place", "known", "some", "rest", "name", "often"]
abbrev P_Flat_form : List Str := ["self", "place", "known"]
theorem sc_Flat_form : FnScope N_Flat_form P_Flat_form (defScope (inClass (top 58) 3)) := ⟨rfl, rfl, rfl, by decide +kernel, rfl, by decide +kernel, by decide +kernel⟩
theorem w_Flat_form (X : Txt K w mg) (F : FT P w K mg base k) (hr : Room (2 * k + 1) (A.deeper (envOfC "Flat.form" (defScope (inClass (top 58) 3)) s.heap.objs.size (adr K 55) cdv))) :
    PSsW (cxOf (L2.CX P w) P w K mg base N_Flat_form "Flat.form" (defScope (inClass (top 58) 3)) (adr K 55) cdv A outer s H E) (fun cls d _ H => E cls d H) (defBody (inClass (top 58) 3)) (m_Flat_form (callF T k)) := by
  have hr0 := hr.mono (Nat.le_succ (2 * k))
  have h1 := hu_of hr
  have h64 := hr.units
  have h65 := room65 hr
  have tk : Takes (cxOf (L2.CX P w) P w K mg base N_Flat_form "Flat.form" (defScope (inClass (top 58) 3)) (adr K 55) cdv A outer s H E) (fun cls d _ H => E cls d H) := takes_of rfl rfl rfl rfl
  have po : PassesOwn (model (cxOf (L2.CX P w) P w K mg base N_Flat_form "Flat.form" (defScope (inClass (top 58) 3)) (adr K 55) cdv A outer s H E).prog w) (cxOf (L2.CX P w) P w K mg base N_Flat_form "Flat.form" (defScope (inClass (top 58) 3)) (adr K 55) cdv A outer s H E).A (cxOf (L2.CX P w) P w K mg base N_Flat_form "Flat.form" (defScope (inClass (top 58) 3)) (adr K 55) cdv A outer s H E).env (cxOf (L2.CX P w) P w K mg base N_Flat_form "Flat.form" (defScope (inClass (top 58) 3)) (adr K 55) cdv A outer s H E).xe := passes_of rfl
  exact (ssw_cons (sw_lc (i := 3) (own := [("name", 5), ("often", 6)]) .val rfl sc_Flat_form.nd rfl rfl (sw_true rfl rfl rfl (by decide +kernel)) (pic_seq (PEW.t (pw_ix (pt_v (i := 1) rfl (.inl rfl) nb_place.1 nb_place.2) (PEW.t pw_int) (fun _ _ => rfl)))) (blkOk_by (N := N_Flat_form) (sc := (defScope (inClass (top 58) 3))) (by decide +kernel)) (inS_sub rfl) (fun _ _ _ _ _ => (pgw_tu rfl (pgsw_cons (pgw_nm (i := 5) sc_Flat_form.nd rfl (.inl rfl) (.inr rfl)) (pgsw_cons (pgw_nm (i := 6) sc_Flat_form.nd rfl (.inl rfl) (.inr rfl)) pgsw_nil rfl) rfl) rfl rfl)) (fun _ _ _ _ _ => (pts_1 (ptw_cmp (op_eqD h64) oc_eq (pt_v (i := 5) rfl (.inl rfl) nb_name.1 nb_name.2) (PEW.t (pw_fld x18_ok X.cl_Flat X.na_Flat_turn (pt_v (i := 0) rfl (.inr (.inl rfl)) nb_self.1 nb_self.2) rfl)) rfl))) (fun _ _ _ _ _ => (pw_v (i := 6) rfl (.inl rfl) nb_often.1 nb_often.2)) (fun _ => rfl)) (ssw_cons (sw_set (i := 4) sc_Flat_form.nd rfl (.inl rfl) (.inl rfl) (pw_bi (id := "sum") (cr_sum rfl) cb_sum rfl X.f_sum bb_sum bn_sum nb_sum.1 (pat_cons (PEW.t (PEF.w (pf_lc (own := [("name", 5), ("often", 6)]) rfl sc_Flat_form.nd (pic_seq (PEW.t (pw_ix (pt_v (i := 1) rfl (.inl rfl) nb_place.1 nb_place.2) (PEW.t pw_int) (fun _ _ => rfl)))) (blkOk_by (N := N_Flat_form) (sc := (defScope (inClass (top 58) 3))) (by decide +kernel)) (inS_sub rfl) (fun _ _ _ _ _ => (pgw_tu rfl (pgsw_cons (pgw_nm (i := 5) sc_Flat_form.nd rfl (.inl rfl) (.inr rfl)) (pgsw_cons (pgw_nm (i := 6) sc_Flat_form.nd rfl (.inl rfl) (.inr rfl)) pgsw_nil rfl) rfl) rfl rfl)) (fun _ _ _ _ _ => (pts_1 (ptw_cmp (op_neD h64) oc_ne (pt_v (i := 5) rfl (.inl rfl) nb_name.1 nb_name.2) (PEW.t (pw_fld x18_ok X.cl_Flat X.na_Flat_turn (pt_v (i := 0) rfl (.inr (.inl rfl)) nb_self.1 nb_self.2) rfl)) rfl))) (fun _ _ _ _ _ => (pw_op op_mul4 oc_mul (PEW.t (pw_dget h1 (pt_v (i := 2) rfl (.inr (.inl rfl)) nb_known.1 nb_known.2) (pt_v (i := 5) rfl (.inl rfl) nb_name.1 nb_name.2) (fun _ _ => rfl))) (pt_v (i := 6) rfl (.inl rfl) nb_often.1 nb_often.2))) (fun _ => rfl)))) pat_nil rfl) rfl rfl) rfl) (ssw_one (sw_ret (pw_tup (pw_cons (pw_ix (pt_v (i := 1) rfl (.inl rfl) nb_place.1 nb_place.2) (PEW.t pw_int) (fun _ _ => rfl)) (pw_cons (pw_bi (id := "sum") (cr_sum rfl) cb_sum rfl X.f_sum bb_sum bn_sum nb_sum.1 (pat_cons (pt_v (i := 3) rfl (.inl rfl) nb_some.1 nb_some.2) pat_nil rfl) rfl rfl) (pw_cons (pw_op op_add4 oc_add (PEW.t (pw_ix (pt_v (i := 1) rfl (.inl rfl) nb_place.1 nb_place.2) (PEW.t pw_int) (fun _ _ => rfl))) (pt_v (i := 4) rfl (.inl rfl) nb_rest.1 nb_rest.2)) pw_nil rfl) rfl) rfl))))))
abbrev N_is_fenced : List Str := ["rows", "row"]
abbrev P_is_fenced : List Str := ["rows"]
theorem sc_is_fenced : FnScope N_is_fenced P_is_fenced (defScope (top 59)) := ⟨rfl, rfl, rfl, by decide +kernel, rfl, by decide +kernel, by decide +kernel⟩
theorem w_is_fenced (X : Txt K w mg) (F : FT P w K mg base k) (hr : Room (2 * k + 1) (A.deeper (envOfC "is_fenced" (defScope (top 59)) s.heap.objs.size (adr K 56) cdv))) :
    PSsW (cxOf (L2.CX P w) P w K mg base N_is_fenced "is_fenced" (defScope (top 59)) (adr K 56) cdv A outer s H E) (fun cls d _ H => E cls d H) (defBody (top 59)) (m_is_fenced (callF T k)) := by
  have hr0 := hr.mono (Nat.le_succ (2 * k))
  have h1 := hu_of hr
  have h64 := hr.units
  have h65 := room65 hr
  have tk : Takes (cxOf (L2.CX P w) P w K mg base N_is_fenced "is_fenced" (defScope (top 59)) (adr K 56) cdv A outer s H E) (fun cls d _ H => E cls d H) := takes_of rfl rfl rfl rfl
  have po : PassesOwn (model (cxOf (L2.CX P w) P w K mg base N_is_fenced "is_fenced" (defScope (top 59)) (adr K 56) cdv A outer s H E).prog w) (cxOf (L2.CX P w) P w K mg base N_is_fenced "is_fenced" (defScope (top 59)) (adr K 56) cdv A outer s H E).A (cxOf (L2.CX P w) P w K mg base N_is_fenced "is_fenced" (defScope (top 59)) (adr K 56) cdv A outer s H E).env (cxOf (L2.CX P w) P w K mg base N_is_fenced "is_fenced" (defScope (top 59)) (adr K 56) cdv A outer s H E).xe := passes_of rfl
  exact (ssw_one (sw_ret (pw_bi (id := "any") (cr_any rfl) cb_any rfl X.f_any bb_any bn_any nb_any.1 (pat_cons (PEW.t (PEF.w (pf_lc (own := [("row", 1)]) rfl sc_is_fenced.nd (pic_seq (pt_v (i := 0) rfl (.inl rfl) nb_rows.1 nb_rows.2)) (blkOk_by (N := N_is_fenced) (sc := (defScope (top 59))) (by decide +kernel)) (inS_sub rfl) (fun _ _ _ _ _ => (pgw_nm (i := 1) sc_is_fenced.nd rfl (.inl rfl) (.inr rfl))) (fun _ _ _ _ _ => pts_no) (fun _ _ _ _ _ => (pw_cmp (op_eqD h64) oc_eq (PEW.t (pw_ix (pt_v (i := 1) rfl (.inl rfl) nb_row.1 nb_row.2) (PEW.t pw_int) (fun _ _ => rfl))) (PEW.t (pw_k rfl X.k_FENCE nb_FENCE.1)) rfl)) (fun _ => rfl)))) pat_nil rfl) rfl rfl)))
abbrev N_items_of : List Str := ["program", "found", "number", "deed", "parts", "flat"]
abbrev P_items_of : List Str := ["program"]
theorem sc_items_of : FnScope N_items_of P_items_of (defScope (top 60)) := ⟨rfl, rfl, rfl, by decide +kernel, rfl, by decide +kernel, by decide +kernel⟩
theorem w_items_of (X : Txt K w mg) (F : FT P w K mg base k) (hr : Room (2 * k + 1) (A.deeper (envOfC "items_of" (defScope (top 60)) s.heap.objs.size (adr K 57) cdv))) :
    PSsW (cxOf (L2.CX P w) P w K mg base N_items_of "items_of" (defScope (top 60)) (adr K 57) cdv A outer s H E) (fun cls d _ H => E cls d H) (defBody (top 60)) (m_items_of (callF T k)) := by
  have hr0 := hr.mono (Nat.le_succ (2 * k))
  have h1 := hu_of hr
  have h64 := hr.units
  have h65 := room65 hr
  have tk : Takes (cxOf (L2.CX P w) P w K mg base N_items_of "items_of" (defScope (top 60)) (adr K 57) cdv A outer s H E) (fun cls d _ H => E cls d H) := takes_of rfl rfl rfl rfl
  have po : PassesOwn (model (cxOf (L2.CX P w) P w K mg base N_items_of "items_of" (defScope (top 60)) (adr K 57) cdv A outer s H E).prog w) (cxOf (L2.CX P w) P w K mg base N_items_of "items_of" (defScope (top 60)) (adr K 57) cdv A outer s H E).A (cxOf (L2.CX P w) P w K mg base N_items_of "items_of" (defScope (top 60)) (adr K 57) cdv A outer s H E).env (cxOf (L2.CX P w) P w K mg base N_items_of "items_of" (defScope (top 60)) (adr K 57) cdv A outer s H E).xe := passes_of rfl
  exact (ssw_cons (sw_setO (i := 1) sc_items_of.nd rfl (.inl rfl) (.inl rfl) (pf_lst pw_nil) rfl) (ssw_cons (sw_for po rfl (pis_seq (pw_ix (PEW.t (pw_call (F 13 _ rfl) hr0 tk rfl X.g_numbered nb_numbered.1 (pw_cons (pw_v (i := 0) rfl (.inl rfl) nb_program.1 nb_program.2) (pw_cons pw_int pw_nil rfl) rfl) rfl rfl)) (PEW.t pw_int) (fun _ _ => rfl))) (pgw_tu rfl (pgsw_cons (pgw_nm (i := 2) sc_items_of.nd rfl (.inl rfl) (.inl rfl)) (pgsw_cons (pgw_nm (i := 3) sc_items_of.nd rfl (.inl rfl) (.inl rfl)) (pgsw_cons (pgw_nm (i := 4) sc_items_of.nd rfl (.inl rfl) (.inl rfl)) pgsw_nil rfl) rfl) rfl) rfl rfl) (ssw_cons (sw_set (i := 5) sc_items_of.nd rfl (.inl rfl) (.inl rfl) (pw_new X.mk_Flat (F 52 _ rfl) hr rfl X.gc_Flat nb_Flat.1 (pw_cons (pw_if (ptw_cmp (op_eqD h64) oc_eq (PEW.t (pw_ix (pt_v (i := 3) rfl (.inl rfl) nb_deed.1 nb_deed.2) (PEW.t pw_int) (fun _ _ => rfl))) (PEW.t (pw_k rfl X.k_TURNS nb_TURNS.1)) rfl) (pw_ix (pt_v (i := 3) rfl (.inl rfl) nb_deed.1 nb_deed.2) (PEW.t pw_int) (fun _ _ => rfl)) pw_non) pw_nil rfl) rfl rfl) rfl) (ssw_cons (sw_if (ptw_cmp (op_eqD h64) oc_eq (PEW.t (pw_ix (pt_v (i := 3) rfl (.inl rfl) nb_deed.1 nb_deed.2) (PEW.t pw_int) (fun _ _ => rfl))) (PEW.t (pw_k rfl X.k_TURNS nb_TURNS.1)) rfl) (ssw_one (sw_exp (pw_meth x27_ok X.cl_Flat X.me_Flat_block (F 53 _ rfl) hr0 tk (pw_v (i := 5) rfl (.inl rfl) nb_flat.1 nb_flat.2) (pw_cons (pw_ix (pt_v (i := 4) rfl (.inl rfl) nb_parts.1 nb_parts.2) (PEW.t pw_int) (fun _ _ => rfl)) (pw_cons (pw_k rfl X.k_ALL nb_ALL.1) (pw_cons (PEF.w pf_dctN) pw_nil rfl) rfl) rfl) rfl rfl rfl) rfl)) (ssw_one (sw_exp (pw_meth x27_ok X.cl_Flat X.me_Flat_block (F 53 _ rfl) hr0 tk (pw_v (i := 5) rfl (.inl rfl) nb_flat.1 nb_flat.2) (pw_cons (PEF.w (pf_lst (pw_cons (pw_tup (pw_cons (pw_v (i := 2) rfl (.inl rfl) nb_number.1 nb_number.2) (pw_cons (pw_v (i := 3) rfl (.inl rfl) nb_deed.1 nb_deed.2) (pw_cons (pw_v (i := 4) rfl (.inl rfl) nb_parts.1 nb_parts.2) pw_nil rfl) rfl) rfl)) pw_nil rfl))) (pw_cons (pw_k rfl X.k_ALL nb_ALL.1) (pw_cons (PEF.w pf_dctN) pw_nil rfl) rfl) rfl) rfl rfl rfl) rfl))) (ssw_one (sw_appO (i := 1) rfl (.inl rfl) nb_found.1 nb_found.2 (pw_tup (pw_cons (pw_if (ptw_cmp (op_eqD h64) oc_eq (PEW.t (pw_ix (pt_v (i := 3) rfl (.inl rfl) nb_deed.1 nb_deed.2) (PEW.t pw_int) (fun _ _ => rfl))) (PEW.t (pw_k rfl X.k_TURNS nb_TURNS.1)) rfl) (pw_ix (pt_v (i := 3) rfl (.inl rfl) nb_deed.1 nb_deed.2) (PEW.t pw_int) (fun _ _ => rfl)) pw_non) (pw_cons (pw_fld x32_ok X.cl_Flat X.na_Flat_rows (pt_v (i := 5) rfl (.inl rfl) nb_flat.1 nb_flat.2) rfl) pw_nil rfl) rfl)) rfl rfl rfl rfl rfl rfl)))) (fun _ => rfl)) (ssw_one (sw_retO (i := 1) rfl (.inl rfl) nb_found.1 nb_found.2))))
abbrev N_parts_of : List Str := ["rows", "found", "row"]
abbrev P_parts_of : List Str := ["rows"]
theorem sc_parts_of : FnScope N_parts_of P_parts_of (defScope (top 61)) := ⟨rfl, rfl, rfl, by decide +kernel, rfl, by decide +kernel, by decide +kernel⟩
theorem w_parts_of (X : Txt K w mg) (F : FT P w K mg base k) (hr : Room (2 * k + 1) (A.deeper (envOfC "parts_of" (defScope (top 61)) s.heap.objs.size (adr K 58) cdv))) :
    PSsW (cxOf (L2.CX P w) P w K mg base N_parts_of "parts_of" (defScope (top 61)) (adr K 58) cdv A outer s H E) (fun cls d _ H => E cls d H) (defBody (top 61)) (m_parts_of (callF T k)) := by
  have hr0 := hr.mono (Nat.le_succ (2 * k))
  have h1 := hu_of hr
  have h64 := hr.units
  have h65 := room65 hr
  have tk : Takes (cxOf (L2.CX P w) P w K mg base N_parts_of "parts_of" (defScope (top 61)) (adr K 58) cdv A outer s H E) (fun cls d _ H => E cls d H) := takes_of rfl rfl rfl rfl
  have po : PassesOwn (model (cxOf (L2.CX P w) P w K mg base N_parts_of "parts_of" (defScope (top 61)) (adr K 58) cdv A outer s H E).prog w) (cxOf (L2.CX P w) P w K mg base N_parts_of "parts_of" (defScope (top 61)) (adr K 58) cdv A outer s H E).A (cxOf (L2.CX P w) P w K mg base N_parts_of "parts_of" (defScope (top 61)) (adr K 58) cdv A outer s H E).env (cxOf (L2.CX P w) P w K mg base N_parts_of "parts_of" (defScope (top 61)) (adr K 58) cdv A outer s H E).xe := passes_of rfl
  exact (ssw_cons (sw_setO (i := 1) sc_parts_of.nd rfl (.inl rfl) (.inl rfl) (pf_lst (pw_cons (pw_heap (pf_lst pw_nil)) pw_nil rfl)) rfl) (ssw_cons (sw_for po rfl (pis_seq (pw_v (i := 0) rfl (.inl rfl) nb_rows.1 nb_rows.2)) (pgw_nm (i := 2) sc_parts_of.nd rfl (.inl rfl) (.inl rfl)) (ssw_one (sw_if (ptw_cmp (op_eqD h64) oc_eq (PEW.t (pw_ix (pt_v (i := 2) rfl (.inl rfl) nb_row.1 nb_row.2) (PEW.t pw_int) (fun _ _ => rfl))) (PEW.t (pw_k rfl X.k_FENCE nb_FENCE.1)) rfl) (ssw_one (sw_appO (i := 1) rfl (.inl rfl) nb_found.1 nb_found.2 (pw_heap (pf_lst pw_nil)) rfl rfl rfl rfl rfl rfl)) (ssw_one (sw_app (pw_ix (pt_v (i := 1) rfl (.inl rfl) nb_found.1 nb_found.2) (PEW.t (pw_neg (PEW.t pw_int))) (fun _ _ => rfl)) (pw_v (i := 2) rfl (.inl rfl) nb_row.1 nb_row.2) rfl rfl rfl rfl rfl rfl)))) (fun _ => rfl)) (ssw_one (sw_retO (i := 1) rfl (.inl rfl) nb_found.1 nb_found.2))))
abbrev N_once : List Str := ["row", "number", "kind", "array", "lanes", "times", "turn", "rest"]
abbrev P_once : List Str := ["row"]
theorem sc_once : FnScope N_once P_once (defScope (top 62)) := ⟨rfl, rfl, rfl, by decide +kernel, rfl, by decide +kernel, by decide +kernel⟩
theorem w_once (X : Txt K w mg) (F : FT P w K mg base k) (hr : Room (2 * k + 1) (A.deeper (envOfC "once" (defScope (top 62)) s.heap.objs.size (adr K 59) cdv))) :
    PSsW (cxOf (L2.CX P w) P w K mg base N_once "once" (defScope (top 62)) (adr K 59) cdv A outer s H E) (fun cls d _ H => E cls d H) (defBody (top 62)) (m_once (callF T k)) := by
  have hr0 := hr.mono (Nat.le_succ (2 * k))
  have h1 := hu_of hr
  have h64 := hr.units
  have h65 := room65 hr
  have tk : Takes (cxOf (L2.CX P w) P w K mg base N_once "once" (defScope (top 62)) (adr K 59) cdv A outer s H E) (fun cls d _ H => E cls d H) := takes_of rfl rfl rfl rfl
  have po : PassesOwn (model (cxOf (L2.CX P w) P w K mg base N_once "once" (defScope (top 62)) (adr K 59) cdv A outer s H E).prog w) (cxOf (L2.CX P w) P w K mg base N_once "once" (defScope (top 62)) (adr K 59) cdv A outer s H E).A (cxOf (L2.CX P w) P w K mg base N_once "once" (defScope (top 62)) (adr K 59) cdv A outer s H E).env (cxOf (L2.CX P w) P w K mg base N_once "once" (defScope (top 62)) (adr K 59) cdv A outer s H E).xe := passes_of rfl
  exact (ssw_cons (sw_tg (pw_v (i := 0) rfl (.inl rfl) nb_row.1 nb_row.2) (pgw_tu rfl (pgsw_cons (pgw_nm (i := 1) sc_once.nd rfl (.inl rfl) (.inl rfl)) (pgsw_cons (pgw_nm (i := 2) sc_once.nd rfl (.inl rfl) (.inl rfl)) (pgsw_cons (pgw_nm (i := 3) sc_once.nd rfl (.inl rfl) (.inl rfl)) (pgsw_cons (pgw_nm (i := 4) sc_once.nd rfl (.inl rfl) (.inl rfl)) (pgsw_cons (pgw_tu rfl (pgsw_cons (pgw_nm (i := 5) sc_once.nd rfl (.inl rfl) (.inl rfl)) (pgsw_cons (pgw_nm (i := 6) sc_once.nd rfl (.inl rfl) (.inl rfl)) (pgsw_cons (pgw_nm (i := 7) sc_once.nd rfl (.inl rfl) (.inl rfl)) pgsw_nil rfl) rfl) rfl) rfl rfl) pgsw_nil rfl) rfl) rfl) rfl) rfl) rfl rfl) rfl rfl rfl) (ssw_one (sw_ret (pw_tup (pw_cons (pw_v (i := 1) rfl (.inl rfl) nb_number.1 nb_number.2) (pw_cons (pw_v (i := 2) rfl (.inl rfl) nb_kind.1 nb_kind.2) (pw_cons (pw_v (i := 3) rfl (.inl rfl) nb_array.1 nb_array.2) (pw_cons (pw_v (i := 4) rfl (.inl rfl) nb_lanes.1 nb_lanes.2) (pw_cons (pw_tup (pw_cons (pw_v (i := 5) rfl (.inl rfl) nb_times.1 nb_times.2) (pw_cons pw_int (pw_cons pw_int (pw_cons (pw_v (i := 7) rfl (.inl rfl) nb_rest.1 nb_rest.2) pw_nil rfl) rfl) rfl) rfl)) pw_nil rfl) rfl) rfl) rfl) rfl)))))
abbrev N_still : List Str := ["row", "number", "kind", "array", "lanes", "times", "turn", "rest"]
abbrev P_still : List Str := ["row"]
theorem sc_still : FnScope N_still P_still (defScope (top 63)) := ⟨rfl, rfl, rfl, by decide +kernel, rfl, by decide +kernel, by decide +kernel⟩
theorem w_still (X : Txt K w mg) (F : FT P w K mg base k) (hr : Room (2 * k + 1) (A.deeper (envOfC "still" (defScope (top 63)) s.heap.objs.size (adr K 60) cdv))) :
    PSsW (cxOf (L2.CX P w) P w K mg base N_still "still" (defScope (top 63)) (adr K 60) cdv A outer s H E) (fun cls d _ H => E cls d H) (defBody (top 63)) (m_still (callF T k)) := by
  have hr0 := hr.mono (Nat.le_succ (2 * k))
  have h1 := hu_of hr
  have h64 := hr.units
  have h65 := room65 hr
  have tk : Takes (cxOf (L2.CX P w) P w K mg base N_still "still" (defScope (top 63)) (adr K 60) cdv A outer s H E) (fun cls d _ H => E cls d H) := takes_of rfl rfl rfl rfl
  have po : PassesOwn (model (cxOf (L2.CX P w) P w K mg base N_still "still" (defScope (top 63)) (adr K 60) cdv A outer s H E).prog w) (cxOf (L2.CX P w) P w K mg base N_still "still" (defScope (top 63)) (adr K 60) cdv A outer s H E).A (cxOf (L2.CX P w) P w K mg base N_still "still" (defScope (top 63)) (adr K 60) cdv A outer s H E).env (cxOf (L2.CX P w) P w K mg base N_still "still" (defScope (top 63)) (adr K 60) cdv A outer s H E).xe := passes_of rfl
  exact (ssw_cons (sw_tg (pw_v (i := 0) rfl (.inl rfl) nb_row.1 nb_row.2) (pgw_tu rfl (pgsw_cons (pgw_nm (i := 1) sc_still.nd rfl (.inl rfl) (.inl rfl)) (pgsw_cons (pgw_nm (i := 2) sc_still.nd rfl (.inl rfl) (.inl rfl)) (pgsw_cons (pgw_nm (i := 3) sc_still.nd rfl (.inl rfl) (.inl rfl)) (pgsw_cons (pgw_nm (i := 4) sc_still.nd rfl (.inl rfl) (.inl rfl)) (pgsw_cons (pgw_tu rfl (pgsw_cons (pgw_nm (i := 5) sc_still.nd rfl (.inl rfl) (.inl rfl)) (pgsw_cons (pgw_nm (i := 6) sc_still.nd rfl (.inl rfl) (.inl rfl)) (pgsw_cons (pgw_nm (i := 7) sc_still.nd rfl (.inl rfl) (.inl rfl)) pgsw_nil rfl) rfl) rfl) rfl rfl) pgsw_nil rfl) rfl) rfl) rfl) rfl) rfl rfl) rfl rfl rfl) (ssw_one (sw_ret (pw_tup (pw_cons (pw_v (i := 1) rfl (.inl rfl) nb_number.1 nb_number.2) (pw_cons (pw_v (i := 2) rfl (.inl rfl) nb_kind.1 nb_kind.2) (pw_cons (pw_v (i := 3) rfl (.inl rfl) nb_array.1 nb_array.2) (pw_cons (pw_v (i := 4) rfl (.inl rfl) nb_lanes.1 nb_lanes.2) (pw_cons (pw_tup (pw_cons (pw_v (i := 5) rfl (.inl rfl) nb_times.1 nb_times.2) (pw_cons pw_int (pw_cons (pw_v (i := 6) rfl (.inl rfl) nb_turn.1 nb_turn.2) (pw_cons (pw_v (i := 7) rfl (.inl rfl) nb_rest.1 nb_rest.2) pw_nil rfl) rfl) rfl) rfl)) pw_nil rfl) rfl) rfl) rfl) rfl)))))
abbrev N_within : List Str := ["row", "more", "number", "kind", "array", "lanes", "times", "turn", "rest"]
abbrev P_within : List Str := ["row", "more"]
theorem sc_within : FnScope N_within P_within (defScope (top 64)) := ⟨rfl, rfl, rfl, by decide +kernel, rfl, by decide +kernel, by decide +kernel⟩
theorem w_within (X : Txt K w mg) (F : FT P w K mg base k) (hr : Room (2 * k + 1) (A.deeper (envOfC "within" (defScope (top 64)) s.heap.objs.size (adr K 61) cdv))) :
    PSsW (cxOf (L2.CX P w) P w K mg base N_within "within" (defScope (top 64)) (adr K 61) cdv A outer s H E) (fun cls d _ H => E cls d H) (defBody (top 64)) (m_within (callF T k)) := by
  have hr0 := hr.mono (Nat.le_succ (2 * k))
  have h1 := hu_of hr
  have h64 := hr.units
  have h65 := room65 hr
  have tk : Takes (cxOf (L2.CX P w) P w K mg base N_within "within" (defScope (top 64)) (adr K 61) cdv A outer s H E) (fun cls d _ H => E cls d H) := takes_of rfl rfl rfl rfl
  have po : PassesOwn (model (cxOf (L2.CX P w) P w K mg base N_within "within" (defScope (top 64)) (adr K 61) cdv A outer s H E).prog w) (cxOf (L2.CX P w) P w K mg base N_within "within" (defScope (top 64)) (adr K 61) cdv A outer s H E).A (cxOf (L2.CX P w) P w K mg base N_within "within" (defScope (top 64)) (adr K 61) cdv A outer s H E).env (cxOf (L2.CX P w) P w K mg base N_within "within" (defScope (top 64)) (adr K 61) cdv A outer s H E).xe := passes_of rfl
  exact (ssw_cons (sw_tg (pw_v (i := 0) rfl (.inl rfl) nb_row.1 nb_row.2) (pgw_tu rfl (pgsw_cons (pgw_nm (i := 2) sc_within.nd rfl (.inl rfl) (.inl rfl)) (pgsw_cons (pgw_nm (i := 3) sc_within.nd rfl (.inl rfl) (.inl rfl)) (pgsw_cons (pgw_nm (i := 4) sc_within.nd rfl (.inl rfl) (.inl rfl)) (pgsw_cons (pgw_nm (i := 5) sc_within.nd rfl (.inl rfl) (.inl rfl)) (pgsw_cons (pgw_tu rfl (pgsw_cons (pgw_nm (i := 6) sc_within.nd rfl (.inl rfl) (.inl rfl)) (pgsw_cons (pgw_nm (i := 7) sc_within.nd rfl (.inl rfl) (.inl rfl)) (pgsw_cons (pgw_nm (i := 8) sc_within.nd rfl (.inl rfl) (.inl rfl)) pgsw_nil rfl) rfl) rfl) rfl rfl) pgsw_nil rfl) rfl) rfl) rfl) rfl) rfl rfl) rfl rfl rfl) (ssw_one (sw_ret (pw_tup (pw_cons (pw_v (i := 2) rfl (.inl rfl) nb_number.1 nb_number.2) (pw_cons (pw_v (i := 3) rfl (.inl rfl) nb_kind.1 nb_kind.2) (pw_cons (pw_v (i := 4) rfl (.inl rfl) nb_array.1 nb_array.2) (pw_cons (pw_v (i := 5) rfl (.inl rfl) nb_lanes.1 nb_lanes.2) (pw_cons (pw_tup (pw_cons (pw_v (i := 6) rfl (.inl rfl) nb_times.1 nb_times.2) (pw_cons (pw_v (i := 7) rfl (.inl rfl) nb_turn.1 nb_turn.2) (pw_cons pw_int (pw_cons (pw_op op_add4 oc_add (pt_v (i := 8) rfl (.inl rfl) nb_rest.1 nb_rest.2) (PEW.t (pw_op op_mul4 oc_mul (pt_v (i := 7) rfl (.inl rfl) nb_turn.1 nb_turn.2) (pt_v (i := 1) rfl (.inl rfl) nb_more.1 nb_more.2)))) pw_nil rfl) rfl) rfl) rfl)) pw_nil rfl) rfl) rfl) rfl) rfl)))))
abbrev N_Maker___init__ : List Str := ["self", "words", "found"]
abbrev P_Maker___init__ : List Str := ["self", "words", "found"]
theorem sc_Maker___init__ : FnScope N_Maker___init__ P_Maker___init__ (defScope (inClass (top 65) 0)) := ⟨rfl, rfl, rfl, by decide +kernel, rfl, by decide +kernel, by decide +kernel⟩
theorem w_Maker___init__ (X : Txt K w mg) (F : FT P w K mg base k) (hr : Room (2 * k + 1) (A.deeper (envOfC "Maker.__init__" (defScope (inClass (top 65) 0)) s.heap.objs.size (adr K 62) cdv))) :
    PSsW (cxOf (L2.CX P w) P w K mg base N_Maker___init__ "Maker.__init__" (defScope (inClass (top 65) 0)) (adr K 62) cdv A outer s H E) (fun cls d _ H => E cls d H) (defBody (inClass (top 65) 0)) (m_Maker___init__ (callF T k)) := by
  have hr0 := hr.mono (Nat.le_succ (2 * k))
  have h1 := hu_of hr
  have h64 := hr.units
  have h65 := room65 hr
  have tk : Takes (cxOf (L2.CX P w) P w K mg base N_Maker___init__ "Maker.__init__" (defScope (inClass (top 65) 0)) (adr K 62) cdv A outer s H E) (fun cls d _ H => E cls d H) := takes_of rfl rfl rfl rfl
  have po : PassesOwn (model (cxOf (L2.CX P w) P w K mg base N_Maker___init__ "Maker.__init__" (defScope (inClass (top 65) 0)) (adr K 62) cdv A outer s H E).prog w) (cxOf (L2.CX P w) P w K mg base N_Maker___init__ "Maker.__init__" (defScope (inClass (top 65) 0)) (adr K 62) cdv A outer s H E).A (cxOf (L2.CX P w) P w K mg base N_Maker___init__ "Maker.__init__" (defScope (inClass (top 65) 0)) (adr K 62) cdv A outer s H E).env (cxOf (L2.CX P w) P w K mg base N_Maker___init__ "Maker.__init__" (defScope (inClass (top 65) 0)) (adr K 62) cdv A outer s H E).xe := passes_of rfl
  exact (ssw_cons (sw_fld x37_ok X.cl_Maker X.na_Maker_words (pt_v (i := 0) rfl (.inl rfl) nb_self.1 nb_self.2) (pw_v (i := 1) rfl (.inl rfl) nb_words.1 nb_words.2) rfl) (ssw_cons (sw_fld x36_ok X.cl_Maker X.na_Maker_now (pt_v (i := 0) rfl (.inl rfl) nb_self.1 nb_self.2) (PEF.w (pf_lst (pw_cons (PEF.w (pf_ty (T := "list") call_list_of cf_list rfl X.f_list bb_list bn_list nb_list.1 (pat_cons (pt_v (i := 1) rfl (.inl rfl) nb_words.1 nb_words.2) pat_nil rfl) rfl rfl)) (pw_cons (pw_heap (pf_lst pw_nil)) pw_nil rfl) rfl))) rfl) (ssw_one (sw_fld x35_ok X.cl_Maker X.na_Maker_found (pt_v (i := 0) rfl (.inl rfl) nb_self.1 nb_self.2) (pw_v (i := 2) rfl (.inl rfl) nb_found.1 nb_found.2) rfl))))
abbrev N_Maker_put : List Str := ["self", "rows"]
abbrev P_Maker_put : List Str := ["self", "rows"]
theorem sc_Maker_put : FnScope N_Maker_put P_Maker_put (defScope (inClass (top 65) 1)) := ⟨rfl, rfl, rfl, by decide +kernel, rfl, by decide +kernel, by decide +kernel⟩
theorem w_Maker_put (X : Txt K w mg) (F : FT P w K mg base k) (hr : Room (2 * k + 1) (A.deeper (envOfC "Maker.put" (defScope (inClass (top 65) 1)) s.heap.objs.size (adr K 63) cdv))) :
    PSsW (cxOf (L2.CX P w) P w K mg base N_Maker_put "Maker.put" (defScope (inClass (top 65) 1)) (adr K 63) cdv A outer s H E) (fun cls d _ H => E cls d H) (defBody (inClass (top 65) 1)) (m_Maker_put (callF T k)) := by
  have hr0 := hr.mono (Nat.le_succ (2 * k))
  have h1 := hu_of hr
  have h64 := hr.units
  have h65 := room65 hr
  have tk : Takes (cxOf (L2.CX P w) P w K mg base N_Maker_put "Maker.put" (defScope (inClass (top 65) 1)) (adr K 63) cdv A outer s H E) (fun cls d _ H => E cls d H) := takes_of rfl rfl rfl rfl
  have po : PassesOwn (model (cxOf (L2.CX P w) P w K mg base N_Maker_put "Maker.put" (defScope (inClass (top 65) 1)) (adr K 63) cdv A outer s H E).prog w) (cxOf (L2.CX P w) P w K mg base N_Maker_put "Maker.put" (defScope (inClass (top 65) 1)) (adr K 63) cdv A outer s H E).A (cxOf (L2.CX P w) P w K mg base N_Maker_put "Maker.put" (defScope (inClass (top 65) 1)) (adr K 63) cdv A outer s H E).env (cxOf (L2.CX P w) P w K mg base N_Maker_put "Maker.put" (defScope (inClass (top 65) 1)) (adr K 63) cdv A outer s H E).xe := passes_of rfl
  exact (ssw_one (sw_ext (pw_ix (PEW.t (pw_fld x36_ok X.cl_Maker X.na_Maker_now (pt_v (i := 0) rfl (.inl rfl) nb_self.1 nb_self.2) rfl)) (PEW.t pw_int) (fun _ _ => rfl)) (pw_v (i := 1) rfl (.inl rfl) nb_rows.1 nb_rows.2) rfl rfl rfl rfl rfl rfl))
abbrev N_Maker_shut : List Str := ["self", "words", "touches", "span"]
abbrev P_Maker_shut : List Str := ["self", "words", "touches"]
theorem sc_Maker_shut : FnScope N_Maker_shut P_Maker_shut (defScope (inClass (top 65) 2)) := ⟨rfl, rfl, rfl, by decide +kernel, rfl, by decide +kernel, by decide +kernel⟩
theorem w_Maker_shut (X : Txt K w mg) (F : FT P w K mg base k) (hr : Room (2 * k + 1) (A.deeper (envOfC "Maker.shut" (defScope (inClass (top 65) 2)) s.heap.objs.size (adr K 64) cdv))) :
    PSsW (cxOf (L2.CX P w) P w K mg base N_Maker_shut "Maker.shut" (defScope (inClass (top 65) 2)) (adr K 64) cdv A outer s H E) (fun cls d _ H => E cls d H) (defBody (inClass (top 65) 2)) (m_Maker_shut (callF T k)) := by
  have hr0 := hr.mono (Nat.le_succ (2 * k))
  have h1 := hu_of hr
  have h64 := hr.units
  have h65 := room65 hr
  have tk : Takes (cxOf (L2.CX P w) P w K mg base N_Maker_shut "Maker.shut" (defScope (inClass (top 65) 2)) (adr K 64) cdv A outer s H E) (fun cls d _ H => E cls d H) := takes_of rfl rfl rfl rfl
  have po : PassesOwn (model (cxOf (L2.CX P w) P w K mg base N_Maker_shut "Maker.shut" (defScope (inClass (top 65) 2)) (adr K 64) cdv A outer s H E).prog w) (cxOf (L2.CX P w) P w K mg base N_Maker_shut "Maker.shut" (defScope (inClass (top 65) 2)) (adr K 64) cdv A outer s H E).A (cxOf (L2.CX P w) P w K mg base N_Maker_shut "Maker.shut" (defScope (inClass (top 65) 2)) (adr K 64) cdv A outer s H E).env (cxOf (L2.CX P w) P w K mg base N_Maker_shut "Maker.shut" (defScope (inClass (top 65) 2)) (adr K 64) cdv A outer s H E).xe := passes_of rfl
  exact (ssw_cons (sw_set (i := 3) sc_Maker_shut.nd rfl (.inl rfl) (.inl rfl) (pw_tup (pw_cons (pw_ty (T := "tuple") call_tuple_of cb_tuple rfl X.f_tuple bb_tuple bn_tuple nb_tuple.1 (pat_cons (pt_v (i := 1) rfl (.inl rfl) nb_words.1 nb_words.2) pat_nil rfl) rfl rfl) (pw_cons (pw_ty (T := "tuple") call_tuple_of cb_tuple rfl X.f_tuple bb_tuple bn_tuple nb_tuple.1 (pat_cons (pt_v (i := 2) rfl (.inl rfl) nb_touches.1 nb_touches.2) pat_nil rfl) rfl rfl) pw_nil rfl) rfl)) rfl) (ssw_one (sw_if (PWW.t (ptw_and (ptw_cmp (op_neD h64) oc_ne (pt_v (i := 2) rfl (.inl rfl) nb_touches.1 nb_touches.2) (PEW.t (PEF.w (pf_lst pw_nil))) rfl) (ptw_and1 (ptw_cmp (op_notin3 h65) oc_notin (pt_v (i := 3) rfl (.inl rfl) nb_span.1 nb_span.2) (PEW.t (pw_fld x35_ok X.cl_Maker X.na_Maker_found (pt_v (i := 0) rfl (.inl rfl) nb_self.1 nb_self.2) rfl)) rfl)))) (ssw_one (sw_app (pw_fld x35_ok X.cl_Maker X.na_Maker_found (pt_v (i := 0) rfl (.inl rfl) nb_self.1 nb_self.2) rfl) (pw_v (i := 3) rfl (.inl rfl) nb_span.1 nb_span.2) rfl rfl rfl rfl rfl rfl)) ssw_nil)))
abbrev N_Maker_fence : List Str := ["self"]
abbrev P_Maker_fence : List Str := ["self"]
theorem sc_Maker_fence : FnScope N_Maker_fence P_Maker_fence (defScope (inClass (top 65) 3)) := ⟨rfl, rfl, rfl, by decide +kernel, rfl, by decide +kernel, by decide +kernel⟩
theorem w_Maker_fence (X : Txt K w mg) (F : FT P w K mg base k) (hr : Room (2 * k + 1) (A.deeper (envOfC "Maker.fence" (defScope (inClass (top 65) 3)) s.heap.objs.size (adr K 65) cdv))) :
    PSsW (cxOf (L2.CX P w) P w K mg base N_Maker_fence "Maker.fence" (defScope (inClass (top 65) 3)) (adr K 65) cdv A outer s H E) (fun cls d _ H => E cls d H) (defBody (inClass (top 65) 3)) (m_Maker_fence (callF T k)) := by
  have hr0 := hr.mono (Nat.le_succ (2 * k))
  have h1 := hu_of hr
  have h64 := hr.units
  have h65 := room65 hr
  have tk : Takes (cxOf (L2.CX P w) P w K mg base N_Maker_fence "Maker.fence" (defScope (inClass (top 65) 3)) (adr K 65) cdv A outer s H E) (fun cls d _ H => E cls d H) := takes_of rfl rfl rfl rfl
  have po : PassesOwn (model (cxOf (L2.CX P w) P w K mg base N_Maker_fence "Maker.fence" (defScope (inClass (top 65) 3)) (adr K 65) cdv A outer s H E).prog w) (cxOf (L2.CX P w) P w K mg base N_Maker_fence "Maker.fence" (defScope (inClass (top 65) 3)) (adr K 65) cdv A outer s H E).A (cxOf (L2.CX P w) P w K mg base N_Maker_fence "Maker.fence" (defScope (inClass (top 65) 3)) (adr K 65) cdv A outer s H E).env (cxOf (L2.CX P w) P w K mg base N_Maker_fence "Maker.fence" (defScope (inClass (top 65) 3)) (adr K 65) cdv A outer s H E).xe := passes_of rfl
  exact (ssw_cons (sw_exp (pw_meth x38_ok X.cl_Maker X.me_Maker_shut (F 64 _ rfl) hr0 tk (pw_v (i := 0) rfl (.inl rfl) nb_self.1 nb_self.2) (pw_cons (pw_ix (PEW.t (pw_fld x36_ok X.cl_Maker X.na_Maker_now (pt_v (i := 0) rfl (.inl rfl) nb_self.1 nb_self.2) rfl)) (PEW.t pw_int) (fun _ _ => rfl)) (pw_cons (pw_ix (PEW.t (pw_fld x36_ok X.cl_Maker X.na_Maker_now (pt_v (i := 0) rfl (.inl rfl) nb_self.1 nb_self.2) rfl)) (PEW.t pw_int) (fun _ _ => rfl)) pw_nil rfl) rfl) rfl rfl rfl) rfl) (ssw_one (sw_fld x36_ok X.cl_Maker X.na_Maker_now (pt_v (i := 0) rfl (.inl rfl) nb_self.1 nb_self.2) (PEF.w (pf_lst (pw_cons (PEF.w (pf_ty (T := "list") call_list_of cf_list rfl X.f_list bb_list bn_list nb_list.1 (pat_cons (PEW.t (pw_fld x37_ok X.cl_Maker X.na_Maker_words (pt_v (i := 0) rfl (.inl rfl) nb_self.1 nb_self.2) rfl)) pat_nil rfl) rfl rfl)) (pw_cons (pw_heap (pf_lst pw_nil)) pw_nil rfl) rfl))) rfl)))
abbrev N_Maker_with_word : List Str := ["self", "number", "word"]
abbrev P_Maker_with_word : List Str := ["self", "number", "word"]
theorem sc_Maker_with_word : FnScope N_Maker_with_word P_Maker_with_word (defScope (inClass (top 65) 4)) := ⟨rfl, rfl, rfl, by decide +kernel, rfl, by decide +kernel, by decide +kernel⟩
theorem w_Maker_with_word (X : Txt K w mg) (F : FT P w K mg base k) (hr : Room (2 * k + 1) (A.deeper (envOfC "Maker.with_word" (defScope (inClass (top 65) 4)) s.heap.objs.size (adr K 66) cdv))) :
    PSsW (cxOf (L2.CX P w) P w K mg base N_Maker_with_word "Maker.with_word" (defScope (inClass (top 65) 4)) (adr K 66) cdv A outer s H E) (fun cls d _ H => E cls d H) (defBody (inClass (top 65) 4)) (m_Maker_with_word (callF T k)) := by
  have hr0 := hr.mono (Nat.le_succ (2 * k))
  have h1 := hu_of hr
  have h64 := hr.units
  have h65 := room65 hr
  have tk : Takes (cxOf (L2.CX P w) P w K mg base N_Maker_with_word "Maker.with_word" (defScope (inClass (top 65) 4)) (adr K 66) cdv A outer s H E) (fun cls d _ H => E cls d H) := takes_of rfl rfl rfl rfl
  have po : PassesOwn (model (cxOf (L2.CX P w) P w K mg base N_Maker_with_word "Maker.with_word" (defScope (inClass (top 65) 4)) (adr K 66) cdv A outer s H E).prog w) (cxOf (L2.CX P w) P w K mg base N_Maker_with_word "Maker.with_word" (defScope (inClass (top 65) 4)) (adr K 66) cdv A outer s H E).A (cxOf (L2.CX P w) P w K mg base N_Maker_with_word "Maker.with_word" (defScope (inClass (top 65) 4)) (adr K 66) cdv A outer s H E).env (cxOf (L2.CX P w) P w K mg base N_Maker_with_word "Maker.with_word" (defScope (inClass (top 65) 4)) (adr K 66) cdv A outer s H E).xe := passes_of rfl
  exact (ssw_one (sw_ret (pw_op op_add4 oc_add (PEW.t (pw_op op_add4 oc_add (PEW.t (pw_cut (PEW.t (pw_fld x37_ok X.cl_Maker X.na_Maker_words (pt_v (i := 0) rfl (.inl rfl) nb_self.1 nb_self.2) rfl)) pow_none (pow_some (pt_v (i := 1) rfl (.inl rfl) nb_number.1 nb_number.2)))) (PEW.t (PEF.w (pf_lst (pw_cons (pw_v (i := 2) rfl (.inl rfl) nb_word.1 nb_word.2) pw_nil rfl)))))) (PEW.t (pw_cut (PEW.t (pw_fld x37_ok X.cl_Maker X.na_Maker_words (pt_v (i := 0) rfl (.inl rfl) nb_self.1 nb_self.2) rfl)) (pow_some (PEW.t (pw_op op_add4 oc_add (pt_v (i := 1) rfl (.inl rfl) nb_number.1 nb_number.2) (PEW.t pw_int)))) pow_none)))))
abbrev N_Maker_turns : List Str := ["self", "number", "rows", "parts", "part", "ends", "row"]
abbrev P_Maker_turns : List Str := ["self", "number", "rows"]
theorem sc_Maker_turns : FnScope N_Maker_turns P_Maker_turns (defScope (inClass (top 65) 5)) := ⟨rfl, rfl, rfl, by decide +kernel, rfl, by decide +kernel, by decide +kernel⟩
theorem w_Maker_turns (X : Txt K w mg) (F : FT P w K mg base k) (hr : Room (2 * k + 1) (A.deeper (envOfC "Maker.turns" (defScope (inClass (top 65) 5)) s.heap.objs.size (adr K 67) cdv))) :
    PSsW (cxOf (L2.CX P w) P w K mg base N_Maker_turns "Maker.turns" (defScope (inClass (top 65) 5)) (adr K 67) cdv A outer s H E) (fun cls d _ H => E cls d H) (defBody (inClass (top 65) 5)) (m_Maker_turns (callF T k)) := by
  have hr0 := hr.mono (Nat.le_succ (2 * k))
  have h1 := hu_of hr
  have h64 := hr.units
  have h65 := room65 hr
  have tk : Takes (cxOf (L2.CX P w) P w K mg base N_Maker_turns "Maker.turns" (defScope (inClass (top 65) 5)) (adr K 67) cdv A outer s H E) (fun cls d _ H => E cls d H) := takes_of rfl rfl rfl rfl
  have po : PassesOwn (model (cxOf (L2.CX P w) P w K mg base N_Maker_turns "Maker.turns" (defScope (inClass (top 65) 5)) (adr K 67) cdv A outer s H E).prog w) (cxOf (L2.CX P w) P w K mg base N_Maker_turns "Maker.turns" (defScope (inClass (top 65) 5)) (adr K 67) cdv A outer s H E).A (cxOf (L2.CX P w) P w K mg base N_Maker_turns "Maker.turns" (defScope (inClass (top 65) 5)) (adr K 67) cdv A outer s H E).env (cxOf (L2.CX P w) P w K mg base N_Maker_turns "Maker.turns" (defScope (inClass (top 65) 5)) (adr K 67) cdv A outer s H E).xe := passes_of rfl
  exact (ssw_cons (sw_set (i := 3) sc_Maker_turns.nd rfl (.inl rfl) (.inl rfl) (pw_call (F 58 _ rfl) hr0 tk rfl X.g_parts_of nb_parts_of.1 (pw_cons (pw_v (i := 2) rfl (.inl rfl) nb_rows.1 nb_rows.2) pw_nil rfl) rfl rfl) rfl) (ssw_cons (sw_exp (pw_meth x41_ok X.cl_Maker X.me_Maker_put (F 63 _ rfl) hr0 tk (pw_v (i := 0) rfl (.inl rfl) nb_self.1 nb_self.2) (pw_cons (PEF.w (pf_lc (own := [("row", 6)]) rfl sc_Maker_turns.nd (pic_seq (PEW.t (pw_ix (pt_v (i := 3) rfl (.inl rfl) nb_parts.1 nb_parts.2) (PEW.t pw_int) (fun _ _ => rfl)))) (blkOk_by (N := N_Maker_turns) (sc := (defScope (inClass (top 65) 5))) (by decide +kernel)) (inS_sub rfl) (fun _ _ _ _ _ => (pgw_nm (i := 6) sc_Maker_turns.nd rfl (.inl rfl) (.inr rfl))) (fun _ _ _ _ _ => pts_no) (fun _ _ _ _ _ => (pw_call (F 59 _ rfl) hr0 takes0 rfl X.g_once nb_once.1 (pw_cons (pw_v (i := 6) rfl (.inl rfl) nb_row.1 nb_row.2) pw_nil rfl) rfl rfl)) (fun _ => rfl))) pw_nil rfl) rfl rfl rfl) rfl) (ssw_cons (sw_exp (pw_meth0 x40_ok X.cl_Maker X.me_Maker_fence (F 65 _ rfl) hr0 tk (pw_v (i := 0) rfl (.inl rfl) nb_self.1 nb_self.2) rfl) rfl) (ssw_cons (sw_for po rfl (pis_seq (pw_cut (pt_v (i := 3) rfl (.inl rfl) nb_parts.1 nb_parts.2) (pow_some (PEW.t pw_int)) (pow_some (PEW.t (pw_neg (PEW.t pw_int)))))) (pgw_nm (i := 4) sc_Maker_turns.nd rfl (.inl rfl) (.inl rfl)) (ssw_one (sw_exp (pw_meth x38_ok X.cl_Maker X.me_Maker_shut (F 64 _ rfl) hr0 tk (pw_v (i := 0) rfl (.inl rfl) nb_self.1 nb_self.2) (pw_cons (pw_meth x39_ok X.cl_Maker X.me_Maker_with_word (F 66 _ rfl) hr0 tk (pw_v (i := 0) rfl (.inl rfl) nb_self.1 nb_self.2) (pw_cons (pw_v (i := 1) rfl (.inl rfl) nb_number.1 nb_number.2) (pw_cons (pw_k rfl X.k_THIS nb_THIS.1) pw_nil rfl) rfl) rfl rfl rfl) (pw_cons (PEF.w (pf_lc (own := [("row", 6)]) rfl sc_Maker_turns.nd (pic_seq (pt_v (i := 4) rfl (.inl rfl) nb_part.1 nb_part.2)) (blkOk_by (N := N_Maker_turns) (sc := (defScope (inClass (top 65) 5))) (by decide +kernel)) (inS_sub rfl) (fun _ _ _ _ _ => (pgw_nm (i := 6) sc_Maker_turns.nd rfl (.inl rfl) (.inr rfl))) (fun _ _ _ _ _ => pts_no) (fun _ _ _ _ _ => (pw_call (F 61 _ rfl) hr0 takes0 rfl X.g_within nb_within.1 (pw_cons (pw_v (i := 6) rfl (.inl rfl) nb_row.1 nb_row.2) (pw_cons pw_int pw_nil rfl) rfl) rfl rfl)) (fun _ => rfl))) pw_nil rfl) rfl) rfl rfl rfl) rfl)) (fun _ => rfl)) (ssw_cons (sw_lc (i := 5) (own := [("row", 6)]) .heap rfl sc_Maker_turns.nd rfl rfl (sw_true rfl rfl rfl (by decide +kernel)) (pic_seq (PEW.t (pw_ix (pt_v (i := 3) rfl (.inl rfl) nb_parts.1 nb_parts.2) (PEW.t (pw_neg (PEW.t pw_int))) (fun _ _ => rfl)))) (blkOk_by (N := N_Maker_turns) (sc := (defScope (inClass (top 65) 5))) (by decide +kernel)) (inS_sub rfl) (fun _ _ _ _ _ => (pgw_nm (i := 6) sc_Maker_turns.nd rfl (.inl rfl) (.inr rfl))) (fun _ _ _ _ _ => pts_no) (fun _ _ _ _ _ => (pw_call (F 61 _ rfl) hr0 takes0 rfl X.g_within nb_within.1 (pw_cons (pw_v (i := 6) rfl (.inl rfl) nb_row.1 nb_row.2) (pw_cons pw_int pw_nil rfl) rfl) rfl rfl)) (fun _ => rfl)) (ssw_cons (sw_exp (pw_meth x38_ok X.cl_Maker X.me_Maker_shut (F 64 _ rfl) hr0 tk (pw_v (i := 0) rfl (.inl rfl) nb_self.1 nb_self.2) (pw_cons (pw_meth x39_ok X.cl_Maker X.me_Maker_with_word (F 66 _ rfl) hr0 tk (pw_v (i := 0) rfl (.inl rfl) nb_self.1 nb_self.2) (pw_cons (pw_v (i := 1) rfl (.inl rfl) nb_number.1 nb_number.2) (pw_cons (pw_k rfl X.k_NEXT nb_NEXT.1) pw_nil rfl) rfl) rfl rfl rfl) (pw_cons (pw_op op_add4 oc_add (pt_v (i := 5) rfl (.inl rfl) nb_ends.1 nb_ends.2) (PEW.t (PEF.w (pf_lc (own := [("row", 6)]) rfl sc_Maker_turns.nd (pic_seq (PEW.t (pw_ix (pt_v (i := 3) rfl (.inl rfl) nb_parts.1 nb_parts.2) (PEW.t pw_int) (fun _ _ => rfl)))) (blkOk_by (N := N_Maker_turns) (sc := (defScope (inClass (top 65) 5))) (by decide +kernel)) (inS_sub rfl) (fun _ _ _ _ _ => (pgw_nm (i := 6) sc_Maker_turns.nd rfl (.inl rfl) (.inr rfl))) (fun _ _ _ _ _ => pts_no) (fun _ _ _ _ _ => (pw_call (F 61 _ rfl) hr0 takes0 rfl X.g_within nb_within.1 (pw_cons (pw_v (i := 6) rfl (.inl rfl) nb_row.1 nb_row.2) (pw_cons pw_int pw_nil rfl) rfl) rfl rfl)) (fun _ => rfl))))) pw_nil rfl) rfl) rfl rfl rfl) rfl) (ssw_one (sw_fld x36_ok X.cl_Maker X.na_Maker_now (pt_v (i := 0) rfl (.inl rfl) nb_self.1 nb_self.2) (PEF.w (pf_lst (pw_cons (pw_meth x39_ok X.cl_Maker X.me_Maker_with_word (F 66 _ rfl) hr0 tk (pw_v (i := 0) rfl (.inl rfl) nb_self.1 nb_self.2) (pw_cons (pw_v (i := 1) rfl (.inl rfl) nb_number.1 nb_number.2) (pw_cons (pw_k rfl X.k_LAST nb_LAST.1) pw_nil rfl) rfl) rfl rfl rfl) (pw_cons (pw_v (i := 5) rfl (.inl rfl) nb_ends.1 nb_ends.2) pw_nil rfl) rfl))) rfl))))))))
abbrev N_Maker_item : List Str := ["self", "number", "rows", "part", "row"]
abbrev P_Maker_item : List Str := ["self", "number", "rows"]
theorem sc_Maker_item : FnScope N_Maker_item P_Maker_item (defScope (inClass (top 65) 6)) := ⟨rfl, rfl, rfl, by decide +kernel, rfl, by decide +kernel, by decide +kernel⟩
theorem w_Maker_item (X : Txt K w mg) (F : FT P w K mg base k) (hr : Room (2 * k + 1) (A.deeper (envOfC "Maker.item" (defScope (inClass (top 65) 6)) s.heap.objs.size (adr K 68) cdv))) :
    PSsW (cxOf (L2.CX P w) P w K mg base N_Maker_item "Maker.item" (defScope (inClass (top 65) 6)) (adr K 68) cdv A outer s H E) (fun cls d _ H => E cls d H) (defBody (inClass (top 65) 6)) (m_Maker_item (callF T k)) := by
  have hr0 := hr.mono (Nat.le_succ (2 * k))
  have h1 := hu_of hr
  have h64 := hr.units
  have h65 := room65 hr
  have tk : Takes (cxOf (L2.CX P w) P w K mg base N_Maker_item "Maker.item" (defScope (inClass (top 65) 6)) (adr K 68) cdv A outer s H E) (fun cls d _ H => E cls d H) := takes_of rfl rfl rfl rfl
  have po : PassesOwn (model (cxOf (L2.CX P w) P w K mg base N_Maker_item "Maker.item" (defScope (inClass (top 65) 6)) (adr K 68) cdv A outer s H E).prog w) (cxOf (L2.CX P w) P w K mg base N_Maker_item "Maker.item" (defScope (inClass (top 65) 6)) (adr K 68) cdv A outer s H E).A (cxOf (L2.CX P w) P w K mg base N_Maker_item "Maker.item" (defScope (inClass (top 65) 6)) (adr K 68) cdv A outer s H E).env (cxOf (L2.CX P w) P w K mg base N_Maker_item "Maker.item" (defScope (inClass (top 65) 6)) (adr K 68) cdv A outer s H E).xe := passes_of rfl
  exact (ssw_one (sw_if (ptw_isN (pt_v (i := 1) rfl (.inl rfl) nb_number.1 nb_number.2)) (ssw_cons (sw_for po rfl (pis_seq (pw_cut (PEW.t (pw_call (F 58 _ rfl) hr0 tk rfl X.g_parts_of nb_parts_of.1 (pw_cons (pw_v (i := 2) rfl (.inl rfl) nb_rows.1 nb_rows.2) pw_nil rfl) rfl rfl)) pow_none (pow_some (PEW.t (pw_neg (PEW.t pw_int)))))) (pgw_nm (i := 3) sc_Maker_item.nd rfl (.inl rfl) (.inl rfl)) (ssw_cons (sw_exp (pw_meth x41_ok X.cl_Maker X.me_Maker_put (F 63 _ rfl) hr0 tk (pw_v (i := 0) rfl (.inl rfl) nb_self.1 nb_self.2) (pw_cons (PEF.w (pf_lc (own := [("row", 4)]) rfl sc_Maker_item.nd (pic_seq (pt_v (i := 3) rfl (.inl rfl) nb_part.1 nb_part.2)) (blkOk_by (N := N_Maker_item) (sc := (defScope (inClass (top 65) 6))) (by decide +kernel)) (inS_sub rfl) (fun _ _ _ _ _ => (pgw_nm (i := 4) sc_Maker_item.nd rfl (.inl rfl) (.inr rfl))) (fun _ _ _ _ _ => pts_no) (fun _ _ _ _ _ => (pw_call (F 59 _ rfl) hr0 takes0 rfl X.g_once nb_once.1 (pw_cons (pw_v (i := 4) rfl (.inl rfl) nb_row.1 nb_row.2) pw_nil rfl) rfl rfl)) (fun _ => rfl))) pw_nil rfl) rfl rfl rfl) rfl) (ssw_one (sw_exp (pw_meth0 x40_ok X.cl_Maker X.me_Maker_fence (F 65 _ rfl) hr0 tk (pw_v (i := 0) rfl (.inl rfl) nb_self.1 nb_self.2) rfl) rfl))) (fun _ => rfl)) (ssw_one (sw_exp (pw_meth x41_ok X.cl_Maker X.me_Maker_put (F 63 _ rfl) hr0 tk (pw_v (i := 0) rfl (.inl rfl) nb_self.1 nb_self.2) (pw_cons (PEF.w (pf_lc (own := [("row", 4)]) rfl sc_Maker_item.nd (pic_seq (PEW.t (pw_ix (PEW.t (pw_call (F 58 _ rfl) hr0 tk rfl X.g_parts_of nb_parts_of.1 (pw_cons (pw_v (i := 2) rfl (.inl rfl) nb_rows.1 nb_rows.2) pw_nil rfl) rfl rfl)) (PEW.t (pw_neg (PEW.t pw_int))) (fun _ _ => rfl)))) (blkOk_by (N := N_Maker_item) (sc := (defScope (inClass (top 65) 6))) (by decide +kernel)) (inS_sub rfl) (fun _ _ _ _ _ => (pgw_nm (i := 4) sc_Maker_item.nd rfl (.inl rfl) (.inr rfl))) (fun _ _ _ _ _ => pts_no) (fun _ _ _ _ _ => (pw_call (F 59 _ rfl) hr0 takes0 rfl X.g_once nb_once.1 (pw_cons (pw_v (i := 4) rfl (.inl rfl) nb_row.1 nb_row.2) pw_nil rfl) rfl rfl)) (fun _ => rfl))) pw_nil rfl) rfl rfl rfl) rfl))) (ssw_one (sw_if (ptw_cmp (op_eqD h64) oc_eq (PEW.t (pw_ix (PEW.t (pw_fld x37_ok X.cl_Maker X.na_Maker_words (pt_v (i := 0) rfl (.inl rfl) nb_self.1 nb_self.2) rfl)) (pt_v (i := 1) rfl (.inl rfl) nb_number.1 nb_number.2) (fun _ _ => rfl))) (PEW.t (pw_k rfl X.k_FREE nb_FREE.1)) rfl) (ssw_one (sw_exp (pw_meth x41_ok X.cl_Maker X.me_Maker_put (F 63 _ rfl) hr0 tk (pw_v (i := 0) rfl (.inl rfl) nb_self.1 nb_self.2) (pw_cons (PEF.w (pf_lc (own := [("row", 4)]) rfl sc_Maker_item.nd (pic_seq (pt_v (i := 2) rfl (.inl rfl) nb_rows.1 nb_rows.2)) (blkOk_by (N := N_Maker_item) (sc := (defScope (inClass (top 65) 6))) (by decide +kernel)) (inS_sub rfl) (fun _ _ _ _ _ => (pgw_nm (i := 4) sc_Maker_item.nd rfl (.inl rfl) (.inr rfl))) (fun _ _ _ _ _ => pts_no) (fun _ _ _ _ _ => (pw_call (F 60 _ rfl) hr0 takes0 rfl X.g_still nb_still.1 (pw_cons (pw_v (i := 4) rfl (.inl rfl) nb_row.1 nb_row.2) pw_nil rfl) rfl rfl)) (fun _ => rfl))) pw_nil rfl) rfl rfl rfl) rfl)) (ssw_one (sw_if (ptw_cmp (op_eqD h64) oc_eq (PEW.t (pw_ix (PEW.t (pw_fld x37_ok X.cl_Maker X.na_Maker_words (pt_v (i := 0) rfl (.inl rfl) nb_self.1 nb_self.2) rfl)) (pt_v (i := 1) rfl (.inl rfl) nb_number.1 nb_number.2) (fun _ _ => rfl))) (PEW.t (pw_k rfl X.k_SOME nb_SOME.1)) rfl) (ssw_one (sw_exp (pw_meth x42_ok X.cl_Maker X.me_Maker_turns (F 67 _ rfl) hr0 tk (pw_v (i := 0) rfl (.inl rfl) nb_self.1 nb_self.2) (pw_cons (pw_v (i := 1) rfl (.inl rfl) nb_number.1 nb_number.2) (pw_cons (pw_v (i := 2) rfl (.inl rfl) nb_rows.1 nb_rows.2) pw_nil rfl) rfl) rfl rfl rfl) rfl)) ssw_nil))))))
abbrev N_spans_of : List Str := ["program", "items", "words", "number", "rows", "found", "first", "second", "one", "other", "maker"]
abbrev P_spans_of : List Str := ["program"]
theorem sc_spans_of : FnScope N_spans_of P_spans_of (defScope (top 66)) := ⟨rfl, rfl, rfl, by decide +kernel, rfl, by decide +kernel, by decide +kernel⟩
theorem w_spans_of (X : Txt K w mg) (F : FT P w K mg base k) (hr : Room (2 * k + 1) (A.deeper (envOfC "spans_of" (defScope (top 66)) s.heap.objs.size (adr K 69) cdv))) :
    PSsW (cxOf (L2.CX P w) P w K mg base N_spans_of "spans_of" (defScope (top 66)) (adr K 69) cdv A outer s H E) (fun cls d _ H => E cls d H) (defBody (top 66)) (m_spans_of (callF T k)) := by
  have hr0 := hr.mono (Nat.le_succ (2 * k))
  have h1 := hu_of hr
  have h64 := hr.units
  have h65 := room65 hr
  have tk : Takes (cxOf (L2.CX P w) P w K mg base N_spans_of "spans_of" (defScope (top 66)) (adr K 69) cdv A outer s H E) (fun cls d _ H => E cls d H) := takes_of rfl rfl rfl rfl
  have po : PassesOwn (model (cxOf (L2.CX P w) P w K mg base N_spans_of "spans_of" (defScope (top 66)) (adr K 69) cdv A outer s H E).prog w) (cxOf (L2.CX P w) P w K mg base N_spans_of "spans_of" (defScope (top 66)) (adr K 69) cdv A outer s H E).A (cxOf (L2.CX P w) P w K mg base N_spans_of "spans_of" (defScope (top 66)) (adr K 69) cdv A outer s H E).env (cxOf (L2.CX P w) P w K mg base N_spans_of "spans_of" (defScope (top 66)) (adr K 69) cdv A outer s H E).xe := passes_of rfl
  exact (ssw_cons (sw_set (i := 1) sc_spans_of.nd rfl (.inl rfl) (.inl rfl) (pw_call (F 57 _ rfl) hr0 tk rfl X.g_items_of nb_items_of.1 (pw_cons (pw_v (i := 0) rfl (.inl rfl) nb_program.1 nb_program.2) pw_nil rfl) rfl rfl) rfl) (ssw_cons (sw_setO (i := 2) sc_spans_of.nd rfl (.inl rfl) (.inl rfl) (pf_lst (pw_cons (pw_str x44_ok) (pw_cons (pw_str x44_ok) pw_nil rfl) rfl)) rfl) (ssw_cons (sw_for po rfl (pis_seq (pw_v (i := 1) rfl (.inl rfl) nb_items.1 nb_items.2)) (pgw_tu rfl (pgsw_cons (pgw_nm (i := 3) sc_spans_of.nd rfl (.inl rfl) (.inl rfl)) (pgsw_cons (pgw_nm (i := 4) sc_spans_of.nd rfl (.inl rfl) (.inl rfl)) pgsw_nil rfl) rfl) rfl rfl) (ssw_one (sw_if (ptw_notN (pt_v (i := 3) rfl (.inl rfl) nb_number.1 nb_number.2)) (ssw_one (sw_ixOL (i := 2) rfl (.inl rfl) nb_words.1 nb_words.2 (pt_v (i := 3) rfl (.inl rfl) nb_number.1 nb_number.2) (pw_if (ptw_val (PEW.t (pw_call (F 56 _ rfl) hr0 tk rfl X.g_is_fenced nb_is_fenced.1 (pw_cons (pw_v (i := 4) rfl (.inl rfl) nb_rows.1 nb_rows.2) pw_nil rfl) rfl rfl)) (fun _ => rfl)) (pw_k rfl X.k_SOME nb_SOME.1) (pw_k rfl X.k_FREE nb_FREE.1)) (fun _ => rfl) rfl rfl rfl)) ssw_nil)) (fun _ => rfl)) (ssw_cons (sw_set (i := 5) sc_spans_of.nd rfl (.inl rfl) (.inl rfl) (pw_heap (pf_lst pw_nil)) rfl) (ssw_cons (sw_set (i := 6) sc_spans_of.nd rfl (.inl rfl) (.inl rfl) (pw_if (ptw_cmp (op_eqD h64) oc_eq (PEW.t (pw_ix (pt_v (i := 2) rfl (.inl rfl) nb_words.1 nb_words.2) (PEW.t pw_int) (fun _ _ => rfl))) (PEW.t (pw_k rfl X.k_SOME nb_SOME.1)) rfl) (PEF.w (pf_lst (pw_cons (pw_k rfl X.k_NONE nb_NONE.1) (pw_cons (pw_k rfl X.k_SOME nb_SOME.1) pw_nil rfl) rfl))) (pw_cut (pt_v (i := 2) rfl (.inl rfl) nb_words.1 nb_words.2) pow_none (pow_some (PEW.t pw_int)))) rfl) (ssw_cons (sw_set (i := 7) sc_spans_of.nd rfl (.inl rfl) (.inl rfl) (pw_if (ptw_cmp (op_eqD h64) oc_eq (PEW.t (pw_ix (pt_v (i := 2) rfl (.inl rfl) nb_words.1 nb_words.2) (PEW.t pw_int) (fun _ _ => rfl))) (PEW.t (pw_k rfl X.k_SOME nb_SOME.1)) rfl) (PEF.w (pf_lst (pw_cons (pw_k rfl X.k_NONE nb_NONE.1) (pw_cons (pw_k rfl X.k_SOME nb_SOME.1) pw_nil rfl) rfl))) (pw_cut (pt_v (i := 2) rfl (.inl rfl) nb_words.1 nb_words.2) (pow_some (PEW.t pw_int)) pow_none)) rfl) (ssw_cons (sw_for po rfl (pis_seq (pw_v (i := 6) rfl (.inl rfl) nb_first.1 nb_first.2)) (pgw_nm (i := 8) sc_spans_of.nd rfl (.inl rfl) (.inl rfl)) (ssw_one (sw_for po rfl (pis_seq (pw_v (i := 7) rfl (.inl rfl) nb_second.1 nb_second.2)) (pgw_nm (i := 9) sc_spans_of.nd rfl (.inl rfl) (.inl rfl)) (ssw_cons (sw_set (i := 10) sc_spans_of.nd rfl (.inl rfl) (.inl rfl) (pw_new X.mk_Maker (F 62 _ rfl) hr rfl X.gc_Maker nb_Maker.1 (pw_cons (PEF.w (pf_lst (pw_cons (pw_v (i := 8) rfl (.inl rfl) nb_one.1 nb_one.2) (pw_cons (pw_v (i := 9) rfl (.inl rfl) nb_other.1 nb_other.2) pw_nil rfl) rfl))) (pw_cons (pw_v (i := 5) rfl (.inl rfl) nb_found.1 nb_found.2) pw_nil rfl) rfl) rfl rfl) rfl) (ssw_cons (sw_for po rfl (pis_seq (pw_v (i := 1) rfl (.inl rfl) nb_items.1 nb_items.2)) (pgw_tu rfl (pgsw_cons (pgw_nm (i := 3) sc_spans_of.nd rfl (.inl rfl) (.inl rfl)) (pgsw_cons (pgw_nm (i := 4) sc_spans_of.nd rfl (.inl rfl) (.inl rfl)) pgsw_nil rfl) rfl) rfl rfl) (ssw_one (sw_exp (pw_meth x43_ok X.cl_Maker X.me_Maker_item (F 68 _ rfl) hr0 tk (pw_v (i := 10) rfl (.inl rfl) nb_maker.1 nb_maker.2) (pw_cons (pw_v (i := 3) rfl (.inl rfl) nb_number.1 nb_number.2) (pw_cons (pw_v (i := 4) rfl (.inl rfl) nb_rows.1 nb_rows.2) pw_nil rfl) rfl) rfl rfl rfl) rfl)) (fun _ => rfl)) (ssw_one (sw_exp (pw_meth0 x40_ok X.cl_Maker X.me_Maker_fence (F 65 _ rfl) hr0 tk (pw_v (i := 10) rfl (.inl rfl) nb_maker.1 nb_maker.2) rfl) rfl)))) (fun _ => rfl))) (fun _ => rfl)) (ssw_one (sw_ret (pw_v (i := 5) rfl (.inl rfl) nb_found.1 nb_found.2))))))))))
abbrev N_pair : List Str := ["span", "touches", "one", "other", "mine", "yours", "lane", "turn", "own", "rest", "there", "later", "beside", "more", "times", "total"]
abbrev P_pair : List Str := ["span", "touches", "one", "other", "mine", "yours"]
theorem sc_pair : FnScope N_pair P_pair (defScope (top 67)) := ⟨rfl, rfl, rfl, by decide +kernel, rfl, by decide +kernel, by decide +kernel⟩
theorem w_pair (X : Txt K w mg) (F : FT P w K mg base k) (hr : Room (2 * k + 1) (A.deeper (envOfC "pair" (defScope (top 67)) s.heap.objs.size (adr K 70) cdv))) :
    PSsW (cxOf (L2.CX P w) P w K mg base N_pair "pair" (defScope (top 67)) (adr K 70) cdv A outer s H E) (fun cls d _ H => E cls d H) (defBody (top 67)) (m_pair (callF T k)) := by
  have hr0 := hr.mono (Nat.le_succ (2 * k))
  have h1 := hu_of hr
  have h64 := hr.units
  have h65 := room65 hr
  have tk : Takes (cxOf (L2.CX P w) P w K mg base N_pair "pair" (defScope (top 67)) (adr K 70) cdv A outer s H E) (fun cls d _ H => E cls d H) := takes_of rfl rfl rfl rfl
  have po : PassesOwn (model (cxOf (L2.CX P w) P w K mg base N_pair "pair" (defScope (top 67)) (adr K 70) cdv A outer s H E).prog w) (cxOf (L2.CX P w) P w K mg base N_pair "pair" (defScope (top 67)) (adr K 70) cdv A outer s H E).A (cxOf (L2.CX P w) P w K mg base N_pair "pair" (defScope (top 67)) (adr K 70) cdv A outer s H E).env (cxOf (L2.CX P w) P w K mg base N_pair "pair" (defScope (top 67)) (adr K 70) cdv A outer s H E).xe := passes_of rfl
  exact (ssw_cons (sw_tg (pw_ix (PEW.t (pw_ix (pt_v (i := 1) rfl (.inl rfl) nb_touches.1 nb_touches.2) (pt_v (i := 2) rfl (.inl rfl) nb_one.1 nb_one.2) (fun _ _ => rfl))) (PEW.t pw_int) (fun _ _ => rfl)) (pgw_tu rfl (pgsw_cons (pgw_nm (i := 6) sc_pair.nd rfl (.inl rfl) (.inl rfl)) (pgsw_cons (pgw_nm (i := 7) sc_pair.nd rfl (.inl rfl) (.inl rfl)) (pgsw_cons (pgw_nm (i := 8) sc_pair.nd rfl (.inl rfl) (.inl rfl)) (pgsw_cons (pgw_nm (i := 9) sc_pair.nd rfl (.inl rfl) (.inl rfl)) pgsw_nil rfl) rfl) rfl) rfl) rfl rfl) rfl rfl rfl) (ssw_cons (sw_tg (pw_ix (PEW.t (pw_ix (pt_v (i := 1) rfl (.inl rfl) nb_touches.1 nb_touches.2) (pt_v (i := 3) rfl (.inl rfl) nb_other.1 nb_other.2) (fun _ _ => rfl))) (PEW.t pw_int) (fun _ _ => rfl)) (pgw_tu rfl (pgsw_cons (pgw_nm (i := 10) sc_pair.nd rfl (.inl rfl) (.inl rfl)) (pgsw_cons (pgw_nm (i := 11) sc_pair.nd rfl (.inl rfl) (.inl rfl)) (pgsw_cons (pgw_nm (i := 12) sc_pair.nd rfl (.inl rfl) (.inl rfl)) (pgsw_cons (pgw_nm (i := 13) sc_pair.nd rfl (.inl rfl) (.inl rfl)) pgsw_nil rfl) rfl) rfl) rfl) rfl rfl) rfl rfl rfl) (ssw_cons (sw_set (i := 14) sc_pair.nd rfl (.inl rfl) (.inl rfl) (pw_tup (pw_cons (pw_op op_mul4 oc_mul (pt_v (i := 6) rfl (.inl rfl) nb_lane.1 nb_lane.2) (PEW.t (pw_ix (pt_v (i := 4) rfl (.inl rfl) nb_mine.1 nb_mine.2) (PEW.t pw_int) (fun _ _ => rfl)))) (pw_cons (pw_op op_sub oc_sub (PEW.t pw_int) (PEW.t (pw_op op_mul4 oc_mul (pt_v (i := 10) rfl (.inl rfl) nb_there.1 nb_there.2) (PEW.t (pw_ix (pt_v (i := 5) rfl (.inl rfl) nb_yours.1 nb_yours.2) (PEW.t pw_int) (fun _ _ => rfl)))))) (pw_cons (pw_op op_sub oc_sub (pt_v (i := 7) rfl (.inl rfl) nb_turn.1 nb_turn.2) (pt_v (i := 11) rfl (.inl rfl) nb_later.1 nb_later.2)) (pw_cons (pw_v (i := 8) rfl (.inl rfl) nb_own.1 nb_own.2) (pw_cons (pw_op op_sub oc_sub (PEW.t pw_int) (pt_v (i := 12) rfl (.inl rfl) nb_beside.1 nb_beside.2)) pw_nil rfl) rfl) rfl) rfl) rfl)) rfl) (ssw_cons (sw_set (i := 15) sc_pair.nd rfl (.inl rfl) (.inl rfl) (pw_op op_add4 oc_add (PEW.t (pw_op op_sub oc_sub (PEW.t (pw_op op_sub oc_sub (pt_v (i := 13) rfl (.inl rfl) nb_more.1 nb_more.2) (pt_v (i := 9) rfl (.inl rfl) nb_rest.1 nb_rest.2))) (PEW.t (pw_op op_mul4 oc_mul (pt_v (i := 6) rfl (.inl rfl) nb_lane.1 nb_lane.2) (PEW.t (pw_ix (pt_v (i := 4) rfl (.inl rfl) nb_mine.1 nb_mine.2) (PEW.t pw_int) (fun _ _ => rfl))))))) (PEW.t (pw_op op_mul4 oc_mul (pt_v (i := 10) rfl (.inl rfl) nb_there.1 nb_there.2) (PEW.t (pw_ix (pt_v (i := 5) rfl (.inl rfl) nb_yours.1 nb_yours.2) (PEW.t pw_int) (fun _ _ => rfl)))))) rfl) (ssw_one (sw_ret (pw_tup (pw_cons (pw_v (i := 0) rfl (.inl rfl) nb_span.1 nb_span.2) (pw_cons (pw_v (i := 2) rfl (.inl rfl) nb_one.1 nb_one.2) (pw_cons (pw_v (i := 3) rfl (.inl rfl) nb_other.1 nb_other.2) (pw_cons (pw_tup (pw_cons (pw_ix (pt_v (i := 4) rfl (.inl rfl) nb_mine.1 nb_mine.2) (PEW.t pw_int) (fun _ _ => rfl)) (pw_cons (pw_ix (pt_v (i := 5) rfl (.inl rfl) nb_yours.1 nb_yours.2) (PEW.t pw_int) (fun _ _ => rfl)) (pw_cons pw_int (pw_cons pw_int (pw_cons pw_int pw_nil rfl) rfl) rfl) rfl) rfl)) (pw_cons (pw_v (i := 14) rfl (.inl rfl) nb_times.1 nb_times.2) (pw_cons (pw_v (i := 15) rfl (.inl rfl) nb_total.1 nb_total.2) pw_nil rfl) rfl) rfl) rfl) rfl) rfl))))))))
abbrev N_pairs_of : List Str := ["some", "found", "span", "words", "touches", "one", "other", "kinds", "mine", "yours"]
abbrev P_pairs_of : List Str := ["some"]
theorem sc_pairs_of : FnScope N_pairs_of P_pairs_of (defScope (top 68)) := ⟨rfl, rfl, rfl, by decide +kernel, rfl, by decide +kernel, by decide +kernel⟩
theorem w_pairs_of (X : Txt K w mg) (F : FT P w K mg base k) (hr : Room (2 * k + 1) (A.deeper (envOfC "pairs_of" (defScope (top 68)) s.heap.objs.size (adr K 71) cdv))) :
    PSsW (cxOf (L2.CX P w) P w K mg base N_pairs_of "pairs_of" (defScope (top 68)) (adr K 71) cdv A outer s H E) (fun cls d _ H => E cls d H) (defBody (top 68)) (m_pairs_of (callF T k)) := by
  have hr0 := hr.mono (Nat.le_succ (2 * k))
  have h1 := hu_of hr
  have h64 := hr.units
  have h65 := room65 hr
  have tk : Takes (cxOf (L2.CX P w) P w K mg base N_pairs_of "pairs_of" (defScope (top 68)) (adr K 71) cdv A outer s H E) (fun cls d _ H => E cls d H) := takes_of rfl rfl rfl rfl
  have po : PassesOwn (model (cxOf (L2.CX P w) P w K mg base N_pairs_of "pairs_of" (defScope (top 68)) (adr K 71) cdv A outer s H E).prog w) (cxOf (L2.CX P w) P w K mg base N_pairs_of "pairs_of" (defScope (top 68)) (adr K 71) cdv A outer s H E).A (cxOf (L2.CX P w) P w K mg base N_pairs_of "pairs_of" (defScope (top 68)) (adr K 71) cdv A outer s H E).env (cxOf (L2.CX P w) P w K mg base N_pairs_of "pairs_of" (defScope (top 68)) (adr K 71) cdv A outer s H E).xe := passes_of rfl
  exact (ssw_cons (sw_setO (i := 1) sc_pairs_of.nd rfl (.inl rfl) (.inl rfl) (pf_lst pw_nil) rfl) (ssw_cons (sw_for po rfl (pis_enu rfl X.f_enumerate (pw_cons (pw_v (i := 0) rfl (.inl rfl) nb_some.1 nb_some.2) pw_nil rfl) rfl) (pgw_tu rfl (pgsw_cons (pgw_nm (i := 2) sc_pairs_of.nd rfl (.inl rfl) (.inl rfl)) (pgsw_cons (pgw_tu rfl (pgsw_cons (pgw_nm (i := 3) sc_pairs_of.nd rfl (.inl rfl) (.inl rfl)) (pgsw_cons (pgw_nm (i := 4) sc_pairs_of.nd rfl (.inl rfl) (.inl rfl)) pgsw_nil rfl) rfl) rfl rfl) pgsw_nil rfl) rfl) rfl rfl) (ssw_one (sw_for po rfl (pis_rg1 rfl X.f_range (pw_cons (pw_bi (id := "len") call_len3 cb_len rfl X.f_len bb_len bn_len nb_len.1 (pat_cons (pt_v (i := 4) rfl (.inl rfl) nb_touches.1 nb_touches.2) pat_nil rfl) rfl rfl) pw_nil rfl) rfl) (pgw_nm (i := 5) sc_pairs_of.nd rfl (.inl rfl) (.inl rfl)) (ssw_one (sw_for po rfl (pis_rg2 rfl X.f_range (pw_cons (pw_v (i := 5) rfl (.inl rfl) nb_one.1 nb_one.2) (pw_cons (pw_bi (id := "len") call_len3 cb_len rfl X.f_len bb_len bn_len nb_len.1 (pat_cons (pt_v (i := 4) rfl (.inl rfl) nb_touches.1 nb_touches.2) pat_nil rfl) rfl rfl) pw_nil rfl) rfl) rfl rfl) (pgw_nm (i := 6) sc_pairs_of.nd rfl (.inl rfl) (.inl rfl)) (ssw_cons (sw_set (i := 7) sc_pairs_of.nd rfl (.inl rfl) (.inl rfl) (pw_tup (pw_cons (pw_ix (PEW.t (pw_ix (pt_v (i := 4) rfl (.inl rfl) nb_touches.1 nb_touches.2) (pt_v (i := 5) rfl (.inl rfl) nb_one.1 nb_one.2) (fun _ _ => rfl))) (PEW.t pw_int) (fun _ _ => rfl)) (pw_cons (pw_ix (PEW.t (pw_ix (pt_v (i := 4) rfl (.inl rfl) nb_touches.1 nb_touches.2) (pt_v (i := 6) rfl (.inl rfl) nb_other.1 nb_other.2) (fun _ _ => rfl))) (PEW.t pw_int) (fun _ _ => rfl)) pw_nil rfl) rfl)) rfl) (ssw_one (sw_if (PWW.t (ptw_and (ptw_cmp (op_eqD h64) oc_eq (PEW.t (pw_ix (PEW.t (pw_ix (pt_v (i := 4) rfl (.inl rfl) nb_touches.1 nb_touches.2) (pt_v (i := 5) rfl (.inl rfl) nb_one.1 nb_one.2) (fun _ _ => rfl))) (PEW.t pw_int) (fun _ _ => rfl))) (PEW.t (pw_ix (PEW.t (pw_ix (pt_v (i := 4) rfl (.inl rfl) nb_touches.1 nb_touches.2) (pt_v (i := 6) rfl (.inl rfl) nb_other.1 nb_other.2) (fun _ _ => rfl))) (PEW.t pw_int) (fun _ _ => rfl))) rfl) (ptw_and1 (ptw_cmp (op_in3 h65) oc_in (PEW.t (pw_k rfl X.k_WRITE nb_WRITE.1)) (pt_v (i := 7) rfl (.inl rfl) nb_kinds.1 nb_kinds.2) rfl)))) (ssw_one (sw_for po rfl (pis_seq (pw_ix (PEW.t (pw_ix (pt_v (i := 4) rfl (.inl rfl) nb_touches.1 nb_touches.2) (pt_v (i := 5) rfl (.inl rfl) nb_one.1 nb_one.2) (fun _ _ => rfl))) (PEW.t pw_int) (fun _ _ => rfl))) (pgw_nm (i := 8) sc_pairs_of.nd rfl (.inl rfl) (.inl rfl)) (ssw_one (sw_for po rfl (pis_seq (pw_ix (PEW.t (pw_ix (pt_v (i := 4) rfl (.inl rfl) nb_touches.1 nb_touches.2) (pt_v (i := 6) rfl (.inl rfl) nb_other.1 nb_other.2) (fun _ _ => rfl))) (PEW.t pw_int) (fun _ _ => rfl))) (pgw_nm (i := 9) sc_pairs_of.nd rfl (.inl rfl) (.inl rfl)) (ssw_one (sw_appO (i := 1) rfl (.inl rfl) nb_found.1 nb_found.2 (pw_call (F 70 _ rfl) hr0 tk rfl X.g_pair nb_pair.1 (pw_cons (pw_v (i := 2) rfl (.inl rfl) nb_span.1 nb_span.2) (pw_cons (pw_v (i := 4) rfl (.inl rfl) nb_touches.1 nb_touches.2) (pw_cons (pw_v (i := 5) rfl (.inl rfl) nb_one.1 nb_one.2) (pw_cons (pw_v (i := 6) rfl (.inl rfl) nb_other.1 nb_other.2) (pw_cons (pw_v (i := 8) rfl (.inl rfl) nb_mine.1 nb_mine.2) (pw_cons (pw_v (i := 9) rfl (.inl rfl) nb_yours.1 nb_yours.2) pw_nil rfl) rfl) rfl) rfl) rfl) rfl) rfl rfl) rfl rfl rfl rfl rfl rfl)) (fun _ => rfl))) (fun _ => rfl))) ssw_nil))) (fun _ => rfl))) (fun _ => rfl))) (fun _ => rfl)) (ssw_one (sw_retO (i := 1) rfl (.inl rfl) nb_found.1 nb_found.2))))
abbrev N_sights_of : List Str := ["some", "found", "row", "span", "one", "other", "touches"]
abbrev P_sights_of : List Str := ["some"]
theorem sc_sights_of : FnScope N_sights_of P_sights_of (defScope (top 70)) := ⟨rfl, rfl, rfl, by decide +kernel, rfl, by decide +kernel, by decide +kernel⟩
theorem w_sights_of (X : Txt K w mg) (F : FT P w K mg base k) (hr : Room (2 * k + 1) (A.deeper (envOfC "sights_of" (defScope (top 70)) s.heap.objs.size (adr K 72) cdv))) :
    PSsW (cxOf (L2.CX P w) P w K mg base N_sights_of "sights_of" (defScope (top 70)) (adr K 72) cdv A outer s H E) (fun cls d _ H => E cls d H) (defBody (top 70)) (m_sights_of (callF T k)) := by
  have hr0 := hr.mono (Nat.le_succ (2 * k))
  have h1 := hu_of hr
  have h64 := hr.units
  have h65 := room65 hr
  have tk : Takes (cxOf (L2.CX P w) P w K mg base N_sights_of "sights_of" (defScope (top 70)) (adr K 72) cdv A outer s H E) (fun cls d _ H => E cls d H) := takes_of rfl rfl rfl rfl
  have po : PassesOwn (model (cxOf (L2.CX P w) P w K mg base N_sights_of "sights_of" (defScope (top 70)) (adr K 72) cdv A outer s H E).prog w) (cxOf (L2.CX P w) P w K mg base N_sights_of "sights_of" (defScope (top 70)) (adr K 72) cdv A outer s H E).A (cxOf (L2.CX P w) P w K mg base N_sights_of "sights_of" (defScope (top 70)) (adr K 72) cdv A outer s H E).env (cxOf (L2.CX P w) P w K mg base N_sights_of "sights_of" (defScope (top 70)) (adr K 72) cdv A outer s H E).xe := passes_of rfl
  exact (ssw_cons (sw_setO (i := 1) sc_sights_of.nd rfl (.inl rfl) (.inl rfl) (pf_lst pw_nil) rfl) (ssw_cons (sw_for po rfl (pis_seq (pw_call (F 71 _ rfl) hr0 tk rfl X.g_pairs_of nb_pairs_of.1 (pw_cons (pw_v (i := 0) rfl (.inl rfl) nb_some.1 nb_some.2) pw_nil rfl) rfl rfl)) (pgw_nm (i := 2) sc_sights_of.nd rfl (.inl rfl) (.inl rfl)) (ssw_cons (sw_tg (pw_cut (pt_v (i := 2) rfl (.inl rfl) nb_row.1 nb_row.2) pow_none (pow_some (PEW.t pw_int))) (pgw_tu rfl (pgsw_cons (pgw_nm (i := 3) sc_sights_of.nd rfl (.inl rfl) (.inl rfl)) (pgsw_cons (pgw_nm (i := 4) sc_sights_of.nd rfl (.inl rfl) (.inl rfl)) (pgsw_cons (pgw_nm (i := 5) sc_sights_of.nd rfl (.inl rfl) (.inl rfl)) pgsw_nil rfl) rfl) rfl) rfl rfl) rfl rfl rfl) (ssw_cons (sw_set (i := 6) sc_sights_of.nd rfl (.inl rfl) (.inl rfl) (pw_ix (PEW.t (pw_ix (pt_v (i := 0) rfl (.inl rfl) nb_some.1 nb_some.2) (pt_v (i := 3) rfl (.inl rfl) nb_span.1 nb_span.2) (fun _ _ => rfl))) (PEW.t pw_int) (fun _ _ => rfl)) rfl) (ssw_one (sw_appO (i := 1) rfl (.inl rfl) nb_found.1 nb_found.2 (pw_tup (pw_cons (pw_v (i := 2) rfl (.inl rfl) nb_row.1 nb_row.2) (pw_cons (pw_ix (pt_v (i := 6) rfl (.inl rfl) nb_touches.1 nb_touches.2) (pt_v (i := 4) rfl (.inl rfl) nb_one.1 nb_one.2) (fun _ _ => rfl)) (pw_cons (pw_ix (pt_v (i := 6) rfl (.inl rfl) nb_touches.1 nb_touches.2) (pt_v (i := 5) rfl (.inl rfl) nb_other.1 nb_other.2) (fun _ _ => rfl)) pw_nil rfl) rfl) rfl)) rfl rfl rfl rfl rfl rfl)))) (fun _ => rfl)) (ssw_one (sw_retO (i := 1) rfl (.inl rfl) nb_found.1 nb_found.2))))
abbrev N_rows_at : List Str := ["some", "found", "words", "touches", "one", "other", "mine", "yours"]
abbrev P_rows_at : List Str := ["some"]
theorem sc_rows_at : FnScope N_rows_at P_rows_at (defScope (top 71)) := ⟨rfl, rfl, rfl, by decide +kernel, rfl, by decide +kernel, by decide +kernel⟩
theorem w_rows_at (X : Txt K w mg) (F : FT P w K mg base k) (hr : Room (2 * k + 1) (A.deeper (envOfC "rows_at" (defScope (top 71)) s.heap.objs.size (adr K 73) cdv))) :
    PSsW (cxOf (L2.CX P w) P w K mg base N_rows_at "rows_at" (defScope (top 71)) (adr K 73) cdv A outer s H E) (fun cls d _ H => E cls d H) (defBody (top 71)) (m_rows_at (callF T k)) := by
  have hr0 := hr.mono (Nat.le_succ (2 * k))
  have h1 := hu_of hr
  have h64 := hr.units
  have h65 := room65 hr
  have tk : Takes (cxOf (L2.CX P w) P w K mg base N_rows_at "rows_at" (defScope (top 71)) (adr K 73) cdv A outer s H E) (fun cls d _ H => E cls d H) := takes_of rfl rfl rfl rfl
  have po : PassesOwn (model (cxOf (L2.CX P w) P w K mg base N_rows_at "rows_at" (defScope (top 71)) (adr K 73) cdv A outer s H E).prog w) (cxOf (L2.CX P w) P w K mg base N_rows_at "rows_at" (defScope (top 71)) (adr K 73) cdv A outer s H E).A (cxOf (L2.CX P w) P w K mg base N_rows_at "rows_at" (defScope (top 71)) (adr K 73) cdv A outer s H E).env (cxOf (L2.CX P w) P w K mg base N_rows_at "rows_at" (defScope (top 71)) (adr K 73) cdv A outer s H E).xe := passes_of rfl
  exact (ssw_cons (sw_set (i := 1) sc_rows_at.nd rfl (.inl rfl) (.inl rfl) (pw_heap (pf_lst pw_nil)) rfl) (ssw_cons (sw_for po rfl (pis_seq (pw_v (i := 0) rfl (.inl rfl) nb_some.1 nb_some.2)) (pgw_tu rfl (pgsw_cons (pgw_nm (i := 2) sc_rows_at.nd rfl (.inl rfl) (.inl rfl)) (pgsw_cons (pgw_nm (i := 3) sc_rows_at.nd rfl (.inr rfl) (.inl rfl)) pgsw_nil rfl) rfl) rfl rfl) (ssw_one (sw_for po rfl (pis_rg1 rfl X.f_range (pw_cons (pw_bi (id := "len") call_len3 cb_len rfl X.f_len bb_len bn_len nb_len.1 (pat_cons (pt_v (i := 3) rfl (.inr (.inl rfl)) nb_touches.1 nb_touches.2) pat_nil rfl) rfl rfl) pw_nil rfl) rfl) (pgw_nm (i := 4) sc_rows_at.nd rfl (.inl rfl) (.inl rfl)) (ssw_one (sw_for po rfl (pis_rg2 rfl X.f_range (pw_cons (pw_v (i := 4) rfl (.inl rfl) nb_one.1 nb_one.2) (pw_cons (pw_bi (id := "len") call_len3 cb_len rfl X.f_len bb_len bn_len nb_len.1 (pat_cons (pt_v (i := 3) rfl (.inr (.inl rfl)) nb_touches.1 nb_touches.2) pat_nil rfl) rfl rfl) pw_nil rfl) rfl) rfl rfl) (pgw_nm (i := 5) sc_rows_at.nd rfl (.inr rfl) (.inl rfl)) (ssw_one (sw_if (PWW.t (ptw_and (ptw_cmp (op_eqD h64) oc_eq (PEW.t (pw_ix (PEW.t (pw_ix (pt_v (i := 3) rfl (.inr (.inl rfl)) nb_touches.1 nb_touches.2) (pt_v (i := 4) rfl (.inl rfl) nb_one.1 nb_one.2) (fun _ _ => rfl))) (PEW.t pw_int) (fun _ _ => rfl))) (PEW.t (pw_ix (PEW.t (pw_ix (pt_v (i := 3) rfl (.inr (.inl rfl)) nb_touches.1 nb_touches.2) (pt_v (i := 5) rfl (.inr (.inl rfl)) nb_other.1 nb_other.2) (fun _ _ => rfl))) (PEW.t pw_int) (fun _ _ => rfl))) rfl) (ptw_and1 (ptw_cmp (op_in3 h65) oc_in (PEW.t (pw_str x45_ok)) (PEW.t (pw_tup (pw_cons (pw_ix (PEW.t (pw_ix (pt_v (i := 3) rfl (.inr (.inl rfl)) nb_touches.1 nb_touches.2) (pt_v (i := 4) rfl (.inl rfl) nb_one.1 nb_one.2) (fun _ _ => rfl))) (PEW.t pw_int) (fun _ _ => rfl)) (pw_cons (pw_ix (PEW.t (pw_ix (pt_v (i := 3) rfl (.inr (.inl rfl)) nb_touches.1 nb_touches.2) (pt_v (i := 5) rfl (.inr (.inl rfl)) nb_other.1 nb_other.2) (fun _ _ => rfl))) (PEW.t pw_int) (fun _ _ => rfl)) pw_nil rfl) rfl))) rfl)))) (ssw_one (sw_ext (pw_v (i := 1) rfl (.inl rfl) nb_found.1 nb_found.2) (PEF.w (pf_lc2 (own := [("mine", 6), ("yours", 7)]) rfl sc_rows_at.nd (pic_seq (PEW.t (pw_ix (PEW.t (pw_ix (pt_v (i := 3) rfl (.inr (.inl rfl)) nb_touches.1 nb_touches.2) (pt_v (i := 4) rfl (.inl rfl) nb_one.1 nb_one.2) (fun _ _ => rfl))) (PEW.t pw_int) (fun _ _ => rfl)))) (blkOk_by (N := N_rows_at) (sc := (defScope (top 71))) (by decide +kernel)) (inS_sub rfl) (inS_sub rfl) (sub_mem rfl) (fun _ _ _ _ _ => (pgw_nm (i := 6) sc_rows_at.nd rfl (.inl rfl) (.inr rfl))) (fun _ _ _ _ _ => pts_no) (fun _ _ _ _ _ => (pic_seq (PEW.t (pw_ix (PEW.t (pw_ix (pt_v (i := 3) rfl (.inr (.inl rfl)) nb_touches.1 nb_touches.2) (pt_v (i := 5) rfl (.inr (.inl rfl)) nb_other.1 nb_other.2) (fun _ _ => rfl))) (PEW.t pw_int) (fun _ _ => rfl))))) (fun _ _ _ _ _ => (pgw_nm (i := 7) sc_rows_at.nd rfl (.inl rfl) (.inr rfl))) (fun _ _ _ _ _ => pts_no) (fun _ _ _ _ _ => (pw_tup (pw_cons (pw_v (i := 6) rfl (.inl rfl) nb_mine.1 nb_mine.2) (pw_cons (pw_v (i := 7) rfl (.inl rfl) nb_yours.1 nb_yours.2) pw_nil rfl) rfl))) (fun _ => rfl) (fun _ _ => rfl))) rfl rfl rfl rfl rfl rfl)) ssw_nil)) (fun _ => rfl))) (fun _ => rfl))) (fun _ => rfl)) (ssw_one (sw_ret (pw_v (i := 1) rfl (.inl rfl) nb_found.1 nb_found.2)))))
abbrev N_all_sights : List Str := ["some", "found", "row", "one", "other", "rows"]
abbrev P_all_sights : List Str := ["some"]
theorem sc_all_sights : FnScope N_all_sights P_all_sights (defScope (top 72)) := ⟨rfl, rfl, rfl, by decide +kernel, rfl, by decide +kernel, by decide +kernel⟩
theorem w_all_sights (X : Txt K w mg) (F : FT P w K mg base k) (hr : Room (2 * k + 1) (A.deeper (envOfC "all_sights" (defScope (top 72)) s.heap.objs.size (adr K 74) cdv))) :
    PSsW (cxOf (L2.CX P w) P w K mg base N_all_sights "all_sights" (defScope (top 72)) (adr K 74) cdv A outer s H E) (fun cls d _ H => E cls d H) (defBody (top 72)) (m_all_sights (callF T k)) := by
  have hr0 := hr.mono (Nat.le_succ (2 * k))
  have h1 := hu_of hr
  have h64 := hr.units
  have h65 := room65 hr
  have tk : Takes (cxOf (L2.CX P w) P w K mg base N_all_sights "all_sights" (defScope (top 72)) (adr K 74) cdv A outer s H E) (fun cls d _ H => E cls d H) := takes_of rfl rfl rfl rfl
  have po : PassesOwn (model (cxOf (L2.CX P w) P w K mg base N_all_sights "all_sights" (defScope (top 72)) (adr K 74) cdv A outer s H E).prog w) (cxOf (L2.CX P w) P w K mg base N_all_sights "all_sights" (defScope (top 72)) (adr K 74) cdv A outer s H E).A (cxOf (L2.CX P w) P w K mg base N_all_sights "all_sights" (defScope (top 72)) (adr K 74) cdv A outer s H E).env (cxOf (L2.CX P w) P w K mg base N_all_sights "all_sights" (defScope (top 72)) (adr K 74) cdv A outer s H E).xe := passes_of rfl
  exact (ssw_cons (sw_setO (i := 1) sc_all_sights.nd rfl (.inl rfl) (.inl rfl) (pf_lst pw_nil) rfl) (ssw_cons (sw_for po rfl (pis_zip rfl X.f_zip (pw_cons (pw_call (F 72 _ rfl) hr0 tk rfl X.g_sights_of nb_sights_of.1 (pw_cons (pw_v (i := 0) rfl (.inl rfl) nb_some.1 nb_some.2) pw_nil rfl) rfl rfl) (pw_cons (pw_call (F 73 _ rfl) hr0 tk rfl X.g_rows_at nb_rows_at.1 (pw_cons (pw_v (i := 0) rfl (.inl rfl) nb_some.1 nb_some.2) pw_nil rfl) rfl rfl) pw_nil rfl) rfl) rfl rfl) (pgw_tu rfl (pgsw_cons (pgw_tu rfl (pgsw_cons (pgw_nm (i := 2) sc_all_sights.nd rfl (.inl rfl) (.inl rfl)) (pgsw_cons (pgw_nm (i := 3) sc_all_sights.nd rfl (.inl rfl) (.inl rfl)) (pgsw_cons (pgw_nm (i := 4) sc_all_sights.nd rfl (.inl rfl) (.inl rfl)) pgsw_nil rfl) rfl) rfl) rfl rfl) (pgsw_cons (pgw_nm (i := 5) sc_all_sights.nd rfl (.inl rfl) (.inl rfl)) pgsw_nil rfl) rfl) rfl rfl) (ssw_one (sw_appO (i := 1) rfl (.inl rfl) nb_found.1 nb_found.2 (pw_new X.mk_Sight (F 32 _ rfl) hr rfl X.gc_Sight nb_Sight.1 (pw_cons (pw_v (i := 2) rfl (.inl rfl) nb_row.1 nb_row.2) (pw_cons (pw_tup (pw_cons (pw_ix (pt_v (i := 3) rfl (.inl rfl) nb_one.1 nb_one.2) (PEW.t pw_int) (fun _ _ => rfl)) (pw_cons (pw_ix (pt_v (i := 4) rfl (.inl rfl) nb_other.1 nb_other.2) (PEW.t pw_int) (fun _ _ => rfl)) pw_nil rfl) rfl)) (pw_cons (pw_v (i := 5) rfl (.inl rfl) nb_rows.1 nb_rows.2) pw_nil rfl) rfl) rfl) rfl rfl) rfl rfl rfl rfl rfl rfl)) (fun _ => rfl)) (ssw_one (sw_retO (i := 1) rfl (.inl rfl) nb_found.1 nb_found.2))))
abbrev N_checked : List Str := ["program", "paper", "some", "number", "sight"]
abbrev P_checked : List Str := ["program", "paper"]
theorem sc_checked : FnScope N_checked P_checked (defScope (top 73)) := ⟨rfl, rfl, rfl, by decide +kernel, rfl, by decide +kernel, by decide +kernel⟩
theorem w_checked (X : Txt K w mg) (F : FT P w K mg base k) (hr : Room (2 * k + 1) (A.deeper (envOfC "checked" (defScope (top 73)) s.heap.objs.size (adr K 90) cdv))) :
    PSsW (cxOf (L2.CX P w) P w K mg base N_checked "checked" (defScope (top 73)) (adr K 90) cdv A outer s H E) (fun cls d _ H => E cls d H) (defBody (top 73)) (m_checked (callF T k)) := by
  have hr0 := hr.mono (Nat.le_succ (2 * k))
  have h1 := hu_of hr
  have h64 := hr.units
  have h65 := room65 hr
  have tk : Takes (cxOf (L2.CX P w) P w K mg base N_checked "checked" (defScope (top 73)) (adr K 90) cdv A outer s H E) (fun cls d _ H => E cls d H) := takes_of rfl rfl rfl rfl
  have po : PassesOwn (model (cxOf (L2.CX P w) P w K mg base N_checked "checked" (defScope (top 73)) (adr K 90) cdv A outer s H E).prog w) (cxOf (L2.CX P w) P w K mg base N_checked "checked" (defScope (top 73)) (adr K 90) cdv A outer s H E).A (cxOf (L2.CX P w) P w K mg base N_checked "checked" (defScope (top 73)) (adr K 90) cdv A outer s H E).env (cxOf (L2.CX P w) P w K mg base N_checked "checked" (defScope (top 73)) (adr K 90) cdv A outer s H E).xe := passes_of rfl
  exact (ssw_cons (sw_exp (pw_call (F 12 _ rfl) hr0 tk rfl X.g_need_program nb_need_program.1 (pw_cons (pw_v (i := 0) rfl (.inl rfl) nb_program.1 nb_program.2) pw_nil rfl) rfl rfl) rfl) (ssw_cons (sw_if (ptw_not (ptw_val (PEW.t (pw_isi (t := .tuple) rfl X.f_isinstance rfl X.f_tuple bb_tuple bn_tuple nb_tuple.1 (pt_v (i := 1) rfl (.inl rfl) nb_paper.1 nb_paper.2) rfl rfl)) (fun _ => rfl))) (ssw_one sw_never) ssw_nil) (ssw_cons (sw_set (i := 2) sc_checked.nd rfl (.inl rfl) (.inl rfl) (pw_call (F 74 _ rfl) hr0 tk rfl X.g_all_sights nb_all_sights.1 (pw_cons (pw_call (F 69 _ rfl) hr0 tk rfl X.g_spans_of nb_spans_of.1 (pw_cons (pw_v (i := 0) rfl (.inl rfl) nb_program.1 nb_program.2) pw_nil rfl) rfl rfl) pw_nil rfl) rfl rfl) rfl) (ssw_cons (sw_for po rfl (pis_enu rfl X.f_enumerate (pw_cons (pw_v (i := 2) rfl (.inl rfl) nb_some.1 nb_some.2) pw_nil rfl) rfl) (pgw_tu rfl (pgsw_cons (pgw_nm (i := 3) sc_checked.nd rfl (.inl rfl) (.inl rfl)) (pgsw_cons (pgw_nm (i := 4) sc_checked.nd rfl (.inl rfl) (.inl rfl)) pgsw_nil rfl) rfl) rfl rfl) (ssw_one (sw_if (PWW.t (ptw_or (ptw_cmp op_ge oc_ge (pt_v (i := 3) rfl (.inl rfl) nb_number.1 nb_number.2) (PEW.t (pw_bi (id := "len") call_len3 cb_len rfl X.f_len bb_len bn_len nb_len.1 (pat_cons (pt_v (i := 1) rfl (.inl rfl) nb_paper.1 nb_paper.2) pat_nil rfl) rfl rfl)) rfl) (ptw_or1 (ptw_not (ptw_val (PEW.t (pw_call (F 88 _ rfl) hr0 tk rfl X.g_shows nb_shows.1 (pw_cons (pw_v (i := 4) rfl (.inl rfl) nb_sight.1 nb_sight.2) (pw_cons (pw_ix (pt_v (i := 1) rfl (.inl rfl) nb_paper.1 nb_paper.2) (pt_v (i := 3) rfl (.inl rfl) nb_number.1 nb_number.2) (fun _ _ => rfl)) pw_nil rfl) rfl) rfl rfl)) (fun _ => rfl)))))) (ssw_one (sw_ret (pw_v (i := 3) rfl (.inl rfl) nb_number.1 nb_number.2))) ssw_nil)) (fun _ => rfl)) (ssw_one (sw_ret (pw_if (ptw_cmp (op_eqD h64) oc_eq (PEW.t (pw_bi (id := "len") call_len3 cb_len rfl X.f_len bb_len bn_len nb_len.1 (pat_cons (pt_v (i := 1) rfl (.inl rfl) nb_paper.1 nb_paper.2) pat_nil rfl) rfl rfl)) (PEW.t (pw_bi (id := "len") call_len3 cb_len rfl X.f_len bb_len bn_len nb_len.1 (pat_cons (pt_v (i := 2) rfl (.inl rfl) nb_some.1 nb_some.2) pat_nil rfl) rfl rfl)) rfl) pw_non (pw_bi (id := "len") call_len3 cb_len rfl X.f_len bb_len bn_len nb_len.1 (pat_cons (pt_v (i := 2) rfl (.inl rfl) nb_some.1 nb_some.2) pat_nil rfl) rfl rfl))))))))
abbrev N__law_start : List Str := ["_law_script", "_law_mixed", "_law_cell"]
abbrev P__law_start : List Str := ["_law_script"]
theorem sc__law_start : FnScope N__law_start P__law_start (defScope (top 75)) := ⟨rfl, rfl, rfl, by decide +kernel, rfl, by decide +kernel, by decide +kernel⟩
theorem w__law_start (X : Txt K w mg) (F : FT P w K mg base k) (hr : Room (2 * k + 1) (A.deeper (envOfC "_law_start" (defScope (top 75)) s.heap.objs.size (adr K 200) cdv))) :
    PSsW (cxOf (L2.CX P w) P w K mg base N__law_start "_law_start" (defScope (top 75)) (adr K 200) cdv A outer s H E) (fun cls d _ H => E cls d H) (defBody (top 75)) (m__law_start (callF T k)) := by
  have hr0 := hr.mono (Nat.le_succ (2 * k))
  have h1 := hu_of hr
  have h64 := hr.units
  have h65 := room65 hr
  have tk : Takes (cxOf (L2.CX P w) P w K mg base N__law_start "_law_start" (defScope (top 75)) (adr K 200) cdv A outer s H E) (fun cls d _ H => E cls d H) := takes_of rfl rfl rfl rfl
  have po : PassesOwn (model (cxOf (L2.CX P w) P w K mg base N__law_start "_law_start" (defScope (top 75)) (adr K 200) cdv A outer s H E).prog w) (cxOf (L2.CX P w) P w K mg base N__law_start "_law_start" (defScope (top 75)) (adr K 200) cdv A outer s H E).A (cxOf (L2.CX P w) P w K mg base N__law_start "_law_start" (defScope (top 75)) (adr K 200) cdv A outer s H E).env (cxOf (L2.CX P w) P w K mg base N__law_start "_law_start" (defScope (top 75)) (adr K 200) cdv A outer s H E).xe := passes_of rfl
  exact (ssw_cons (sw_set (i := 1) sc__law_start.nd rfl (.inl rfl) (.inl rfl) pw_int rfl) (ssw_cons (sw_for po rfl (pis_seq (pw_v (i := 0) rfl (.inl rfl) nb__law_script.1 nb__law_script.2)) (pgw_nm (i := 2) sc__law_start.nd rfl (.inl rfl) (.inl rfl)) (ssw_one (sw_set (i := 1) sc__law_start.nd rfl (.inl rfl) (.inl rfl) (pw_op op_modN oc_mod (PEW.t (pw_op op_add4 oc_add (PEW.t (pw_op op_add4 oc_add (PEW.t (pw_op op_mul4 oc_mul (pt_v (i := 1) rfl (.inl rfl) nb__law_mixed.1 nb__law_mixed.2) (PEW.t pw_int))) (pt_v (i := 2) rfl (.inl rfl) nb__law_cell.1 nb__law_cell.2))) (PEW.t pw_int))) (PEW.t pw_int)) rfl)) (fun _ => rfl)) (ssw_one (sw_ret (pw_heap (pf_lst (pw_cons (pw_v (i := 0) rfl (.inl rfl) nb__law_script.1 nb__law_script.2) (pw_cons pw_int (pw_cons (pw_v (i := 1) rfl (.inl rfl) nb__law_mixed.1 nb__law_mixed.2) (pw_cons pw_int pw_nil rfl) rfl) rfl) rfl)))))))
abbrev N__law_drawn : List Str := ["_law_state", "_law_many", "_law_found", "_law_cell"]
abbrev P__law_drawn : List Str := ["_law_state", "_law_many"]
theorem sc__law_drawn : FnScope N__law_drawn P__law_drawn (defScope (top 76)) := ⟨rfl, rfl, rfl, by decide +kernel, rfl, by decide +kernel, by decide +kernel⟩
theorem w__law_drawn (X : Txt K w mg) (F : FT P w K mg base k) (hr : Room (2 * k + 1) (A.deeper (envOfC "_law_drawn" (defScope (top 76)) s.heap.objs.size (adr K 201) cdv))) :
    PSsW (cxOf (L2.CX P w) P w K mg base N__law_drawn "_law_drawn" (defScope (top 76)) (adr K 201) cdv A outer s H E) (fun cls d _ H => E cls d H) (defBody (top 76)) (m__law_drawn (callF T k)) := by
  have hr0 := hr.mono (Nat.le_succ (2 * k))
  have h1 := hu_of hr
  have h64 := hr.units
  have h65 := room65 hr
  have tk : Takes (cxOf (L2.CX P w) P w K mg base N__law_drawn "_law_drawn" (defScope (top 76)) (adr K 201) cdv A outer s H E) (fun cls d _ H => E cls d H) := takes_of rfl rfl rfl rfl
  have po : PassesOwn (model (cxOf (L2.CX P w) P w K mg base N__law_drawn "_law_drawn" (defScope (top 76)) (adr K 201) cdv A outer s H E).prog w) (cxOf (L2.CX P w) P w K mg base N__law_drawn "_law_drawn" (defScope (top 76)) (adr K 201) cdv A outer s H E).A (cxOf (L2.CX P w) P w K mg base N__law_drawn "_law_drawn" (defScope (top 76)) (adr K 201) cdv A outer s H E).env (cxOf (L2.CX P w) P w K mg base N__law_drawn "_law_drawn" (defScope (top 76)) (adr K 201) cdv A outer s H E).xe := passes_of rfl
  exact (ssw_cons (sw_if (ptw_cmp op_gt oc_gt (PEW.t (pw_ix (pt_v (i := 0) rfl (.inl rfl) nb__law_state.1 nb__law_state.2) (PEW.t pw_int) (fun _ _ => rfl))) (PEW.t pw_int) rfl) (ssw_cons (sw_set (i := 2) sc__law_drawn.nd rfl (.inl rfl) (.inl rfl) (pw_op op_modN oc_mod (PEW.t (pw_ix (pt_v (i := 0) rfl (.inl rfl) nb__law_state.1 nb__law_state.2) (PEW.t pw_int) (fun _ _ => rfl))) (pt_v (i := 1) rfl (.inl rfl) nb__law_many.1 nb__law_many.2)) rfl) (ssw_cons (sw_ixL (pt_v (i := 0) rfl (.inl rfl) nb__law_state.1 nb__law_state.2) (PEW.t pw_int) (pw_op op_fdivN oc_div (PEW.t (pw_ix (pt_v (i := 0) rfl (.inl rfl) nb__law_state.1 nb__law_state.2) (PEW.t pw_int) (fun _ _ => rfl))) (pt_v (i := 1) rfl (.inl rfl) nb__law_many.1 nb__law_many.2)) (fun _ => rfl) rfl rfl rfl) (ssw_one (sw_ret (pw_v (i := 2) rfl (.inl rfl) nb__law_found.1 nb__law_found.2))))) ssw_nil) (ssw_cons (sw_ixL (pt_v (i := 0) rfl (.inl rfl) nb__law_state.1 nb__law_state.2) (PEW.t pw_int) (pw_op op_add4 oc_add (PEW.t (pw_ix (pt_v (i := 0) rfl (.inl rfl) nb__law_state.1 nb__law_state.2) (PEW.t pw_int) (fun _ _ => rfl))) (PEW.t pw_int)) (fun _ => rfl) rfl rfl rfl) (ssw_cons (sw_if (ptw_cmp op_le oc_le (PEW.t (pw_ix (pt_v (i := 0) rfl (.inl rfl) nb__law_state.1 nb__law_state.2) (PEW.t pw_int) (fun _ _ => rfl))) (PEW.t (pw_bi (id := "len") call_len3 cb_len rfl X.f_len bb_len bn_len nb_len.1 (pat_cons (PEW.t (pw_ix (pt_v (i := 0) rfl (.inl rfl) nb__law_state.1 nb__law_state.2) (PEW.t pw_int) (fun _ _ => rfl))) pat_nil rfl) rfl rfl)) rfl) (ssw_cons (sw_set (i := 3) sc__law_drawn.nd rfl (.inl rfl) (.inl rfl) (pw_ix (PEW.t (pw_ix (pt_v (i := 0) rfl (.inl rfl) nb__law_state.1 nb__law_state.2) (PEW.t pw_int) (fun _ _ => rfl))) (PEW.t (pw_op op_sub oc_sub (PEW.t (pw_ix (pt_v (i := 0) rfl (.inl rfl) nb__law_state.1 nb__law_state.2) (PEW.t pw_int) (fun _ _ => rfl))) (PEW.t pw_int))) (fun _ _ => rfl)) rfl) (ssw_cons (sw_ixL (pt_v (i := 0) rfl (.inl rfl) nb__law_state.1 nb__law_state.2) (PEW.t pw_int) (pw_if (ptw_cmp op_ge oc_ge (pt_v (i := 3) rfl (.inl rfl) nb__law_cell.1 nb__law_cell.2) (PEW.t (pw_op op_pow oc_pow (PEW.t pw_int) (PEW.t pw_int))) rfl) (pw_op op_fdivN oc_div (pt_v (i := 3) rfl (.inl rfl) nb__law_cell.1 nb__law_cell.2) (pt_v (i := 1) rfl (.inl rfl) nb__law_many.1 nb__law_many.2)) pw_int) (fun _ => rfl) rfl rfl rfl) (ssw_one (sw_ret (pw_op op_modN oc_mod (pt_v (i := 3) rfl (.inl rfl) nb__law_cell.1 nb__law_cell.2) (pt_v (i := 1) rfl (.inl rfl) nb__law_many.1 nb__law_many.2)))))) ssw_nil) (ssw_cons (sw_ixL (pt_v (i := 0) rfl (.inl rfl) nb__law_state.1 nb__law_state.2) (PEW.t pw_int) (pw_op op_modN oc_mod (PEW.t (pw_op op_add4 oc_add (PEW.t (pw_op op_mul4 oc_mul (PEW.t (pw_ix (pt_v (i := 0) rfl (.inl rfl) nb__law_state.1 nb__law_state.2) (PEW.t pw_int) (fun _ _ => rfl))) (PEW.t pw_int))) (PEW.t pw_int))) (PEW.t pw_int)) (fun _ => rfl) rfl rfl rfl) (ssw_one (sw_ret (pw_op op_modN oc_mod (PEW.t (pw_op op_fdivN oc_div (PEW.t (pw_ix (pt_v (i := 0) rfl (.inl rfl) nb__law_state.1 nb__law_state.2) (PEW.t pw_int) (fun _ _ => rfl))) (PEW.t pw_int))) (pt_v (i := 1) rfl (.inl rfl) nb__law_many.1 nb__law_many.2))))))))
abbrev N__law_two : List Str := ["_law_one", "_law_other", "_law_test"]
abbrev P__law_two : List Str := ["_law_one", "_law_other", "_law_test"]
theorem sc__law_two : FnScope N__law_two P__law_two (defScope (top 77)) := ⟨rfl, rfl, rfl, by decide +kernel, rfl, by decide +kernel, by decide +kernel⟩
theorem w__law_two (X : Txt K w mg) (F : FT P w K mg base k) (hr : Room (2 * k + 1) (A.deeper (envOfC "_law_two" (defScope (top 77)) s.heap.objs.size (adr K 202) cdv))) :
    PSsW (cxOf (L2.CX P w) P w K mg base N__law_two "_law_two" (defScope (top 77)) (adr K 202) cdv A outer s H E) (fun cls d _ H => E cls d H) (defBody (top 77)) (m__law_two (callF T k)) := by
  have hr0 := hr.mono (Nat.le_succ (2 * k))
  have h1 := hu_of hr
  have h64 := hr.units
  have h65 := room65 hr
  have tk : Takes (cxOf (L2.CX P w) P w K mg base N__law_two "_law_two" (defScope (top 77)) (adr K 202) cdv A outer s H E) (fun cls d _ H => E cls d H) := takes_of rfl rfl rfl rfl
  have po : PassesOwn (model (cxOf (L2.CX P w) P w K mg base N__law_two "_law_two" (defScope (top 77)) (adr K 202) cdv A outer s H E).prog w) (cxOf (L2.CX P w) P w K mg base N__law_two "_law_two" (defScope (top 77)) (adr K 202) cdv A outer s H E).A (cxOf (L2.CX P w) P w K mg base N__law_two "_law_two" (defScope (top 77)) (adr K 202) cdv A outer s H E).env (cxOf (L2.CX P w) P w K mg base N__law_two "_law_two" (defScope (top 77)) (adr K 202) cdv A outer s H E).xe := passes_of rfl
  exact (ssw_one (sw_ret (pw_tup (pw_cons (pw_tup (pw_cons (pw_str x45_ok) (pw_cons pw_int (pw_cons (pw_v (i := 0) rfl (.inl rfl) nb__law_one.1 nb__law_one.2) (pw_cons (pw_tup (pw_cons (pw_str x21_ok) (pw_cons pw_int pw_nil rfl) rfl)) pw_nil rfl) rfl) rfl) rfl)) (pw_cons (pw_tup (pw_cons (pw_str x46_ok) (pw_cons (pw_v (i := 2) rfl (.inl rfl) nb__law_test.1 nb__law_test.2) (pw_cons (pw_tup (pw_cons (pw_tup (pw_cons (pw_str x47_ok) (pw_cons (pw_str x48_ok) (pw_cons pw_int (pw_cons (pw_v (i := 1) rfl (.inl rfl) nb__law_other.1 nb__law_other.2) pw_nil rfl) rfl) rfl) rfl)) pw_nil rfl)) (pw_cons (pw_tup pw_nil) pw_nil rfl) rfl) rfl) rfl)) pw_nil rfl) rfl))))
abbrev N__law_tries : List Str := ["_law_program", "_law_good", "_law_bad", "_law_reason"]
abbrev P__law_tries : List Str := ["_law_program", "_law_good", "_law_bad"]
theorem sc__law_tries : FnScope N__law_tries P__law_tries (defScope (top 78)) := ⟨rfl, rfl, rfl, by decide +kernel, rfl, by decide +kernel, by decide +kernel⟩
theorem w__law_tries (X : Txt K w mg) (F : FT P w K mg base k) (hr : Room (2 * k + 1) (A.deeper (envOfC "_law_tries" (defScope (top 78)) s.heap.objs.size (adr K 203) cdv))) :
    PSsW (cxOf (L2.CX P w) P w K mg base N__law_tries "_law_tries" (defScope (top 78)) (adr K 203) cdv A outer s H E) (fun cls d _ H => E cls d H) (defBody (top 78)) (m__law_tries (callF T k)) := by
  have hr0 := hr.mono (Nat.le_succ (2 * k))
  have h1 := hu_of hr
  have h64 := hr.units
  have h65 := room65 hr
  have tk : Takes (cxOf (L2.CX P w) P w K mg base N__law_tries "_law_tries" (defScope (top 78)) (adr K 203) cdv A outer s H E) (fun cls d _ H => E cls d H) := takes_of rfl rfl rfl rfl
  have po : PassesOwn (model (cxOf (L2.CX P w) P w K mg base N__law_tries "_law_tries" (defScope (top 78)) (adr K 203) cdv A outer s H E).prog w) (cxOf (L2.CX P w) P w K mg base N__law_tries "_law_tries" (defScope (top 78)) (adr K 203) cdv A outer s H E).A (cxOf (L2.CX P w) P w K mg base N__law_tries "_law_tries" (defScope (top 78)) (adr K 203) cdv A outer s H E).env (cxOf (L2.CX P w) P w K mg base N__law_tries "_law_tries" (defScope (top 78)) (adr K 203) cdv A outer s H E).xe := passes_of rfl
  exact (ssw_cons (sw_for po rfl (pis_seq (pw_v (i := 1) rfl (.inl rfl) nb__law_good.1 nb__law_good.2)) (pgw_nm (i := 3) sc__law_tries.nd rfl (.inl rfl) (.inl rfl)) (ssw_one (sw_if (ptw_notN (PEW.t (pw_call (F 90 _ rfl) hr0 tk rfl X.g_checked nb_checked.1 (pw_cons (pw_v (i := 0) rfl (.inl rfl) nb__law_program.1 nb__law_program.2) (pw_cons (pw_tup (pw_cons (pw_tup (pw_cons (pw_str x49_ok) pw_nil rfl)) (pw_cons (pw_v (i := 3) rfl (.inl rfl) nb__law_reason.1 nb__law_reason.2) pw_nil rfl) rfl)) pw_nil rfl) rfl) rfl rfl))) (ssw_one (sw_ret pw_bl)) ssw_nil)) (fun _ => rfl)) (ssw_cons (sw_for po rfl (pis_seq (pw_v (i := 2) rfl (.inl rfl) nb__law_bad.1 nb__law_bad.2)) (pgw_nm (i := 3) sc__law_tries.nd rfl (.inl rfl) (.inl rfl)) (ssw_one (sw_if (ptw_cmp (op_neD h64) oc_ne (PEW.t (pw_call (F 90 _ rfl) hr0 tk rfl X.g_checked nb_checked.1 (pw_cons (pw_v (i := 0) rfl (.inl rfl) nb__law_program.1 nb__law_program.2) (pw_cons (pw_tup (pw_cons (pw_tup (pw_cons (pw_str x49_ok) pw_nil rfl)) (pw_cons (pw_v (i := 3) rfl (.inl rfl) nb__law_reason.1 nb__law_reason.2) pw_nil rfl) rfl)) pw_nil rfl) rfl) rfl rfl)) (PEW.t pw_int) rfl) (ssw_one (sw_ret pw_bl)) ssw_nil)) (fun _ => rfl)) (ssw_one (sw_ret pw_bl))))
abbrev N__law_settled : List Str := ["_law_state", "_law_n", "_law_more", "_law_deeds", "_law_program", "_law_cases", "_law_next_one", "_law_told", "_law_good", "_law_bad", "_law_five"]
abbrev P__law_settled : List Str := ["_law_state"]
theorem sc__law_settled : FnScope N__law_settled P__law_settled (defScope (top 79)) := ⟨rfl, rfl, rfl, by decide +kernel, rfl, by decide +kernel, by decide +kernel⟩
theorem w__law_settled (X : Txt K w mg) (F : FT P w K mg base k) (hr : Room (2 * k + 1) (A.deeper (envOfC "_law_settled" (defScope (top 79)) s.heap.objs.size (adr K 204) cdv))) :
    PSsW (cxOf (L2.CX P w) P w K mg base N__law_settled "_law_settled" (defScope (top 79)) (adr K 204) cdv A outer s H E) (fun cls d _ H => E cls d H) (defBody (top 79)) (m__law_settled (callF T k)) := by
  have hr0 := hr.mono (Nat.le_succ (2 * k))
  have h1 := hu_of hr
  have h64 := hr.units
  have h65 := room65 hr
  have tk : Takes (cxOf (L2.CX P w) P w K mg base N__law_settled "_law_settled" (defScope (top 79)) (adr K 204) cdv A outer s H E) (fun cls d _ H => E cls d H) := takes_of rfl rfl rfl rfl
  have po : PassesOwn (model (cxOf (L2.CX P w) P w K mg base N__law_settled "_law_settled" (defScope (top 79)) (adr K 204) cdv A outer s H E).prog w) (cxOf (L2.CX P w) P w K mg base N__law_settled "_law_settled" (defScope (top 79)) (adr K 204) cdv A outer s H E).A (cxOf (L2.CX P w) P w K mg base N__law_settled "_law_settled" (defScope (top 79)) (adr K 204) cdv A outer s H E).env (cxOf (L2.CX P w) P w K mg base N__law_settled "_law_settled" (defScope (top 79)) (adr K 204) cdv A outer s H E).xe := passes_of rfl
  exact (ssw_cons (sw_par (i := 1) (j := 2) rfl sc__law_settled.nd rfl rfl (by decide) rfl rfl (pw_cons (pw_call (F 201 _ rfl) hr0 tk rfl X.g__law_drawn nb__law_drawn.1 (pw_cons (pw_v (i := 0) rfl (.inl rfl) nb__law_state.1 nb__law_state.2) (pw_cons pw_int pw_nil rfl) rfl) rfl rfl) (pw_cons (pw_op op_add4 oc_add (PEW.t pw_int) (PEW.t (pw_call (F 201 _ rfl) hr0 tk rfl X.g__law_drawn nb__law_drawn.1 (pw_cons (pw_v (i := 0) rfl (.inl rfl) nb__law_state.1 nb__law_state.2) (pw_cons pw_int pw_nil rfl) rfl) rfl rfl))) pw_nil rfl) rfl) rfl rfl) (ssw_cons (sw_set (i := 3) sc__law_settled.nd rfl (.inl rfl) (.inl rfl) (pw_tup (pw_cons (pw_tup (pw_cons (pw_str x45_ok) (pw_cons pw_int (pw_cons (pw_tup (pw_cons pw_int (pw_cons (pw_tup (pw_cons (pw_tup (pw_cons (pw_str x54_ok) (pw_cons pw_int pw_nil rfl) rfl)) pw_nil rfl)) (pw_cons (pw_v (i := 1) rfl (.inl rfl) nb__law_n.1 nb__law_n.2) pw_nil rfl) rfl) rfl)) (pw_cons (pw_tup (pw_cons (pw_str x21_ok) (pw_cons pw_int pw_nil rfl) rfl)) pw_nil rfl) rfl) rfl) rfl)) (pw_cons (pw_tup (pw_cons (pw_str x47_ok) (pw_cons (pw_str x48_ok) (pw_cons pw_int (pw_cons (pw_tup (pw_cons pw_int (pw_cons (pw_tup pw_nil) (pw_cons (pw_op op_add4 oc_add (pt_v (i := 1) rfl (.inl rfl) nb__law_n.1 nb__law_n.2) (PEW.t (pw_op op_mul4 oc_mul (PEW.t pw_int) (pt_v (i := 2) rfl (.inl rfl) nb__law_more.1 nb__law_more.2)))) pw_nil rfl) rfl) rfl)) pw_nil rfl) rfl) rfl) rfl)) pw_nil rfl) rfl)) rfl) (ssw_cons (sw_set (i := 4) sc__law_settled.nd rfl (.inl rfl) (.inl rfl) (pw_tup (pw_cons (pw_tup (pw_cons (pw_str x42_ok) (pw_cons (pw_str x54_ok) (pw_cons pw_int (pw_cons (pw_tup (pw_cons (pw_tup (pw_cons (pw_str x46_ok) (pw_cons (pw_tup (pw_cons (pw_str x53_ok) (pw_cons pw_int pw_nil rfl) rfl)) (pw_cons (pw_v (i := 3) rfl (.inl rfl) nb__law_deeds.1 nb__law_deeds.2) (pw_cons (pw_tup pw_nil) pw_nil rfl) rfl) rfl) rfl)) (pw_cons (pw_tup (pw_cons (pw_str x40_ok) pw_nil rfl)) pw_nil rfl) rfl)) pw_nil rfl) rfl) rfl) rfl)) pw_nil rfl)) rfl) (ssw_cons (sw_set (i := 5) sc__law_settled.nd rfl (.inl rfl) (.inl rfl) (pw_tup (pw_cons (pw_str x50_ok) (pw_cons pw_int (pw_cons (pw_op op_add4 oc_add (PEW.t (pw_op op_mul4 oc_mul (PEW.t (pw_tup (pw_cons (pw_tup (pw_cons (pw_str x51_ok) pw_nil rfl)) pw_nil rfl))) (pt_v (i := 2) rfl (.inl rfl) nb__law_more.1 nb__law_more.2))) (PEW.t (pw_tup (pw_cons (pw_tup (pw_cons (pw_str x49_ok) pw_nil rfl)) pw_nil rfl)))) pw_nil rfl) rfl) rfl)) rfl) (ssw_cons (sw_set (i := 6) sc__law_settled.nd rfl (.inl rfl) (.inl rfl) (pw_tup (pw_cons (pw_str x50_ok) (pw_cons pw_int (pw_cons (pw_op op_add4 oc_add (PEW.t (pw_op op_mul4 oc_mul (PEW.t (pw_tup (pw_cons (pw_tup (pw_cons (pw_str x51_ok) pw_nil rfl)) pw_nil rfl))) (PEW.t (pw_op op_sub oc_sub (pt_v (i := 2) rfl (.inl rfl) nb__law_more.1 nb__law_more.2) (PEW.t pw_int))))) (PEW.t (pw_tup (pw_cons (pw_tup (pw_cons (pw_str x49_ok) pw_nil rfl)) pw_nil rfl)))) pw_nil rfl) rfl) rfl)) rfl) (ssw_cons (sw_set (i := 7) sc__law_settled.nd rfl (.inl rfl) (.inl rfl) (PEF.w (pf_lst (pw_cons (pw_tup (pw_cons (pw_str x49_ok) pw_nil rfl)) (pw_cons (pw_tup (pw_cons (pw_str x51_ok) pw_nil rfl)) (pw_cons (pw_tup (pw_cons (pw_str x49_ok) pw_nil rfl)) (pw_cons (pw_v (i := 6) rfl (.inl rfl) nb__law_next_one.1 nb__law_next_one.2) pw_nil rfl) rfl) rfl) rfl))) rfl) (ssw_cons (sw_if (PWW.t (ptw_or (ptw_notN (PEW.t (pw_call (F 90 _ rfl) hr0 tk rfl X.g_checked nb_checked.1 (pw_cons (pw_v (i := 4) rfl (.inl rfl) nb__law_program.1 nb__law_program.2) (pw_cons (pw_ty (T := "tuple") call_tuple_of cb_tuple rfl X.f_tuple bb_tuple bn_tuple nb_tuple.1 (pat_cons (pt_v (i := 7) rfl (.inl rfl) nb__law_told.1 nb__law_told.2) pat_nil rfl) rfl rfl) pw_nil rfl) rfl) rfl rfl))) (ptw_or1 (ptw_cmp (op_neD h64) oc_ne (PEW.t (pw_call (F 90 _ rfl) hr0 tk rfl X.g_checked nb_checked.1 (pw_cons (pw_v (i := 4) rfl (.inl rfl) nb__law_program.1 nb__law_program.2) (pw_cons (pw_ty (T := "tuple") call_tuple_of cb_tuple rfl X.f_tuple bb_tuple bn_tuple nb_tuple.1 (pat_cons (PEW.t (pw_op op_add4 oc_add (PEW.t (pw_cut (pt_v (i := 7) rfl (.inl rfl) nb__law_told.1 nb__law_told.2) pow_none (pow_some (PEW.t pw_int)))) (PEW.t (PEF.w (pf_lst (pw_cons (pw_v (i := 5) rfl (.inl rfl) nb__law_cases.1 nb__law_cases.2) pw_nil rfl)))))) pat_nil rfl) rfl rfl) pw_nil rfl) rfl) rfl rfl)) (PEW.t pw_int) rfl)))) (ssw_one (sw_ret pw_bl)) ssw_nil) (ssw_cons (sw_set (i := 4) sc__law_settled.nd rfl (.inl rfl) (.inl rfl) (pw_tup (pw_cons (pw_tup (pw_cons (pw_str x46_ok) (pw_cons (pw_tup (pw_cons (pw_str x53_ok) (pw_cons pw_int pw_nil rfl) rfl)) (pw_cons (pw_tup (pw_cons (pw_tup (pw_cons (pw_str x45_ok) (pw_cons pw_int (pw_cons (pw_tup (pw_cons pw_int (pw_cons (pw_tup pw_nil) (pw_cons (pw_v (i := 1) rfl (.inl rfl) nb__law_n.1 nb__law_n.2) pw_nil rfl) rfl) rfl)) (pw_cons (pw_tup (pw_cons (pw_str x21_ok) (pw_cons pw_int pw_nil rfl) rfl)) pw_nil rfl) rfl) rfl) rfl)) pw_nil rfl)) (pw_cons (pw_tup pw_nil) pw_nil rfl) rfl) rfl) rfl)) pw_nil rfl)) rfl) (ssw_cons (sw_set (i := 4) sc__law_settled.nd rfl (.inl rfl) (.inl rfl) (pw_op op_add4 oc_add (pt_v (i := 4) rfl (.inl rfl) nb__law_program.1 nb__law_program.2) (PEW.t (pw_tup (pw_cons (pw_tup (pw_cons (pw_str x46_ok) (pw_cons (pw_tup (pw_cons (pw_str x53_ok) (pw_cons pw_int pw_nil rfl) rfl)) (pw_cons (pw_tup (pw_cons (pw_tup (pw_cons (pw_str x47_ok) (pw_cons (pw_str x48_ok) (pw_cons pw_int (pw_cons (pw_tup (pw_cons (pw_op op_sub oc_sub (PEW.t pw_int) (PEW.t pw_int)) (pw_cons (pw_tup pw_nil) (pw_cons (pw_op op_add4 oc_add (pt_v (i := 1) rfl (.inl rfl) nb__law_n.1 nb__law_n.2) (PEW.t pw_int)) pw_nil rfl) rfl) rfl)) pw_nil rfl) rfl) rfl) rfl)) pw_nil rfl)) (pw_cons (pw_tup pw_nil) pw_nil rfl) rfl) rfl) rfl)) pw_nil rfl)))) rfl) (ssw_cons (sw_par (i := 8) (j := 9) rfl sc__law_settled.nd rfl rfl (by decide) rfl rfl (pw_cons (PEF.w (pf_lst (pw_cons (pw_tup (pw_cons (pw_str x50_ok) (pw_cons pw_int (pw_cons (pw_tup (pw_cons (pw_tup (pw_cons (pw_str x52_ok) (pw_cons pw_int pw_nil rfl) rfl)) pw_nil rfl)) pw_nil rfl) rfl) rfl)) (pw_cons (pw_tup (pw_cons (pw_str x50_ok) (pw_cons pw_int (pw_cons (pw_tup (pw_cons (pw_tup (pw_cons (pw_str x52_ok) (pw_cons pw_int pw_nil rfl) rfl)) pw_nil rfl)) pw_nil rfl) rfl) rfl)) pw_nil rfl) rfl))) (pw_cons (PEF.w (pf_lst (pw_cons (pw_tup (pw_cons (pw_str x50_ok) (pw_cons pw_int (pw_cons (pw_op op_mul4 oc_mul (PEW.t (pw_tup (pw_cons (pw_tup (pw_cons (pw_str x52_ok) (pw_cons pw_int pw_nil rfl) rfl)) pw_nil rfl))) (PEW.t pw_int)) pw_nil rfl) rfl) rfl)) (pw_cons (pw_tup (pw_cons (pw_str x51_ok) pw_nil rfl)) pw_nil rfl) rfl))) pw_nil rfl) rfl) rfl rfl) (ssw_cons (sw_if (ptw_not (ptw_val (PEW.t (pw_call (F 203 _ rfl) hr0 tk rfl X.g__law_tries nb__law_tries.1 (pw_cons (pw_v (i := 4) rfl (.inl rfl) nb__law_program.1 nb__law_program.2) (pw_cons (pw_v (i := 8) rfl (.inl rfl) nb__law_good.1 nb__law_good.2) (pw_cons (pw_op op_add4 oc_add (pt_v (i := 9) rfl (.inl rfl) nb__law_bad.1 nb__law_bad.2) (PEW.t (PEF.w (pf_lst (pw_cons (pw_tup (pw_cons (pw_str x50_ok) (pw_cons pw_int (pw_cons (pw_tup (pw_cons (pw_tup (pw_cons (pw_str x52_ok) (pw_cons pw_int pw_nil rfl) rfl)) pw_nil rfl)) pw_nil rfl) rfl) rfl)) (pw_cons (pw_tup (pw_cons (pw_str x52_ok) (pw_cons pw_int pw_nil rfl) rfl)) (pw_cons (pw_tup (pw_cons (pw_str x49_ok) pw_nil rfl)) pw_nil rfl) rfl) rfl))))) pw_nil rfl) rfl) rfl) rfl rfl)) (fun _ => rfl))) (ssw_one (sw_ret pw_bl)) ssw_nil) (ssw_cons (sw_set (i := 4) sc__law_settled.nd rfl (.inl rfl) (.inl rfl) (pw_tup (pw_cons (pw_tup (pw_cons (pw_str x46_ok) (pw_cons (pw_tup (pw_cons (pw_str x53_ok) (pw_cons pw_int pw_nil rfl) rfl)) (pw_cons (pw_tup (pw_cons (pw_tup (pw_cons (pw_str x45_ok) (pw_cons pw_int (pw_cons (pw_tup (pw_cons pw_int (pw_cons (pw_tup pw_nil) (pw_cons (pw_v (i := 1) rfl (.inl rfl) nb__law_n.1 nb__law_n.2) pw_nil rfl) rfl) rfl)) (pw_cons (pw_tup (pw_cons (pw_str x21_ok) (pw_cons pw_int pw_nil rfl) rfl)) pw_nil rfl) rfl) rfl) rfl)) pw_nil rfl)) (pw_cons (pw_tup pw_nil) pw_nil rfl) rfl) rfl) rfl)) pw_nil rfl)) rfl) (ssw_cons (sw_set (i := 4) sc__law_settled.nd rfl (.inl rfl) (.inl rfl) (pw_op op_add4 oc_add (pt_v (i := 4) rfl (.inl rfl) nb__law_program.1 nb__law_program.2) (PEW.t (pw_tup (pw_cons (pw_tup (pw_cons (pw_str x46_ok) (pw_cons (pw_tup (pw_cons (pw_str x53_ok) (pw_cons pw_int pw_nil rfl) rfl)) (pw_cons (pw_tup (pw_cons (pw_tup (pw_cons (pw_str x47_ok) (pw_cons (pw_str x48_ok) (pw_cons pw_int (pw_cons (pw_tup (pw_cons (pw_op op_sub oc_sub (PEW.t pw_int) (PEW.t pw_int)) (pw_cons (pw_tup pw_nil) (pw_cons (pw_op op_add4 oc_add (pt_v (i := 1) rfl (.inl rfl) nb__law_n.1 nb__law_n.2) (PEW.t pw_int)) pw_nil rfl) rfl) rfl)) pw_nil rfl) rfl) rfl) rfl)) pw_nil rfl)) (pw_cons (pw_tup pw_nil) pw_nil rfl) rfl) rfl) rfl)) pw_nil rfl)))) rfl) (ssw_cons (sw_set (i := 10) sc__law_settled.nd rfl (.inl rfl) (.inl rfl) (pw_tup (pw_cons (pw_str x52_ok) (pw_cons pw_int pw_nil rfl) rfl)) rfl) (ssw_cons (sw_set (i := 8) sc__law_settled.nd rfl (.inl rfl) (.inl rfl) (PEF.w (pf_lst (pw_cons (pw_tup (pw_cons (pw_str x51_ok) pw_nil rfl)) (pw_cons (pw_tup (pw_cons (pw_str x50_ok) (pw_cons pw_int (pw_cons (pw_tup (pw_cons (pw_tup (pw_cons (pw_str x51_ok) pw_nil rfl)) (pw_cons (pw_v (i := 10) rfl (.inl rfl) nb__law_five.1 nb__law_five.2) (pw_cons (pw_v (i := 10) rfl (.inl rfl) nb__law_five.1 nb__law_five.2) (pw_cons (pw_v (i := 10) rfl (.inl rfl) nb__law_five.1 nb__law_five.2) (pw_cons (pw_v (i := 10) rfl (.inl rfl) nb__law_five.1 nb__law_five.2) pw_nil rfl) rfl) rfl) rfl) rfl)) pw_nil rfl) rfl) rfl)) (pw_cons (pw_tup (pw_cons (pw_str x50_ok) (pw_cons pw_int (pw_cons (pw_op op_mul4 oc_mul (PEW.t (pw_tup (pw_cons (pw_tup (pw_cons (pw_str x51_ok) pw_nil rfl)) pw_nil rfl))) (PEW.t pw_int)) pw_nil rfl) rfl) rfl)) pw_nil rfl) rfl) rfl))) rfl) (ssw_cons (sw_setO (i := 9) sc__law_settled.nd rfl (.inl rfl) (.inl rfl) (pf_lst (pw_cons (pw_tup (pw_cons (pw_str x50_ok) (pw_cons pw_int (pw_cons (pw_op op_mul4 oc_mul (PEW.t (pw_tup (pw_cons (pw_v (i := 10) rfl (.inl rfl) nb__law_five.1 nb__law_five.2) pw_nil rfl))) (PEW.t pw_int)) pw_nil rfl) rfl) rfl)) (pw_cons (pw_tup (pw_cons (pw_str x50_ok) (pw_cons pw_int (pw_cons (pw_op op_mul4 oc_mul (PEW.t (pw_tup (pw_cons (pw_tup (pw_cons (pw_str x51_ok) pw_nil rfl)) pw_nil rfl))) (PEW.t pw_int)) pw_nil rfl) rfl) rfl)) pw_nil rfl) rfl)) rfl) (ssw_cons (sw_appO (i := 9) rfl (.inl rfl) nb__law_bad.1 nb__law_bad.2 (pw_tup (pw_cons (pw_str x50_ok) (pw_cons pw_int (pw_cons (pw_tup (pw_cons (pw_tup (pw_cons (pw_str x51_ok) pw_nil rfl)) (pw_cons (pw_tup (pw_cons (pw_str x52_ok) (pw_cons pw_int pw_nil rfl) rfl)) (pw_cons (pw_v (i := 10) rfl (.inl rfl) nb__law_five.1 nb__law_five.2) (pw_cons (pw_v (i := 10) rfl (.inl rfl) nb__law_five.1 nb__law_five.2) (pw_cons (pw_v (i := 10) rfl (.inl rfl) nb__law_five.1 nb__law_five.2) pw_nil rfl) rfl) rfl) rfl) rfl)) pw_nil rfl) rfl) rfl)) rfl rfl rfl rfl rfl rfl) (ssw_fz (i := 9) (ssw_one (sw_ret (pw_call (F 203 _ rfl) hr0 tk rfl X.g__law_tries nb__law_tries.1 (pw_cons (pw_v (i := 4) rfl (.inl rfl) nb__law_program.1 nb__law_program.2) (pw_cons (pw_v (i := 8) rfl (.inl rfl) nb__law_good.1 nb__law_good.2) (pw_cons (pw_v (i := 9) rfl (.inl rfl) nb__law_bad.1 nb__law_bad.2) pw_nil rfl) rfl) rfl) rfl rfl)))))))))))))))))))))
abbrev N_law : List Str := ["_law_script", "_law_state", "_law_turn", "_law_m", "_law_n", "_law_r", "_law_program", "_law_bad", "_law_good", "_law_k"]
abbrev P_law : List Str := ["_law_script"]
theorem sc_law : FnScope N_law P_law (defScope (top 80)) := ⟨rfl, rfl, rfl, by decide +kernel, rfl, by decide +kernel, by decide +kernel⟩
theorem w_law (X : Txt K w mg) (F : FT P w K mg base k) (hr : Room (2 * k + 1) (A.deeper (envOfC "law" (defScope (top 80)) s.heap.objs.size (adr K 205) cdv))) :
    PSsW (cxOf (L2.CX P w) P w K mg base N_law "law" (defScope (top 80)) (adr K 205) cdv A outer s H E) (fun cls d _ H => E cls d H) (defBody (top 80)) (m_law (callF T k)) := by
  have hr0 := hr.mono (Nat.le_succ (2 * k))
  have h1 := hu_of hr
  have h64 := hr.units
  have h65 := room65 hr
  have tk : Takes (cxOf (L2.CX P w) P w K mg base N_law "law" (defScope (top 80)) (adr K 205) cdv A outer s H E) (fun cls d _ H => E cls d H) := takes_of rfl rfl rfl rfl
  have po : PassesOwn (model (cxOf (L2.CX P w) P w K mg base N_law "law" (defScope (top 80)) (adr K 205) cdv A outer s H E).prog w) (cxOf (L2.CX P w) P w K mg base N_law "law" (defScope (top 80)) (adr K 205) cdv A outer s H E).A (cxOf (L2.CX P w) P w K mg base N_law "law" (defScope (top 80)) (adr K 205) cdv A outer s H E).env (cxOf (L2.CX P w) P w K mg base N_law "law" (defScope (top 80)) (adr K 205) cdv A outer s H E).xe := passes_of rfl
  exact (ssw_cons (sw_set (i := 1) sc_law.nd rfl (.inl rfl) (.inl rfl) (pw_call (F 200 _ rfl) hr0 tk rfl X.g__law_start nb__law_start.1 (pw_cons (pw_v (i := 0) rfl (.inl rfl) nb__law_script.1 nb__law_script.2) pw_nil rfl) rfl rfl) rfl) (ssw_cons (sw_for po rfl (pis_rg1 rfl X.f_range (pw_cons pw_int pw_nil rfl) rfl) (pgw_nm (i := 2) sc_law.nd rfl (.inl rfl) (.inl rfl)) (ssw_cons (sw_if (ptw_not (ptw_val (PEW.t (pw_call (F 204 _ rfl) hr0 tk rfl X.g__law_settled nb__law_settled.1 (pw_cons (pw_v (i := 1) rfl (.inl rfl) nb__law_state.1 nb__law_state.2) pw_nil rfl) rfl rfl)) (fun _ => rfl))) (ssw_one (sw_ret pw_bl)) ssw_nil) (ssw_cons (sw_par3 (i := 3) (j := 4) (l := 5) rfl sc_law.nd rfl rfl rfl (by decide) (by decide) (by decide) rfl rfl rfl (pw_cons (pw_op op_add4 oc_add (PEW.t pw_int) (PEW.t (pw_call (F 201 _ rfl) hr0 tk rfl X.g__law_drawn nb__law_drawn.1 (pw_cons (pw_v (i := 1) rfl (.inl rfl) nb__law_state.1 nb__law_state.2) (pw_cons pw_int pw_nil rfl) rfl) rfl rfl))) (pw_cons (pw_call (F 201 _ rfl) hr0 tk rfl X.g__law_drawn nb__law_drawn.1 (pw_cons (pw_v (i := 1) rfl (.inl rfl) nb__law_state.1 nb__law_state.2) (pw_cons pw_int pw_nil rfl) rfl) rfl rfl) (pw_cons (pw_op op_add4 oc_add (PEW.t pw_int) (PEW.t (pw_call (F 201 _ rfl) hr0 tk rfl X.g__law_drawn nb__law_drawn.1 (pw_cons (pw_v (i := 1) rfl (.inl rfl) nb__law_state.1 nb__law_state.2) (pw_cons pw_int pw_nil rfl) rfl) rfl rfl))) pw_nil rfl) rfl) rfl) rfl rfl) (ssw_cons (sw_set (i := 6) sc_law.nd rfl (.inl rfl) (.inl rfl) (pw_call (F 202 _ rfl) hr0 tk rfl X.g__law_two nb__law_two.1 (pw_cons (pw_tup (pw_cons (pw_v (i := 3) rfl (.inl rfl) nb__law_m.1 nb__law_m.2) (pw_cons (pw_tup pw_nil) (pw_cons (pw_v (i := 4) rfl (.inl rfl) nb__law_n.1 nb__law_n.2) pw_nil rfl) rfl) rfl)) (pw_cons (pw_tup (pw_cons (pw_v (i := 3) rfl (.inl rfl) nb__law_m.1 nb__law_m.2) (pw_cons (pw_tup pw_nil) (pw_cons (pw_op op_add4 oc_add (PEW.t (pw_op op_add4 oc_add (pt_v (i := 4) rfl (.inl rfl) nb__law_n.1 nb__law_n.2) (PEW.t (pw_op op_mul4 oc_mul (pt_v (i := 3) rfl (.inl rfl) nb__law_m.1 nb__law_m.2) (pt_v (i := 5) rfl (.inl rfl) nb__law_r.1 nb__law_r.2))))) (PEW.t pw_int)) pw_nil rfl) rfl) rfl)) (pw_cons (pw_tup (pw_cons (pw_str x31_ok) (pw_cons pw_int pw_nil rfl) rfl)) pw_nil rfl) rfl) rfl) rfl rfl) rfl) (ssw_cons (sw_setO (i := 7) sc_law.nd rfl (.inl rfl) (.inl rfl) (pf_lst (pw_cons (pw_tup (pw_cons (pw_str x52_ok) (pw_cons (pw_op op_add4 oc_add (pt_v (i := 3) rfl (.inl rfl) nb__law_m.1 nb__law_m.2) (PEW.t pw_int)) pw_nil rfl) rfl)) (pw_cons (pw_tup (pw_cons (pw_str x52_ok) (pw_cons pw_int pw_nil rfl) rfl)) (pw_cons (pw_tup (pw_cons (pw_str x52_ok) (pw_cons (pw_op op_sub oc_sub (PEW.t pw_int) (pt_v (i := 3) rfl (.inl rfl) nb__law_m.1 nb__law_m.2)) pw_nil rfl) rfl)) (pw_cons (pw_tup (pw_cons (pw_str x51_ok) pw_nil rfl)) (pw_cons (pw_tup (pw_cons (pw_str x49_ok) pw_nil rfl)) (pw_cons (pw_tup (pw_cons (pw_str x50_ok) (pw_cons pw_int (pw_cons (pw_tup pw_nil) pw_nil rfl) rfl) rfl)) (pw_cons (pw_tup pw_nil) pw_nil rfl) rfl) rfl) rfl) rfl) rfl) rfl)) rfl) (ssw_cons (sw_appO (i := 7) rfl (.inl rfl) nb__law_bad.1 nb__law_bad.2 (pw_tup (pw_cons (pw_str x50_ok) (pw_cons pw_int (pw_cons (pw_tup (pw_cons (pw_tup (pw_cons (pw_str x52_ok) (pw_cons (pw_v (i := 3) rfl (.inl rfl) nb__law_m.1 nb__law_m.2) pw_nil rfl) rfl)) pw_nil rfl)) pw_nil rfl) rfl) rfl)) rfl rfl rfl rfl rfl rfl) (ssw_fz (i := 7) (ssw_cons (sw_if (ptw_not (ptw_val (PEW.t (pw_call (F 203 _ rfl) hr0 tk rfl X.g__law_tries nb__law_tries.1 (pw_cons (pw_v (i := 6) rfl (.inl rfl) nb__law_program.1 nb__law_program.2) (pw_cons (PEF.w (pf_lst (pw_cons (pw_tup (pw_cons (pw_str x52_ok) (pw_cons (pw_v (i := 3) rfl (.inl rfl) nb__law_m.1 nb__law_m.2) pw_nil rfl) rfl)) pw_nil rfl))) (pw_cons (pw_v (i := 7) rfl (.inl rfl) nb__law_bad.1 nb__law_bad.2) pw_nil rfl) rfl) rfl) rfl rfl)) (fun _ => rfl))) (ssw_one (sw_ret pw_bl)) ssw_nil) (ssw_cons (sw_set (i := 6) sc_law.nd rfl (.inl rfl) (.inl rfl) (pw_call (F 202 _ rfl) hr0 tk rfl X.g__law_two nb__law_two.1 (pw_cons (pw_tup (pw_cons (pw_v (i := 3) rfl (.inl rfl) nb__law_m.1 nb__law_m.2) (pw_cons (pw_tup pw_nil) (pw_cons (pw_v (i := 4) rfl (.inl rfl) nb__law_n.1 nb__law_n.2) pw_nil rfl) rfl) rfl)) (pw_cons (pw_tup (pw_cons (pw_op op_sub oc_sub (PEW.t pw_int) (pt_v (i := 3) rfl (.inl rfl) nb__law_m.1 nb__law_m.2)) (pw_cons (pw_tup pw_nil) (pw_cons (pw_op op_sub oc_sub (pt_v (i := 4) rfl (.inl rfl) nb__law_n.1 nb__law_n.2) (pt_v (i := 5) rfl (.inl rfl) nb__law_r.1 nb__law_r.2)) pw_nil rfl) rfl) rfl)) (pw_cons (pw_tup (pw_cons (pw_str x31_ok) (pw_cons pw_int pw_nil rfl) rfl)) pw_nil rfl) rfl) rfl) rfl rfl) rfl) (ssw_cons (sw_set (i := 8) sc_law.nd rfl (.inl rfl) (.inl rfl) (PEF.w (pf_lst (pw_cons (pw_tup (pw_cons (pw_str x51_ok) pw_nil rfl)) pw_nil rfl))) rfl) (ssw_cons (sw_if (ptw_not (ptw_val (PEW.t (pw_call (F 203 _ rfl) hr0 tk rfl X.g__law_tries nb__law_tries.1 (pw_cons (pw_v (i := 6) rfl (.inl rfl) nb__law_program.1 nb__law_program.2) (pw_cons (pw_v (i := 8) rfl (.inl rfl) nb__law_good.1 nb__law_good.2) (pw_cons (PEF.w (pf_lst (pw_cons (pw_tup (pw_cons (pw_str x52_ok) (pw_cons (pw_op op_mul4 oc_mul (PEW.t pw_int) (pt_v (i := 3) rfl (.inl rfl) nb__law_m.1 nb__law_m.2)) pw_nil rfl) rfl)) (pw_cons (pw_tup (pw_cons (pw_str x49_ok) pw_nil rfl)) (pw_cons (pw_tup (pw_cons (pw_str x50_ok) (pw_cons pw_int (pw_cons (pw_tup (pw_cons (pw_tup (pw_cons (pw_str x51_ok) pw_nil rfl)) pw_nil rfl)) pw_nil rfl) rfl) rfl)) (pw_cons (pw_tup (pw_cons (pw_str x50_ok) (pw_cons pw_int (pw_cons (pw_tup pw_nil) pw_nil rfl) rfl) rfl)) pw_nil rfl) rfl) rfl) rfl))) pw_nil rfl) rfl) rfl) rfl rfl)) (fun _ => rfl))) (ssw_one (sw_ret pw_bl)) ssw_nil) (ssw_cons (sw_set (i := 9) sc_law.nd rfl (.inl rfl) (.inl rfl) (pw_op op_add4 oc_add (PEW.t pw_int) (PEW.t (pw_call (F 201 _ rfl) hr0 tk rfl X.g__law_drawn nb__law_drawn.1 (pw_cons (pw_v (i := 1) rfl (.inl rfl) nb__law_state.1 nb__law_state.2) (pw_cons pw_int pw_nil rfl) rfl) rfl rfl))) rfl) (ssw_cons (sw_set (i := 6) sc_law.nd rfl (.inl rfl) (.inl rfl) (pw_call (F 202 _ rfl) hr0 tk rfl X.g__law_two nb__law_two.1 (pw_cons (pw_tup (pw_cons pw_int (pw_cons (pw_tup pw_nil) (pw_cons (pw_v (i := 4) rfl (.inl rfl) nb__law_n.1 nb__law_n.2) pw_nil rfl) rfl) rfl)) (pw_cons (pw_tup (pw_cons pw_int (pw_cons (pw_tup pw_nil) (pw_cons (pw_v (i := 4) rfl (.inl rfl) nb__law_n.1 nb__law_n.2) pw_nil rfl) rfl) rfl)) (pw_cons (pw_tup (pw_cons (pw_str x30_ok) (pw_cons (pw_v (i := 9) rfl (.inl rfl) nb__law_k.1 nb__law_k.2) pw_nil rfl) rfl)) pw_nil rfl) rfl) rfl) rfl rfl) rfl) (ssw_cons (sw_set (i := 8) sc_law.nd rfl (.inl rfl) (.inl rfl) (PEF.w (pf_lst (pw_cons (pw_tup (pw_cons (pw_str x49_ok) pw_nil rfl)) (pw_cons (pw_tup (pw_cons (pw_str x50_ok) (pw_cons pw_int (pw_cons (pw_op op_add4 oc_add (PEW.t (pw_op op_mul4 oc_mul (PEW.t (pw_tup (pw_cons (pw_tup (pw_cons (pw_str x51_ok) pw_nil rfl)) pw_nil rfl))) (pt_v (i := 9) rfl (.inl rfl) nb__law_k.1 nb__law_k.2))) (PEW.t (pw_tup (pw_cons (pw_tup (pw_cons (pw_str x49_ok) pw_nil rfl)) pw_nil rfl)))) pw_nil rfl) rfl) rfl)) pw_nil rfl) rfl))) rfl) (ssw_cons (sw_setO (i := 7) sc_law.nd rfl (.inl rfl) (.inl rfl) (pf_lst (pw_cons (pw_tup (pw_cons (pw_str x51_ok) pw_nil rfl)) (pw_cons (pw_tup (pw_cons (pw_str x52_ok) (pw_cons pw_int pw_nil rfl) rfl)) (pw_cons (pw_tup (pw_cons (pw_str x50_ok) (pw_cons pw_int (pw_cons (pw_op op_mul4 oc_mul (PEW.t (pw_tup (pw_cons (pw_tup (pw_cons (pw_str x51_ok) pw_nil rfl)) pw_nil rfl))) (pt_v (i := 9) rfl (.inl rfl) nb__law_k.1 nb__law_k.2)) pw_nil rfl) rfl) rfl)) (pw_cons (pw_tup (pw_cons (pw_str x50_ok) (pw_cons pw_int (pw_cons (pw_op op_mul4 oc_mul (PEW.t (pw_tup (pw_cons (pw_tup (pw_cons (pw_str x51_ok) pw_nil rfl)) pw_nil rfl))) (PEW.t (pw_op op_add4 oc_add (pt_v (i := 9) rfl (.inl rfl) nb__law_k.1 nb__law_k.2) (PEW.t pw_int)))) pw_nil rfl) rfl) rfl)) pw_nil rfl) rfl) rfl) rfl)) rfl) (ssw_cons (sw_appO (i := 7) rfl (.inl rfl) nb__law_bad.1 nb__law_bad.2 (pw_tup (pw_cons (pw_str x50_ok) (pw_cons pw_int (pw_cons (pw_tup (pw_cons (pw_tup (pw_cons (pw_str x49_ok) pw_nil rfl)) pw_nil rfl)) pw_nil rfl) rfl) rfl)) rfl rfl rfl rfl rfl rfl) (ssw_fz (i := 7) (ssw_cons (sw_if (ptw_not (ptw_val (PEW.t (pw_call (F 203 _ rfl) hr0 tk rfl X.g__law_tries nb__law_tries.1 (pw_cons (pw_v (i := 6) rfl (.inl rfl) nb__law_program.1 nb__law_program.2) (pw_cons (pw_v (i := 8) rfl (.inl rfl) nb__law_good.1 nb__law_good.2) (pw_cons (pw_v (i := 7) rfl (.inl rfl) nb__law_bad.1 nb__law_bad.2) pw_nil rfl) rfl) rfl) rfl rfl)) (fun _ => rfl))) (ssw_one (sw_ret pw_bl)) ssw_nil) (ssw_cons (sw_set (i := 6) sc_law.nd rfl (.inl rfl) (.inl rfl) (pw_call (F 202 _ rfl) hr0 tk rfl X.g__law_two nb__law_two.1 (pw_cons (pw_tup (pw_cons pw_int (pw_cons (pw_tup pw_nil) (pw_cons (pw_v (i := 4) rfl (.inl rfl) nb__law_n.1 nb__law_n.2) pw_nil rfl) rfl) rfl)) (pw_cons (pw_tup (pw_cons pw_int (pw_cons (pw_tup pw_nil) (pw_cons (pw_op op_sub oc_sub (pt_v (i := 4) rfl (.inl rfl) nb__law_n.1 nb__law_n.2) (pt_v (i := 9) rfl (.inl rfl) nb__law_k.1 nb__law_k.2)) pw_nil rfl) rfl) rfl)) (pw_cons (pw_tup (pw_cons (pw_str x53_ok) (pw_cons (pw_v (i := 9) rfl (.inl rfl) nb__law_k.1 nb__law_k.2) pw_nil rfl) rfl)) pw_nil rfl) rfl) rfl) rfl rfl) rfl) (ssw_cons (sw_if (PWW.t (ptw_or (ptw_cmp (op_neD h64) oc_ne (PEW.t (pw_call (F 90 _ rfl) hr0 tk rfl X.g_checked nb_checked.1 (pw_cons (pw_v (i := 6) rfl (.inl rfl) nb__law_program.1 nb__law_program.2) (pw_cons (pw_tup (pw_cons (pw_tup (pw_cons (pw_str x49_ok) pw_nil rfl)) (pw_cons (pw_tup (pw_cons (pw_str x51_ok) pw_nil rfl)) pw_nil rfl) rfl)) pw_nil rfl) rfl) rfl rfl)) (PEW.t pw_int) rfl) (ptw_or1 (ptw_cmp (op_neD h64) oc_ne (PEW.t (pw_call (F 90 _ rfl) hr0 tk rfl X.g_checked nb_checked.1 (pw_cons (pw_v (i := 6) rfl (.inl rfl) nb__law_program.1 nb__law_program.2) (pw_cons (pw_tup pw_nil) pw_nil rfl) rfl) rfl rfl)) (PEW.t pw_int) rfl)))) (ssw_one (sw_ret pw_bl)) ssw_nil) (ssw_cons (sw_set (i := 6) sc_law.nd rfl (.inl rfl) (.inl rfl) (pw_tup (pw_cons (pw_tup (pw_cons (pw_str x46_ok) (pw_cons (pw_tup (pw_cons (pw_str x30_ok) (pw_cons (pw_v (i := 9) rfl (.inl rfl) nb__law_k.1 nb__law_k.2) pw_nil rfl) rfl)) (pw_cons (pw_tup (pw_cons (pw_tup (pw_cons (pw_str x45_ok) (pw_cons pw_int (pw_cons (pw_tup (pw_cons pw_int (pw_cons (pw_tup pw_nil) (pw_cons (pw_v (i := 4) rfl (.inl rfl) nb__law_n.1 nb__law_n.2) pw_nil rfl) rfl) rfl)) (pw_cons (pw_tup (pw_cons (pw_str x13_ok) pw_nil rfl)) pw_nil rfl) rfl) rfl) rfl)) pw_nil rfl)) (pw_cons (pw_tup (pw_cons (pw_tup (pw_cons (pw_str x47_ok) (pw_cons (pw_str x48_ok) (pw_cons pw_int (pw_cons (pw_tup (pw_cons pw_int (pw_cons (pw_tup pw_nil) (pw_cons (pw_op op_add4 oc_add (pt_v (i := 4) rfl (.inl rfl) nb__law_n.1 nb__law_n.2) (PEW.t pw_int)) pw_nil rfl) rfl) rfl)) pw_nil rfl) rfl) rfl) rfl)) pw_nil rfl)) pw_nil rfl) rfl) rfl) rfl)) pw_nil rfl)) rfl) (ssw_cons (sw_if (ptw_notN (PEW.t (pw_call (F 90 _ rfl) hr0 tk rfl X.g_checked nb_checked.1 (pw_cons (pw_v (i := 6) rfl (.inl rfl) nb__law_program.1 nb__law_program.2) (pw_cons (pw_tup (pw_cons (pw_tup (pw_cons (pw_str x49_ok) pw_nil rfl)) (pw_cons (pw_tup (pw_cons (pw_str x52_ok) (pw_cons pw_int pw_nil rfl) rfl)) (pw_cons (pw_tup (pw_cons (pw_str x52_ok) (pw_cons pw_int pw_nil rfl) rfl)) pw_nil rfl) rfl) rfl)) pw_nil rfl) rfl) rfl rfl))) (ssw_one (sw_ret pw_bl)) ssw_nil) (ssw_cons (sw_if (ptw_cmp (op_neD h64) oc_ne (PEW.t (pw_call (F 90 _ rfl) hr0 tk rfl X.g_checked nb_checked.1 (pw_cons (pw_v (i := 6) rfl (.inl rfl) nb__law_program.1 nb__law_program.2) (pw_cons (pw_tup (pw_cons (pw_tup (pw_cons (pw_str x49_ok) pw_nil rfl)) (pw_cons (pw_tup (pw_cons (pw_str x52_ok) (pw_cons pw_int pw_nil rfl) rfl)) (pw_cons (pw_tup (pw_cons (pw_str x52_ok) (pw_cons pw_int pw_nil rfl) rfl)) pw_nil rfl) rfl) rfl)) pw_nil rfl) rfl) rfl rfl)) (PEW.t pw_int) rfl) (ssw_one (sw_ret pw_bl)) ssw_nil) (ssw_one (sw_if (ptw_cmp (op_neD h64) oc_ne (PEW.t (pw_call (F 90 _ rfl) hr0 tk rfl X.g_checked nb_checked.1 (pw_cons (pw_v (i := 6) rfl (.inl rfl) nb__law_program.1 nb__law_program.2) (pw_cons (pw_tup (pw_cons (pw_tup (pw_cons (pw_str x51_ok) pw_nil rfl)) (pw_cons (pw_tup (pw_cons (pw_str x52_ok) (pw_cons pw_int pw_nil rfl) rfl)) (pw_cons (pw_tup (pw_cons (pw_str x52_ok) (pw_cons pw_int pw_nil rfl) rfl)) pw_nil rfl) rfl) rfl)) pw_nil rfl) rfl) rfl rfl)) (PEW.t pw_int) rfl) (ssw_one (sw_ret pw_bl)) ssw_nil)))))))))))))))))))))))) (fun _ => rfl)) (ssw_one (sw_ret pw_bl))))
end
end MP
end

section
set_option Elab.async false
set_option linter.all false
set_option maxRecDepth 100000
set_option maxHeartbeats 0
set_option autoImplicit false
/-! the head: printed by gen.py -/
namespace MP
open PySem PySem.Spec PyProof.Rows L2
def D_Sight___init__ : He.DefD := ⟨("Sight", some "__init__"), "__init__", "Sight.__init__", defArgs (inClass (top 10) 0), defBody (inClass (top 10) 0), defScope (inClass (top 10) 0), [], []⟩
def D_Sight_left : He.DefD := ⟨("Sight", some "left"), "left", "Sight.left", defArgs (inClass (top 10) 1), defBody (inClass (top 10) 1), defScope (inClass (top 10) 1), [], []⟩
def D_Sight_open_ones : He.DefD := ⟨("Sight", some "open_ones"), "open_ones", "Sight.open_ones", defArgs (inClass (top 10) 2), defBody (inClass (top 10) 2), defScope (inClass (top 10) 2), [], []⟩
def D_Sight_ends : He.DefD := ⟨("Sight", some "ends"), "ends", "Sight.ends", defArgs (inClass (top 10) 3), defBody (inClass (top 10) 3), defScope (inClass (top 10) 3), [], []⟩
def D_Sight_least : He.DefD := ⟨("Sight", some "least"), "least", "Sight.least", defArgs (inClass (top 10) 4), defBody (inClass (top 10) 4), defScope (inClass (top 10) 4), [], []⟩
def D_Sight_most : He.DefD := ⟨("Sight", some "most"), "most", "Sight.most", defArgs (inClass (top 10) 5), defBody (inClass (top 10) 5), defScope (inClass (top 10) 5), [], []⟩
def D_Sight_is_far : He.DefD := ⟨("Sight", some "is_far"), "is_far", "Sight.is_far", defArgs (inClass (top 10) 6), defBody (inClass (top 10) 6), defScope (inClass (top 10) 6), [], []⟩
def D_Sight_is_mod : He.DefD := ⟨("Sight", some "is_mod"), "is_mod", "Sight.is_mod", defArgs (inClass (top 10) 7), defBody (inClass (top 10) 7), defScope (inClass (top 10) 7), [], []⟩
def D_Sight_lane : He.DefD := ⟨("Sight", some "lane"), "lane", "Sight.lane", defArgs (inClass (top 10) 8), defBody (inClass (top 10) 8), defScope (inClass (top 10) 8), [], []⟩
def D_Sight_is_same : He.DefD := ⟨("Sight", some "is_same"), "is_same", "Sight.is_same", defArgs (inClass (top 10) 9), defBody (inClass (top 10) 9), defScope (inClass (top 10) 9), [], []⟩
def D_Sight_worths : He.DefD := ⟨("Sight", some "worths"), "worths", "Sight.worths", defArgs (inClass (top 10) 10), defBody (inClass (top 10) 10), defScope (inClass (top 10) 10), [], []⟩
def D_shows : He.DefD := ⟨("shows", none), "shows", "shows", defArgs (top 11), defBody (top 11), defScope (top 11), [], []⟩
def D_is_whole : He.DefD := ⟨("is_whole", none), "is_whole", "is_whole", defArgs (top 33), defBody (top 33), defScope (top 33), [], []⟩
def D_is_name : He.DefD := ⟨("is_name", none), "is_name", "is_name", defArgs (top 34), defBody (top 34), defScope (top 34), [], []⟩
def D_blocks_of : He.DefD := ⟨("blocks_of", none), "blocks_of", "blocks_of", defArgs (top 35), defBody (top 35), defScope (top 35), [], []⟩
def D_is_place : He.DefD := ⟨("is_place", none), "is_place", "is_place", defArgs (top 36), defBody (top 36), defScope (top 36), [], []⟩
def D_is_test : He.DefD := ⟨("is_test", none), "is_test", "is_test", defArgs (top 37), defBody (top 37), defScope (top 37), [], []⟩
def D_is_worth : He.DefD := ⟨("is_worth", none), "is_worth", "is_worth", defArgs (top 38), defBody (top 38), defScope (top 38), [], []⟩
def D_Looker___init__ : He.DefD := ⟨("Looker", some "__init__"), "__init__", "Looker.__init__", defArgs (inClass (top 39) 0), defBody (inClass (top 39) 0), defScope (inClass (top 39) 0), [], []⟩
def D_Looker_need : He.DefD := ⟨("Looker", some "need"), "need", "Looker.need", defArgs (inClass (top 39) 1), defBody (inClass (top 39) 1), defScope (inClass (top 39) 1), [], []⟩
def D_Looker_head_fits : He.DefD := ⟨("Looker", some "head_fits"), "head_fits", "Looker.head_fits", defArgs (inClass (top 39) 2), defBody (inClass (top 39) 2), defScope (inClass (top 39) 2), [], []⟩
def D_Looker_block : He.DefD := ⟨("Looker", some "block"), "block", "Looker.block", defArgs (inClass (top 39) 3), defBody (inClass (top 39) 3), defScope (inClass (top 39) 3), [], []⟩
def D_touches_in : He.DefD := ⟨("touches_in", none), "touches_in", "touches_in", defArgs (top 40), defBody (top 40), defScope (top 40), [], []⟩
def D_need_program : He.DefD := ⟨("need_program", none), "need_program", "need_program", defArgs (top 41), defBody (top 41), defScope (top 41), [], []⟩
def D_numbered : He.DefD := ⟨("numbered", none), "numbered", "numbered", defArgs (top 42), defBody (top 42), defScope (top 42), [], []⟩
def D_as_row : He.DefD := ⟨("as_row", none), "as_row", "as_row", defArgs (top 45), defBody (top 45), defScope (top 45), [], []⟩
def D_from_on : He.DefD := ⟨("from_on", none), "from_on", "from_on", defArgs (top 46), defBody (top 46), defScope (top 46), [], []⟩
def D_up_to : He.DefD := ⟨("up_to", none), "up_to", "up_to", defArgs (top 47), defBody (top 47), defScope (top 47), [], []⟩
def D_left_by : He.DefD := ⟨("left_by", none), "left_by", "left_by", defArgs (top 48), defBody (top 48), defScope (top 48), [], []⟩
def D_split : He.DefD := ⟨("split", none), "split", "split", defArgs (top 49), defBody (top 49), defScope (top 49), [], []⟩
def D_risen : He.DefD := ⟨("risen", none), "risen", "risen", defArgs (top 50), defBody (top 50), defScope (top 50), [], []⟩
def D_Flat___init__ : He.DefD := ⟨("Flat", some "__init__"), "__init__", "Flat.__init__", defArgs (inClass (top 58) 0), defBody (inClass (top 58) 0), defScope (inClass (top 58) 0), [], []⟩
def D_Flat_block : He.DefD := ⟨("Flat", some "block"), "block", "Flat.block", defArgs (inClass (top 58) 1), defBody (inClass (top 58) 1), defScope (inClass (top 58) 1), [], []⟩
def D_Flat_deed : He.DefD := ⟨("Flat", some "deed"), "deed", "Flat.deed", defArgs (inClass (top 58) 2), defBody (inClass (top 58) 2), defScope (inClass (top 58) 2), [], []⟩
def D_Flat_form : He.DefD := ⟨("Flat", some "form"), "form", "Flat.form", defArgs (inClass (top 58) 3), defBody (inClass (top 58) 3), defScope (inClass (top 58) 3), [], []⟩
def D_is_fenced : He.DefD := ⟨("is_fenced", none), "is_fenced", "is_fenced", defArgs (top 59), defBody (top 59), defScope (top 59), [], []⟩
def D_items_of : He.DefD := ⟨("items_of", none), "items_of", "items_of", defArgs (top 60), defBody (top 60), defScope (top 60), [], []⟩
def D_parts_of : He.DefD := ⟨("parts_of", none), "parts_of", "parts_of", defArgs (top 61), defBody (top 61), defScope (top 61), [], []⟩
def D_once : He.DefD := ⟨("once", none), "once", "once", defArgs (top 62), defBody (top 62), defScope (top 62), [], []⟩
def D_still : He.DefD := ⟨("still", none), "still", "still", defArgs (top 63), defBody (top 63), defScope (top 63), [], []⟩
def D_within : He.DefD := ⟨("within", none), "within", "within", defArgs (top 64), defBody (top 64), defScope (top 64), [], []⟩
def D_Maker___init__ : He.DefD := ⟨("Maker", some "__init__"), "__init__", "Maker.__init__", defArgs (inClass (top 65) 0), defBody (inClass (top 65) 0), defScope (inClass (top 65) 0), [], []⟩
def D_Maker_put : He.DefD := ⟨("Maker", some "put"), "put", "Maker.put", defArgs (inClass (top 65) 1), defBody (inClass (top 65) 1), defScope (inClass (top 65) 1), [], []⟩
def D_Maker_shut : He.DefD := ⟨("Maker", some "shut"), "shut", "Maker.shut", defArgs (inClass (top 65) 2), defBody (inClass (top 65) 2), defScope (inClass (top 65) 2), [], []⟩
def D_Maker_fence : He.DefD := ⟨("Maker", some "fence"), "fence", "Maker.fence", defArgs (inClass (top 65) 3), defBody (inClass (top 65) 3), defScope (inClass (top 65) 3), [], []⟩
def D_Maker_with_word : He.DefD := ⟨("Maker", some "with_word"), "with_word", "Maker.with_word", defArgs (inClass (top 65) 4), defBody (inClass (top 65) 4), defScope (inClass (top 65) 4), [], []⟩
def D_Maker_turns : He.DefD := ⟨("Maker", some "turns"), "turns", "Maker.turns", defArgs (inClass (top 65) 5), defBody (inClass (top 65) 5), defScope (inClass (top 65) 5), [], []⟩
def D_Maker_item : He.DefD := ⟨("Maker", some "item"), "item", "Maker.item", defArgs (inClass (top 65) 6), defBody (inClass (top 65) 6), defScope (inClass (top 65) 6), [], []⟩
def D_spans_of : He.DefD := ⟨("spans_of", none), "spans_of", "spans_of", defArgs (top 66), defBody (top 66), defScope (top 66), [], []⟩
def D_pair : He.DefD := ⟨("pair", none), "pair", "pair", defArgs (top 67), defBody (top 67), defScope (top 67), [], []⟩
def D_pairs_of : He.DefD := ⟨("pairs_of", none), "pairs_of", "pairs_of", defArgs (top 68), defBody (top 68), defScope (top 68), [], []⟩
def D_sights_of : He.DefD := ⟨("sights_of", none), "sights_of", "sights_of", defArgs (top 70), defBody (top 70), defScope (top 70), [], []⟩
def D_rows_at : He.DefD := ⟨("rows_at", none), "rows_at", "rows_at", defArgs (top 71), defBody (top 71), defScope (top 71), [], []⟩
def D_all_sights : He.DefD := ⟨("all_sights", none), "all_sights", "all_sights", defArgs (top 72), defBody (top 72), defScope (top 72), [], []⟩
def D_checked : He.DefD := ⟨("checked", none), "checked", "checked", defArgs (top 73), defBody (top 73), defScope (top 73), [], []⟩
def D__law_start : He.DefD := ⟨("_law_start", none), "_law_start", "_law_start", defArgs (top 75), defBody (top 75), defScope (top 75), [], []⟩
def D__law_drawn : He.DefD := ⟨("_law_drawn", none), "_law_drawn", "_law_drawn", defArgs (top 76), defBody (top 76), defScope (top 76), [], []⟩
def D__law_two : He.DefD := ⟨("_law_two", none), "_law_two", "_law_two", defArgs (top 77), defBody (top 77), defScope (top 77), [], []⟩
def D__law_tries : He.DefD := ⟨("_law_tries", none), "_law_tries", "_law_tries", defArgs (top 78), defBody (top 78), defScope (top 78), [], []⟩
def D__law_settled : He.DefD := ⟨("_law_settled", none), "_law_settled", "_law_settled", defArgs (top 79), defBody (top 79), defScope (top 79), [], []⟩
def D_law : He.DefD := ⟨("law", none), "law", "law", defArgs (top 80), defBody (top 80), defScope (top 80), [], []⟩
def hfn_0 : List He.DefD := [D_Sight___init__, D_Sight_left, D_Sight_open_ones, D_Sight_ends, D_Sight_least, D_Sight_most, D_Sight_is_far, D_Sight_is_mod, D_Sight_lane, D_Sight_is_same, D_Sight_worths, D_shows, D_is_whole, D_is_name, D_blocks_of, D_is_place, D_is_test, D_is_worth, D_Looker___init__, D_Looker_need, D_Looker_head_fits, D_Looker_block, D_touches_in, D_need_program, D_numbered, D_as_row, D_from_on, D_up_to, D_left_by, D_split]
def hfn_1 : List He.DefD := [D_risen, D_Flat___init__, D_Flat_block, D_Flat_deed, D_Flat_form, D_is_fenced, D_items_of, D_parts_of, D_once, D_still, D_within, D_Maker___init__, D_Maker_put, D_Maker_shut, D_Maker_fence, D_Maker_with_word, D_Maker_turns, D_Maker_item, D_spans_of, D_pair, D_pairs_of, D_sights_of, D_rows_at, D_all_sights, D_checked, D__law_start, D__law_drawn, D__law_two, D__law_tries, D__law_settled]
def hfn_2 : List He.DefD := [D_law]
def hfn : List He.DefD := hfn_0 ++ hfn_1 ++ hfn_2
def hfa_0 : List He.Fa := [.free "all", .free "any", .free "bool", .free "dict", .free "enumerate", .free "int", .free "isinstance", .free "len", .free "list", .free "max", .free "min", .free "range", .free "sorted", .free "str", .free "sum", .free "tuple", .free "zip", .glo "shows", .glo "is_whole", .glo "is_name", .glo "blocks_of", .glo "is_place", .glo "is_test", .glo "is_worth", .glo "touches_in", .glo "need_program", .glo "numbered", .glo "as_row", .glo "from_on", .glo "up_to"]
def hfa_1 : List He.Fa := [.glo "left_by", .glo "split", .glo "risen", .glo "is_fenced", .glo "items_of", .glo "parts_of", .glo "once", .glo "still", .glo "within", .glo "spans_of", .glo "pair", .glo "pairs_of", .glo "sights_of", .glo "rows_at", .glo "all_sights", .glo "checked", .glo "_law_start", .glo "_law_drawn", .glo "_law_two", .glo "_law_tries", .glo "_law_settled", .glo "law", .cls "Sight", .glo "Sight", .mkr "Sight", .meth "Sight" "left", .meth "Sight" "open_ones", .meth "Sight" "ends", .meth "Sight" "least", .meth "Sight" "most"]
def hfa_2 : List He.Fa := [.meth "Sight" "is_far", .meth "Sight" "is_mod", .meth "Sight" "lane", .meth "Sight" "is_same", .meth "Sight" "worths", .cls "Looker", .glo "Looker", .mkr "Looker", .meth "Looker" "need", .meth "Looker" "head_fits", .meth "Looker" "block", .cls "Flat", .glo "Flat", .mkr "Flat", .meth "Flat" "block", .meth "Flat" "deed", .meth "Flat" "form", .cls "Maker", .glo "Maker", .mkr "Maker", .meth "Maker" "put", .meth "Maker" "shut", .meth "Maker" "fence", .meth "Maker" "with_word", .meth "Maker" "turns", .meth "Maker" "item", .noat "Flat" "rows", .noat "Flat" "turn", .noat "Looker" "inputs", .noat "Looker" "met"]
def hfa_3 : List He.Fa := [.noat "Maker" "found", .noat "Maker" "now", .noat "Maker" "words", .noat "Sight" "bounds", .noat "Sight" "known", .noat "Sight" "mine", .noat "Sight" "one", .noat "Sight" "other", .noat "Sight" "times", .noat "Sight" "total", .noat "Sight" "yours", .glo "SIZES"]
def hfa : List He.Fa := hfa_0 ++ hfa_1 ++ hfa_2 ++ hfa_3
def hts : List He.Tab := [(fun K => He.ga K "SIZES", t_SIZES.map fun p => toS p.1)]
def exl : List (Str × W) := [("UNKNOWNS", k_UNKNOWNS), ("CASES", k_CASES), ("MOD", k_MOD), ("SAME", k_SAME), ("FAR", k_FAR), ("LETTERS", k_LETTERS), ("MOST_NAME", k_MOST_NAME), ("LOOP", k_LOOP), ("TURNS", k_TURNS), ("IF", k_IF), ("MOST_TIMES", k_MOST_TIMES), ("MOST_NUMBER", k_MOST_NUMBER), ("TESTS", k_TESTS), ("REST", k_REST), ("MOST_WORTHS", k_MOST_WORTHS), ("MOST_COUNT", k_MOST_COUNT), ("SET", k_SET), ("READ", k_READ), ("WRITE", k_WRITE), ("MOST_ARRAY", k_MOST_ARRAY), ("FENCE", k_FENCE), ("MOST_WITHIN", k_MOST_WITHIN), ("MOST_DEEDS", k_MOST_DEEDS), ("MOST_TOUCHES", k_MOST_TOUCHES), ("ALL", k_ALL), ("LAST", k_LAST), ("NEXT", k_NEXT), ("THIS", k_THIS), ("FREE", k_FREE), ("SOME", k_SOME), ("NONE", k_NONE)]
def ext : List (Str × List (Nm × W)) := [("SIZES", t_SIZES)]
def hex (K : PySem.W.Frag) : Bool := (exl.all fun p => gB K p.1 p.2) && (ext.all fun p => tB K (He.ga K p.1) p.2)
def loose_0 : List Str := ["LaneError", "BadProgram", "BadPaper", "UNKNOWNS", "MOD", "FAR", "SAME", "CASES", "Sight", "shows", "READ", "WRITE", "SET", "FENCE", "LOOP", "TURNS", "IF", "SIZES", "TESTS", "REST", "LETTERS", "MOST_NAME", "MOST_ARRAY", "MOST_TIMES", "MOST_NUMBER", "MOST_COUNT", "MOST_DEEDS", "MOST_WITHIN", "MOST_WORTHS", "MOST_TOUCHES"]
def loose_1 : List Str := ["is_whole", "is_name", "blocks_of", "is_place", "is_test", "is_worth", "Looker", "touches_in", "need_program", "numbered", "ALL", "as_row", "from_on", "up_to", "left_by", "split", "risen", "NONE", "SOME", "FREE", "THIS", "NEXT", "LAST", "Flat", "is_fenced", "items_of", "parts_of", "once", "still", "within"]
def loose_2 : List Str := ["Maker", "spans_of", "pair", "pairs_of", "sights_of", "rows_at", "all_sights", "checked", "_law_start", "_law_drawn", "_law_two", "_law_tries", "_law_settled"]
def loose : List Str := loose_0 ++ loose_1 ++ loose_2
abbrev R0 : PySem.W.OpenRow := PySem.W.OpenLaw.row PySem.Challenge.rw_lanemeet_k17_reasons_by_hand
abbrev hk : PySem.W.Hook := He.hookX 4 hfa hfn hts [] hex
def ob (s : PySem.W.SharedT) : He.AlX := He.obsX 4 hfa hfn hts [] hex (HandSHeadRun.getT s)
theorem ob_eq (s : PySem.W.SharedT) : ob s = hk.obs s.abs := He.obsX_eq (HandSHeadRun.getT_eq s)
theorem run_f (w : World) : HandSHeadRun.RunEq R0 (PySem.W.view R0.prog [80]) hk ob 9000 loose (w.withFollow "special-get-raises" false) := by
  intro os
  kernel_rfl
theorem run_t (w : World) : HandSHeadRun.RunEq R0 (PySem.W.view R0.prog [80]) hk ob 9000 loose (w.withFollow "special-get-raises" true) := by
  intro os
  kernel_rfl
theorem run (w : World) : HandSHeadRun.RunEq R0 (PySem.W.view R0.prog [80]) hk ob 9000 loose w := PySem.W.byRow2 "special-get-raises" run_f run_t w
abbrev Says (w : World) (h : Heap) (K : PySem.W.Frag) : Prop := He.SaysX hfa hfn hts [] hex w h K
structure Fus (K : PySem.W.Frag) : Prop where
  u_Sight___init__ : ∃ fd, FunD K "__init__" "Sight.__init__" (defArgs (inClass (top 10) 0)) (defBody (inClass (top 10) 0)) (defScope (inClass (top 10) 0)) [] [] (adr K 32) fd
  u_Sight_left : ∃ fd, FunD K "left" "Sight.left" (defArgs (inClass (top 10) 1)) (defBody (inClass (top 10) 1)) (defScope (inClass (top 10) 1)) [] [] (adr K 33) fd
  u_Sight_open_ones : ∃ fd, FunD K "open_ones" "Sight.open_ones" (defArgs (inClass (top 10) 2)) (defBody (inClass (top 10) 2)) (defScope (inClass (top 10) 2)) [] [] (adr K 34) fd
  u_Sight_ends : ∃ fd, FunD K "ends" "Sight.ends" (defArgs (inClass (top 10) 3)) (defBody (inClass (top 10) 3)) (defScope (inClass (top 10) 3)) [] [] (adr K 35) fd
  u_Sight_least : ∃ fd, FunD K "least" "Sight.least" (defArgs (inClass (top 10) 4)) (defBody (inClass (top 10) 4)) (defScope (inClass (top 10) 4)) [] [] (adr K 36) fd
  u_Sight_most : ∃ fd, FunD K "most" "Sight.most" (defArgs (inClass (top 10) 5)) (defBody (inClass (top 10) 5)) (defScope (inClass (top 10) 5)) [] [] (adr K 37) fd
  u_Sight_is_far : ∃ fd, FunD K "is_far" "Sight.is_far" (defArgs (inClass (top 10) 6)) (defBody (inClass (top 10) 6)) (defScope (inClass (top 10) 6)) [] [] (adr K 38) fd
  u_Sight_is_mod : ∃ fd, FunD K "is_mod" "Sight.is_mod" (defArgs (inClass (top 10) 7)) (defBody (inClass (top 10) 7)) (defScope (inClass (top 10) 7)) [] [] (adr K 39) fd
  u_Sight_lane : ∃ fd, FunD K "lane" "Sight.lane" (defArgs (inClass (top 10) 8)) (defBody (inClass (top 10) 8)) (defScope (inClass (top 10) 8)) [] [] (adr K 40) fd
  u_Sight_is_same : ∃ fd, FunD K "is_same" "Sight.is_same" (defArgs (inClass (top 10) 9)) (defBody (inClass (top 10) 9)) (defScope (inClass (top 10) 9)) [] [] (adr K 41) fd
  u_Sight_worths : ∃ fd, FunD K "worths" "Sight.worths" (defArgs (inClass (top 10) 10)) (defBody (inClass (top 10) 10)) (defScope (inClass (top 10) 10)) [] [] (adr K 42) fd
  u_shows : ∃ fd, FunD K "shows" "shows" (defArgs (top 11)) (defBody (top 11)) (defScope (top 11)) [] [] (adr K 88) fd
  u_is_whole : ∃ fd, FunD K "is_whole" "is_whole" (defArgs (top 33)) (defBody (top 33)) (defScope (top 33)) [] [] (adr K 1) fd
  u_is_name : ∃ fd, FunD K "is_name" "is_name" (defArgs (top 34)) (defBody (top 34)) (defScope (top 34)) [] [] (adr K 2) fd
  u_blocks_of : ∃ fd, FunD K "blocks_of" "blocks_of" (defArgs (top 35)) (defBody (top 35)) (defScope (top 35)) [] [] (adr K 3) fd
  u_is_place : ∃ fd, FunD K "is_place" "is_place" (defArgs (top 36)) (defBody (top 36)) (defScope (top 36)) [] [] (adr K 4) fd
  u_is_test : ∃ fd, FunD K "is_test" "is_test" (defArgs (top 37)) (defBody (top 37)) (defScope (top 37)) [] [] (adr K 5) fd
  u_is_worth : ∃ fd, FunD K "is_worth" "is_worth" (defArgs (top 38)) (defBody (top 38)) (defScope (top 38)) [] [] (adr K 6) fd
  u_Looker___init__ : ∃ fd, FunD K "__init__" "Looker.__init__" (defArgs (inClass (top 39) 0)) (defBody (inClass (top 39) 0)) (defScope (inClass (top 39) 0)) [] [] (adr K 7) fd
  u_Looker_need : ∃ fd, FunD K "need" "Looker.need" (defArgs (inClass (top 39) 1)) (defBody (inClass (top 39) 1)) (defScope (inClass (top 39) 1)) [] [] (adr K 8) fd
  u_Looker_head_fits : ∃ fd, FunD K "head_fits" "Looker.head_fits" (defArgs (inClass (top 39) 2)) (defBody (inClass (top 39) 2)) (defScope (inClass (top 39) 2)) [] [] (adr K 9) fd
  u_Looker_block : ∃ fd, FunD K "block" "Looker.block" (defArgs (inClass (top 39) 3)) (defBody (inClass (top 39) 3)) (defScope (inClass (top 39) 3)) [] [] (adr K 10) fd
  u_touches_in : ∃ fd, FunD K "touches_in" "touches_in" (defArgs (top 40)) (defBody (top 40)) (defScope (top 40)) [] [] (adr K 11) fd
  u_need_program : ∃ fd, FunD K "need_program" "need_program" (defArgs (top 41)) (defBody (top 41)) (defScope (top 41)) [] [] (adr K 12) fd
  u_numbered : ∃ fd, FunD K "numbered" "numbered" (defArgs (top 42)) (defBody (top 42)) (defScope (top 42)) [] [] (adr K 13) fd
  u_as_row : ∃ fd, FunD K "as_row" "as_row" (defArgs (top 45)) (defBody (top 45)) (defScope (top 45)) [] [] (adr K 45) fd
  u_from_on : ∃ fd, FunD K "from_on" "from_on" (defArgs (top 46)) (defBody (top 46)) (defScope (top 46)) [] [] (adr K 46) fd
  u_up_to : ∃ fd, FunD K "up_to" "up_to" (defArgs (top 47)) (defBody (top 47)) (defScope (top 47)) [] [] (adr K 47) fd
  u_left_by : ∃ fd, FunD K "left_by" "left_by" (defArgs (top 48)) (defBody (top 48)) (defScope (top 48)) [] [] (adr K 48) fd
  u_split : ∃ fd, FunD K "split" "split" (defArgs (top 49)) (defBody (top 49)) (defScope (top 49)) [] [] (adr K 49) fd
  u_risen : ∃ fd, FunD K "risen" "risen" (defArgs (top 50)) (defBody (top 50)) (defScope (top 50)) [] [] (adr K 50) fd
  u_Flat___init__ : ∃ fd, FunD K "__init__" "Flat.__init__" (defArgs (inClass (top 58) 0)) (defBody (inClass (top 58) 0)) (defScope (inClass (top 58) 0)) [] [] (adr K 52) fd
  u_Flat_block : ∃ fd, FunD K "block" "Flat.block" (defArgs (inClass (top 58) 1)) (defBody (inClass (top 58) 1)) (defScope (inClass (top 58) 1)) [] [] (adr K 53) fd
  u_Flat_deed : ∃ fd, FunD K "deed" "Flat.deed" (defArgs (inClass (top 58) 2)) (defBody (inClass (top 58) 2)) (defScope (inClass (top 58) 2)) [] [] (adr K 54) fd
  u_Flat_form : ∃ fd, FunD K "form" "Flat.form" (defArgs (inClass (top 58) 3)) (defBody (inClass (top 58) 3)) (defScope (inClass (top 58) 3)) [] [] (adr K 55) fd
  u_is_fenced : ∃ fd, FunD K "is_fenced" "is_fenced" (defArgs (top 59)) (defBody (top 59)) (defScope (top 59)) [] [] (adr K 56) fd
  u_items_of : ∃ fd, FunD K "items_of" "items_of" (defArgs (top 60)) (defBody (top 60)) (defScope (top 60)) [] [] (adr K 57) fd
  u_parts_of : ∃ fd, FunD K "parts_of" "parts_of" (defArgs (top 61)) (defBody (top 61)) (defScope (top 61)) [] [] (adr K 58) fd
  u_once : ∃ fd, FunD K "once" "once" (defArgs (top 62)) (defBody (top 62)) (defScope (top 62)) [] [] (adr K 59) fd
  u_still : ∃ fd, FunD K "still" "still" (defArgs (top 63)) (defBody (top 63)) (defScope (top 63)) [] [] (adr K 60) fd
  u_within : ∃ fd, FunD K "within" "within" (defArgs (top 64)) (defBody (top 64)) (defScope (top 64)) [] [] (adr K 61) fd
  u_Maker___init__ : ∃ fd, FunD K "__init__" "Maker.__init__" (defArgs (inClass (top 65) 0)) (defBody (inClass (top 65) 0)) (defScope (inClass (top 65) 0)) [] [] (adr K 62) fd
  u_Maker_put : ∃ fd, FunD K "put" "Maker.put" (defArgs (inClass (top 65) 1)) (defBody (inClass (top 65) 1)) (defScope (inClass (top 65) 1)) [] [] (adr K 63) fd
  u_Maker_shut : ∃ fd, FunD K "shut" "Maker.shut" (defArgs (inClass (top 65) 2)) (defBody (inClass (top 65) 2)) (defScope (inClass (top 65) 2)) [] [] (adr K 64) fd
  u_Maker_fence : ∃ fd, FunD K "fence" "Maker.fence" (defArgs (inClass (top 65) 3)) (defBody (inClass (top 65) 3)) (defScope (inClass (top 65) 3)) [] [] (adr K 65) fd
  u_Maker_with_word : ∃ fd, FunD K "with_word" "Maker.with_word" (defArgs (inClass (top 65) 4)) (defBody (inClass (top 65) 4)) (defScope (inClass (top 65) 4)) [] [] (adr K 66) fd
  u_Maker_turns : ∃ fd, FunD K "turns" "Maker.turns" (defArgs (inClass (top 65) 5)) (defBody (inClass (top 65) 5)) (defScope (inClass (top 65) 5)) [] [] (adr K 67) fd
  u_Maker_item : ∃ fd, FunD K "item" "Maker.item" (defArgs (inClass (top 65) 6)) (defBody (inClass (top 65) 6)) (defScope (inClass (top 65) 6)) [] [] (adr K 68) fd
  u_spans_of : ∃ fd, FunD K "spans_of" "spans_of" (defArgs (top 66)) (defBody (top 66)) (defScope (top 66)) [] [] (adr K 69) fd
  u_pair : ∃ fd, FunD K "pair" "pair" (defArgs (top 67)) (defBody (top 67)) (defScope (top 67)) [] [] (adr K 70) fd
  u_pairs_of : ∃ fd, FunD K "pairs_of" "pairs_of" (defArgs (top 68)) (defBody (top 68)) (defScope (top 68)) [] [] (adr K 71) fd
  u_sights_of : ∃ fd, FunD K "sights_of" "sights_of" (defArgs (top 70)) (defBody (top 70)) (defScope (top 70)) [] [] (adr K 72) fd
  u_rows_at : ∃ fd, FunD K "rows_at" "rows_at" (defArgs (top 71)) (defBody (top 71)) (defScope (top 71)) [] [] (adr K 73) fd
  u_all_sights : ∃ fd, FunD K "all_sights" "all_sights" (defArgs (top 72)) (defBody (top 72)) (defScope (top 72)) [] [] (adr K 74) fd
  u_checked : ∃ fd, FunD K "checked" "checked" (defArgs (top 73)) (defBody (top 73)) (defScope (top 73)) [] [] (adr K 90) fd
  u__law_start : ∃ fd, FunD K "_law_start" "_law_start" (defArgs (top 75)) (defBody (top 75)) (defScope (top 75)) [] [] (adr K 200) fd
  u__law_drawn : ∃ fd, FunD K "_law_drawn" "_law_drawn" (defArgs (top 76)) (defBody (top 76)) (defScope (top 76)) [] [] (adr K 201) fd
  u__law_two : ∃ fd, FunD K "_law_two" "_law_two" (defArgs (top 77)) (defBody (top 77)) (defScope (top 77)) [] [] (adr K 202) fd
  u__law_tries : ∃ fd, FunD K "_law_tries" "_law_tries" (defArgs (top 78)) (defBody (top 78)) (defScope (top 78)) [] [] (adr K 203) fd
  u__law_settled : ∃ fd, FunD K "_law_settled" "_law_settled" (defArgs (top 79)) (defBody (top 79)) (defScope (top 79)) [] [] (adr K 204) fd
  u_law : ∃ fd, FunD K "law" "law" (defArgs (top 80)) (defBody (top 80)) (defScope (top 80)) [] [] (adr K 205) fd
section
variable {P : Program} {w : World} {K : PySem.W.Frag} {mg : Str → Option Value} {base h : Heap}
theorem tab0 (c : Says w h K) : He.dicW K (He.ga K "SIZES") = some (He.keysIn w.params (t_SIZES.map fun p => toS p.1)) := by
  have e : hts.map (fun t => He.dicW K (t.1 K)) = hts.map fun t => some (He.keysIn w.params t.2) := congrArg (fun z : He.AlT => z.2) c.t
  have e2 := congrArg (fun l => l[0]?) e
  exact Option.some.inj e2
theorem txt_of (KX : K.In h) (G : h.Ns mainGlobals mg) (c : Says w h K) : Txt K w mg := by
  have ex1 : ∀ (j : Nat) {p : Str × W}, exl[j]? = some p → gB K p.1 p.2 = true := fun j p e => List.all_eq_true.mp (Bool.and_eq_true_iff.mp c.more).1 p (List.mem_of_getElem? e)
  exact {
    k_UNKNOWNS := gB_ok KX G (ex1 0 rfl)
    k_CASES := gB_ok KX G (ex1 1 rfl)
    k_MOD := gB_ok KX G (ex1 2 rfl)
    k_SAME := gB_ok KX G (ex1 3 rfl)
    k_FAR := gB_ok KX G (ex1 4 rfl)
    k_LETTERS := gB_ok KX G (ex1 5 rfl)
    k_MOST_NAME := gB_ok KX G (ex1 6 rfl)
    k_LOOP := gB_ok KX G (ex1 7 rfl)
    k_TURNS := gB_ok KX G (ex1 8 rfl)
    k_IF := gB_ok KX G (ex1 9 rfl)
    k_MOST_TIMES := gB_ok KX G (ex1 10 rfl)
    k_MOST_NUMBER := gB_ok KX G (ex1 11 rfl)
    k_TESTS := gB_ok KX G (ex1 12 rfl)
    k_REST := gB_ok KX G (ex1 13 rfl)
    k_MOST_WORTHS := gB_ok KX G (ex1 14 rfl)
    k_MOST_COUNT := gB_ok KX G (ex1 15 rfl)
    k_SET := gB_ok KX G (ex1 16 rfl)
    k_READ := gB_ok KX G (ex1 17 rfl)
    k_WRITE := gB_ok KX G (ex1 18 rfl)
    k_MOST_ARRAY := gB_ok KX G (ex1 19 rfl)
    k_FENCE := gB_ok KX G (ex1 20 rfl)
    k_MOST_WITHIN := gB_ok KX G (ex1 21 rfl)
    k_MOST_DEEDS := gB_ok KX G (ex1 22 rfl)
    k_MOST_TOUCHES := gB_ok KX G (ex1 23 rfl)
    k_ALL := gB_ok KX G (ex1 24 rfl)
    k_LAST := gB_ok KX G (ex1 25 rfl)
    k_NEXT := gB_ok KX G (ex1 26 rfl)
    k_THIS := gB_ok KX G (ex1 27 rfl)
    k_FREE := gB_ok KX G (ex1 28 rfl)
    k_SOME := gB_ok KX G (ex1 29 rfl)
    k_NONE := gB_ok KX G (ex1 30 rfl)
    f_all := He.free_ok KX G (c.t.d.fact 0 (f := .free "all") rfl)
    f_any := He.free_ok KX G (c.t.d.fact 1 (f := .free "any") rfl)
    f_bool := He.free_ok KX G (c.t.d.fact 2 (f := .free "bool") rfl)
    f_dict := He.free_ok KX G (c.t.d.fact 3 (f := .free "dict") rfl)
    f_enumerate := He.free_ok KX G (c.t.d.fact 4 (f := .free "enumerate") rfl)
    f_int := He.free_ok KX G (c.t.d.fact 5 (f := .free "int") rfl)
    f_isinstance := He.free_ok KX G (c.t.d.fact 6 (f := .free "isinstance") rfl)
    f_len := He.free_ok KX G (c.t.d.fact 7 (f := .free "len") rfl)
    f_list := He.free_ok KX G (c.t.d.fact 8 (f := .free "list") rfl)
    f_max := He.free_ok KX G (c.t.d.fact 9 (f := .free "max") rfl)
    f_min := He.free_ok KX G (c.t.d.fact 10 (f := .free "min") rfl)
    f_range := He.free_ok KX G (c.t.d.fact 11 (f := .free "range") rfl)
    f_sorted := He.free_ok KX G (c.t.d.fact 12 (f := .free "sorted") rfl)
    f_str := He.free_ok KX G (c.t.d.fact 13 (f := .free "str") rfl)
    f_sum := He.free_ok KX G (c.t.d.fact 14 (f := .free "sum") rfl)
    f_tuple := He.free_ok KX G (c.t.d.fact 15 (f := .free "tuple") rfl)
    f_zip := He.free_ok KX G (c.t.d.fact 16 (f := .free "zip") rfl)
    g_shows := He.glo_ok KX G (c.t.d.fact 17 (f := .glo "shows") rfl)
    g_is_whole := He.glo_ok KX G (c.t.d.fact 18 (f := .glo "is_whole") rfl)
    g_is_name := He.glo_ok KX G (c.t.d.fact 19 (f := .glo "is_name") rfl)
    g_blocks_of := He.glo_ok KX G (c.t.d.fact 20 (f := .glo "blocks_of") rfl)
    g_is_place := He.glo_ok KX G (c.t.d.fact 21 (f := .glo "is_place") rfl)
    g_is_test := He.glo_ok KX G (c.t.d.fact 22 (f := .glo "is_test") rfl)
    g_is_worth := He.glo_ok KX G (c.t.d.fact 23 (f := .glo "is_worth") rfl)
    g_touches_in := He.glo_ok KX G (c.t.d.fact 24 (f := .glo "touches_in") rfl)
    g_need_program := He.glo_ok KX G (c.t.d.fact 25 (f := .glo "need_program") rfl)
    g_numbered := He.glo_ok KX G (c.t.d.fact 26 (f := .glo "numbered") rfl)
    g_as_row := He.glo_ok KX G (c.t.d.fact 27 (f := .glo "as_row") rfl)
    g_from_on := He.glo_ok KX G (c.t.d.fact 28 (f := .glo "from_on") rfl)
    g_up_to := He.glo_ok KX G (c.t.d.fact 29 (f := .glo "up_to") rfl)
    g_left_by := He.glo_ok KX G (c.t.d.fact 30 (f := .glo "left_by") rfl)
    g_split := He.glo_ok KX G (c.t.d.fact 31 (f := .glo "split") rfl)
    g_risen := He.glo_ok KX G (c.t.d.fact 32 (f := .glo "risen") rfl)
    g_is_fenced := He.glo_ok KX G (c.t.d.fact 33 (f := .glo "is_fenced") rfl)
    g_items_of := He.glo_ok KX G (c.t.d.fact 34 (f := .glo "items_of") rfl)
    g_parts_of := He.glo_ok KX G (c.t.d.fact 35 (f := .glo "parts_of") rfl)
    g_once := He.glo_ok KX G (c.t.d.fact 36 (f := .glo "once") rfl)
    g_still := He.glo_ok KX G (c.t.d.fact 37 (f := .glo "still") rfl)
    g_within := He.glo_ok KX G (c.t.d.fact 38 (f := .glo "within") rfl)
    g_spans_of := He.glo_ok KX G (c.t.d.fact 39 (f := .glo "spans_of") rfl)
    g_pair := He.glo_ok KX G (c.t.d.fact 40 (f := .glo "pair") rfl)
    g_pairs_of := He.glo_ok KX G (c.t.d.fact 41 (f := .glo "pairs_of") rfl)
    g_sights_of := He.glo_ok KX G (c.t.d.fact 42 (f := .glo "sights_of") rfl)
    g_rows_at := He.glo_ok KX G (c.t.d.fact 43 (f := .glo "rows_at") rfl)
    g_all_sights := He.glo_ok KX G (c.t.d.fact 44 (f := .glo "all_sights") rfl)
    g_checked := He.glo_ok KX G (c.t.d.fact 45 (f := .glo "checked") rfl)
    g__law_start := He.glo_ok KX G (c.t.d.fact 46 (f := .glo "_law_start") rfl)
    g__law_drawn := He.glo_ok KX G (c.t.d.fact 47 (f := .glo "_law_drawn") rfl)
    g__law_two := He.glo_ok KX G (c.t.d.fact 48 (f := .glo "_law_two") rfl)
    g__law_tries := He.glo_ok KX G (c.t.d.fact 49 (f := .glo "_law_tries") rfl)
    g__law_settled := He.glo_ok KX G (c.t.d.fact 50 (f := .glo "_law_settled") rfl)
    g_law := He.glo_ok KX G (c.t.d.fact 51 (f := .glo "law") rfl)
    cl_Sight := He.cls_ok (c.t.d.fact 52 (f := .cls "Sight") rfl)
    gc_Sight := He.glo_ok KX G (c.t.d.fact 53 (f := .glo "Sight") rfl)
    mk_Sight := He.mkr_ok (c.t.d.fact 54 (f := .mkr "Sight") rfl)
    me_Sight_left := He.meth_ok (c.t.d.fact 55 (f := .meth "Sight" "left") rfl)
    me_Sight_open_ones := He.meth_ok (c.t.d.fact 56 (f := .meth "Sight" "open_ones") rfl)
    me_Sight_ends := He.meth_ok (c.t.d.fact 57 (f := .meth "Sight" "ends") rfl)
    me_Sight_least := He.meth_ok (c.t.d.fact 58 (f := .meth "Sight" "least") rfl)
    me_Sight_most := He.meth_ok (c.t.d.fact 59 (f := .meth "Sight" "most") rfl)
    me_Sight_is_far := He.meth_ok (c.t.d.fact 60 (f := .meth "Sight" "is_far") rfl)
    me_Sight_is_mod := He.meth_ok (c.t.d.fact 61 (f := .meth "Sight" "is_mod") rfl)
    me_Sight_lane := He.meth_ok (c.t.d.fact 62 (f := .meth "Sight" "lane") rfl)
    me_Sight_is_same := He.meth_ok (c.t.d.fact 63 (f := .meth "Sight" "is_same") rfl)
    me_Sight_worths := He.meth_ok (c.t.d.fact 64 (f := .meth "Sight" "worths") rfl)
    cl_Looker := He.cls_ok (c.t.d.fact 65 (f := .cls "Looker") rfl)
    gc_Looker := He.glo_ok KX G (c.t.d.fact 66 (f := .glo "Looker") rfl)
    mk_Looker := He.mkr_ok (c.t.d.fact 67 (f := .mkr "Looker") rfl)
    me_Looker_need := He.meth_ok (c.t.d.fact 68 (f := .meth "Looker" "need") rfl)
    me_Looker_head_fits := He.meth_ok (c.t.d.fact 69 (f := .meth "Looker" "head_fits") rfl)
    me_Looker_block := He.meth_ok (c.t.d.fact 70 (f := .meth "Looker" "block") rfl)
    cl_Flat := He.cls_ok (c.t.d.fact 71 (f := .cls "Flat") rfl)
    gc_Flat := He.glo_ok KX G (c.t.d.fact 72 (f := .glo "Flat") rfl)
    mk_Flat := He.mkr_ok (c.t.d.fact 73 (f := .mkr "Flat") rfl)
    me_Flat_block := He.meth_ok (c.t.d.fact 74 (f := .meth "Flat" "block") rfl)
    me_Flat_deed := He.meth_ok (c.t.d.fact 75 (f := .meth "Flat" "deed") rfl)
    me_Flat_form := He.meth_ok (c.t.d.fact 76 (f := .meth "Flat" "form") rfl)
    cl_Maker := He.cls_ok (c.t.d.fact 77 (f := .cls "Maker") rfl)
    gc_Maker := He.glo_ok KX G (c.t.d.fact 78 (f := .glo "Maker") rfl)
    mk_Maker := He.mkr_ok (c.t.d.fact 79 (f := .mkr "Maker") rfl)
    me_Maker_put := He.meth_ok (c.t.d.fact 80 (f := .meth "Maker" "put") rfl)
    me_Maker_shut := He.meth_ok (c.t.d.fact 81 (f := .meth "Maker" "shut") rfl)
    me_Maker_fence := He.meth_ok (c.t.d.fact 82 (f := .meth "Maker" "fence") rfl)
    me_Maker_with_word := He.meth_ok (c.t.d.fact 83 (f := .meth "Maker" "with_word") rfl)
    me_Maker_turns := He.meth_ok (c.t.d.fact 84 (f := .meth "Maker" "turns") rfl)
    me_Maker_item := He.meth_ok (c.t.d.fact 85 (f := .meth "Maker" "item") rfl)
    na_Flat_rows := He.noat_ok (c.t.d.fact 86 (f := .noat "Flat" "rows") rfl)
    na_Flat_turn := He.noat_ok (c.t.d.fact 87 (f := .noat "Flat" "turn") rfl)
    na_Looker_inputs := He.noat_ok (c.t.d.fact 88 (f := .noat "Looker" "inputs") rfl)
    na_Looker_met := He.noat_ok (c.t.d.fact 89 (f := .noat "Looker" "met") rfl)
    na_Maker_found := He.noat_ok (c.t.d.fact 90 (f := .noat "Maker" "found") rfl)
    na_Maker_now := He.noat_ok (c.t.d.fact 91 (f := .noat "Maker" "now") rfl)
    na_Maker_words := He.noat_ok (c.t.d.fact 92 (f := .noat "Maker" "words") rfl)
    na_Sight_bounds := He.noat_ok (c.t.d.fact 93 (f := .noat "Sight" "bounds") rfl)
    na_Sight_known := He.noat_ok (c.t.d.fact 94 (f := .noat "Sight" "known") rfl)
    na_Sight_mine := He.noat_ok (c.t.d.fact 95 (f := .noat "Sight" "mine") rfl)
    na_Sight_one := He.noat_ok (c.t.d.fact 96 (f := .noat "Sight" "one") rfl)
    na_Sight_other := He.noat_ok (c.t.d.fact 97 (f := .noat "Sight" "other") rfl)
    na_Sight_times := He.noat_ok (c.t.d.fact 98 (f := .noat "Sight" "times") rfl)
    na_Sight_total := He.noat_ok (c.t.d.fact 99 (f := .noat "Sight" "total") rfl)
    na_Sight_yours := He.noat_ok (c.t.d.fact 100 (f := .noat "Sight" "yours") rfl)
    tb_SIZES := tab_ok (tab0 c) (List.all_eq_true.mp (Bool.and_eq_true_iff.mp c.more).2 ("SIZES", t_SIZES) (List.mem_of_getElem? (i := 0) rfl))
    gs_SIZES := He.glo_ok KX G (c.t.d.fact 101 (f := .glo "SIZES") rfl)
  }
theorem fus_of (c : Says w h K) : Fus K where
  u_Sight___init__ := c.t.d.def_ 0 (d := D_Sight___init__) rfl
  u_Sight_left := c.t.d.def_ 1 (d := D_Sight_left) rfl
  u_Sight_open_ones := c.t.d.def_ 2 (d := D_Sight_open_ones) rfl
  u_Sight_ends := c.t.d.def_ 3 (d := D_Sight_ends) rfl
  u_Sight_least := c.t.d.def_ 4 (d := D_Sight_least) rfl
  u_Sight_most := c.t.d.def_ 5 (d := D_Sight_most) rfl
  u_Sight_is_far := c.t.d.def_ 6 (d := D_Sight_is_far) rfl
  u_Sight_is_mod := c.t.d.def_ 7 (d := D_Sight_is_mod) rfl
  u_Sight_lane := c.t.d.def_ 8 (d := D_Sight_lane) rfl
  u_Sight_is_same := c.t.d.def_ 9 (d := D_Sight_is_same) rfl
  u_Sight_worths := c.t.d.def_ 10 (d := D_Sight_worths) rfl
  u_shows := c.t.d.def_ 11 (d := D_shows) rfl
  u_is_whole := c.t.d.def_ 12 (d := D_is_whole) rfl
  u_is_name := c.t.d.def_ 13 (d := D_is_name) rfl
  u_blocks_of := c.t.d.def_ 14 (d := D_blocks_of) rfl
  u_is_place := c.t.d.def_ 15 (d := D_is_place) rfl
  u_is_test := c.t.d.def_ 16 (d := D_is_test) rfl
  u_is_worth := c.t.d.def_ 17 (d := D_is_worth) rfl
  u_Looker___init__ := c.t.d.def_ 18 (d := D_Looker___init__) rfl
  u_Looker_need := c.t.d.def_ 19 (d := D_Looker_need) rfl
  u_Looker_head_fits := c.t.d.def_ 20 (d := D_Looker_head_fits) rfl
  u_Looker_block := c.t.d.def_ 21 (d := D_Looker_block) rfl
  u_touches_in := c.t.d.def_ 22 (d := D_touches_in) rfl
  u_need_program := c.t.d.def_ 23 (d := D_need_program) rfl
  u_numbered := c.t.d.def_ 24 (d := D_numbered) rfl
  u_as_row := c.t.d.def_ 25 (d := D_as_row) rfl
  u_from_on := c.t.d.def_ 26 (d := D_from_on) rfl
  u_up_to := c.t.d.def_ 27 (d := D_up_to) rfl
  u_left_by := c.t.d.def_ 28 (d := D_left_by) rfl
  u_split := c.t.d.def_ 29 (d := D_split) rfl
  u_risen := c.t.d.def_ 30 (d := D_risen) rfl
  u_Flat___init__ := c.t.d.def_ 31 (d := D_Flat___init__) rfl
  u_Flat_block := c.t.d.def_ 32 (d := D_Flat_block) rfl
  u_Flat_deed := c.t.d.def_ 33 (d := D_Flat_deed) rfl
  u_Flat_form := c.t.d.def_ 34 (d := D_Flat_form) rfl
  u_is_fenced := c.t.d.def_ 35 (d := D_is_fenced) rfl
  u_items_of := c.t.d.def_ 36 (d := D_items_of) rfl
  u_parts_of := c.t.d.def_ 37 (d := D_parts_of) rfl
  u_once := c.t.d.def_ 38 (d := D_once) rfl
  u_still := c.t.d.def_ 39 (d := D_still) rfl
  u_within := c.t.d.def_ 40 (d := D_within) rfl
  u_Maker___init__ := c.t.d.def_ 41 (d := D_Maker___init__) rfl
  u_Maker_put := c.t.d.def_ 42 (d := D_Maker_put) rfl
  u_Maker_shut := c.t.d.def_ 43 (d := D_Maker_shut) rfl
  u_Maker_fence := c.t.d.def_ 44 (d := D_Maker_fence) rfl
  u_Maker_with_word := c.t.d.def_ 45 (d := D_Maker_with_word) rfl
  u_Maker_turns := c.t.d.def_ 46 (d := D_Maker_turns) rfl
  u_Maker_item := c.t.d.def_ 47 (d := D_Maker_item) rfl
  u_spans_of := c.t.d.def_ 48 (d := D_spans_of) rfl
  u_pair := c.t.d.def_ 49 (d := D_pair) rfl
  u_pairs_of := c.t.d.def_ 50 (d := D_pairs_of) rfl
  u_sights_of := c.t.d.def_ 51 (d := D_sights_of) rfl
  u_rows_at := c.t.d.def_ 52 (d := D_rows_at) rfl
  u_all_sights := c.t.d.def_ 53 (d := D_all_sights) rfl
  u_checked := c.t.d.def_ 54 (d := D_checked) rfl
  u__law_start := c.t.d.def_ 55 (d := D__law_start) rfl
  u__law_drawn := c.t.d.def_ 56 (d := D__law_drawn) rfl
  u__law_two := c.t.d.def_ 57 (d := D__law_two) rfl
  u__law_tries := c.t.d.def_ 58 (d := D__law_tries) rfl
  u__law_settled := c.t.d.def_ 59 (d := D__law_settled) rfl
  u_law := c.t.d.def_ 60 (d := D_law) rfl
theorem ft_zero (Z : Fus K) : FT P w K mg base 0 := fun i d e => by
  unfold T at e
  split at e
  · cases e
    obtain ⟨fd, U⟩ := Z.u_Sight___init__
    exact fok_zero (N := N_Sight___init__) U (FunD.bindsN (ps := P_Sight___init__) U fun _ _ _ _ _ _ us hl => match us, hl with | [_, _, _, _], _ => rfl)
  · cases e
    obtain ⟨fd, U⟩ := Z.u_Sight_left
    exact fok_zero (N := N_Sight_left) U (FunD.bindsN (ps := P_Sight_left) U fun _ _ _ _ _ _ us hl => match us, hl with | [_], _ => rfl)
  · cases e
    obtain ⟨fd, U⟩ := Z.u_Sight_open_ones
    exact fok_zero (N := N_Sight_open_ones) U (FunD.bindsN (ps := P_Sight_open_ones) U fun _ _ _ _ _ _ us hl => match us, hl with | [_], _ => rfl)
  · cases e
    obtain ⟨fd, U⟩ := Z.u_Sight_ends
    exact fok_zero (N := N_Sight_ends) U (FunD.bindsN (ps := P_Sight_ends) U fun _ _ _ _ _ _ us hl => match us, hl with | [_, _], _ => rfl)
  · cases e
    obtain ⟨fd, U⟩ := Z.u_Sight_least
    exact fok_zero (N := N_Sight_least) U (FunD.bindsN (ps := P_Sight_least) U fun _ _ _ _ _ _ us hl => match us, hl with | [_, _], _ => rfl)
  · cases e
    obtain ⟨fd, U⟩ := Z.u_Sight_most
    exact fok_zero (N := N_Sight_most) U (FunD.bindsN (ps := P_Sight_most) U fun _ _ _ _ _ _ us hl => match us, hl with | [_, _], _ => rfl)
  · cases e
    obtain ⟨fd, U⟩ := Z.u_Sight_is_far
    exact fok_zero (N := N_Sight_is_far) U (FunD.bindsN (ps := P_Sight_is_far) U fun _ _ _ _ _ _ us hl => match us, hl with | [_], _ => rfl)
  · cases e
    obtain ⟨fd, U⟩ := Z.u_Sight_is_mod
    exact fok_zero (N := N_Sight_is_mod) U (FunD.bindsN (ps := P_Sight_is_mod) U fun _ _ _ _ _ _ us hl => match us, hl with | [_, _], _ => rfl)
  · cases e
    obtain ⟨fd, U⟩ := Z.u_Sight_lane
    exact fok_zero (N := N_Sight_lane) U (FunD.bindsN (ps := P_Sight_lane) U fun _ _ _ _ _ _ us hl => match us, hl with | [_, _], _ => rfl)
  · cases e
    obtain ⟨fd, U⟩ := Z.u_Sight_is_same
    exact fok_zero (N := N_Sight_is_same) U (FunD.bindsN (ps := P_Sight_is_same) U fun _ _ _ _ _ _ us hl => match us, hl with | [_], _ => rfl)
  · cases e
    obtain ⟨fd, U⟩ := Z.u_Sight_worths
    exact fok_zero (N := N_Sight_worths) U (FunD.bindsN (ps := P_Sight_worths) U fun _ _ _ _ _ _ us hl => match us, hl with | [_, _], _ => rfl)
  · cases e
    obtain ⟨fd, U⟩ := Z.u_shows
    exact fok_zero (N := N_shows) U (FunD.bindsN (ps := P_shows) U fun _ _ _ _ _ _ us hl => match us, hl with | [_, _], _ => rfl)
  · cases e
    obtain ⟨fd, U⟩ := Z.u_is_whole
    exact fok_zero (N := N_is_whole) U (FunD.bindsN (ps := P_is_whole) U fun _ _ _ _ _ _ us hl => match us, hl with | [_, _, _], _ => rfl)
  · cases e
    obtain ⟨fd, U⟩ := Z.u_is_name
    exact fok_zero (N := N_is_name) U (FunD.bindsN (ps := P_is_name) U fun _ _ _ _ _ _ us hl => match us, hl with | [_], _ => rfl)
  · cases e
    obtain ⟨fd, U⟩ := Z.u_blocks_of
    exact fok_zero (N := N_blocks_of) U (FunD.bindsN (ps := P_blocks_of) U fun _ _ _ _ _ _ us hl => match us, hl with | [_], _ => rfl)
  · cases e
    obtain ⟨fd, U⟩ := Z.u_is_place
    exact fok_zero (N := N_is_place) U (FunD.bindsN (ps := P_is_place) U fun _ _ _ _ _ _ us hl => match us, hl with | [_, _], _ => rfl)
  · cases e
    obtain ⟨fd, U⟩ := Z.u_is_test
    exact fok_zero (N := N_is_test) U (FunD.bindsN (ps := P_is_test) U fun _ _ _ _ _ _ us hl => match us, hl with | [_], _ => rfl)
  · cases e
    obtain ⟨fd, U⟩ := Z.u_is_worth
    exact fok_zero (N := N_is_worth) U (FunD.bindsN (ps := P_is_worth) U fun _ _ _ _ _ _ us hl => match us, hl with | [_, _, _], _ => rfl)
  · cases e
    obtain ⟨fd, U⟩ := Z.u_Looker___init__
    exact fok_zero (N := N_Looker___init__) U (FunD.bindsN (ps := P_Looker___init__) U fun _ _ _ _ _ _ us hl => match us, hl with | [_], _ => rfl)
  · cases e
    obtain ⟨fd, U⟩ := Z.u_Looker_need
    exact fok_zero (N := N_Looker_need) U (FunD.bindsN (ps := P_Looker_need) U fun _ _ _ _ _ _ us hl => match us, hl with | [_, _, _], _ => rfl)
  · cases e
    obtain ⟨fd, U⟩ := Z.u_Looker_head_fits
    exact fok_zero (N := N_Looker_head_fits) U (FunD.bindsN (ps := P_Looker_head_fits) U fun _ _ _ _ _ _ us hl => match us, hl with | [_, _, _, _], _ => rfl)
  · cases e
    obtain ⟨fd, U⟩ := Z.u_Looker_block
    exact fok_zero (N := N_Looker_block) U (FunD.bindsN (ps := P_Looker_block) U fun _ _ _ _ _ _ us hl => match us, hl with | [_, _, _, _], _ => rfl)
  · cases e
    obtain ⟨fd, U⟩ := Z.u_touches_in
    exact fok_zero (N := N_touches_in) U (FunD.bindsN (ps := P_touches_in) U fun _ _ _ _ _ _ us hl => match us, hl with | [_], _ => rfl)
  · cases e
    obtain ⟨fd, U⟩ := Z.u_need_program
    exact fok_zero (N := N_need_program) U (FunD.bindsN (ps := P_need_program) U fun _ _ _ _ _ _ us hl => match us, hl with | [_], _ => rfl)
  · cases e
    obtain ⟨fd, U⟩ := Z.u_numbered
    exact fok_zero (N := N_numbered) U (FunD.bindsN (ps := P_numbered) U fun _ _ _ _ _ _ us hl => match us, hl with | [_, _], _ => rfl)
  · cases e
    obtain ⟨fd, U⟩ := Z.u_as_row
    exact fok_zero (N := N_as_row) U (FunD.bindsN (ps := P_as_row) U fun _ _ _ _ _ _ us hl => match us, hl with | [_, _, _], _ => rfl)
  · cases e
    obtain ⟨fd, U⟩ := Z.u_from_on
    exact fok_zero (N := N_from_on) U (FunD.bindsN (ps := P_from_on) U fun _ _ _ _ _ _ us hl => match us, hl with | [_, _], _ => rfl)
  · cases e
    obtain ⟨fd, U⟩ := Z.u_up_to
    exact fok_zero (N := N_up_to) U (FunD.bindsN (ps := P_up_to) U fun _ _ _ _ _ _ us hl => match us, hl with | [_, _], _ => rfl)
  · cases e
    obtain ⟨fd, U⟩ := Z.u_left_by
    exact fok_zero (N := N_left_by) U (FunD.bindsN (ps := P_left_by) U fun _ _ _ _ _ _ us hl => match us, hl with | [_, _, _], _ => rfl)
  · cases e
    obtain ⟨fd, U⟩ := Z.u_split
    exact fok_zero (N := N_split) U (FunD.bindsN (ps := P_split) U fun _ _ _ _ _ _ us hl => match us, hl with | [_, _], _ => rfl)
  · cases e
    obtain ⟨fd, U⟩ := Z.u_risen
    exact fok_zero (N := N_risen) U (FunD.bindsN (ps := P_risen) U fun _ _ _ _ _ _ us hl => match us, hl with | [_], _ => rfl)
  · cases e
    obtain ⟨fd, U⟩ := Z.u_Flat___init__
    exact fok_zero (N := N_Flat___init__) U (FunD.bindsN (ps := P_Flat___init__) U fun _ _ _ _ _ _ us hl => match us, hl with | [_, _], _ => rfl)
  · cases e
    obtain ⟨fd, U⟩ := Z.u_Flat_block
    exact fok_zero (N := N_Flat_block) U (FunD.bindsN (ps := P_Flat_block) U fun _ _ _ _ _ _ us hl => match us, hl with | [_, _, _, _], _ => rfl)
  · cases e
    obtain ⟨fd, U⟩ := Z.u_Flat_deed
    exact fok_zero (N := N_Flat_deed) U (FunD.bindsN (ps := P_Flat_deed) U fun _ _ _ _ _ _ us hl => match us, hl with | [_, _, _, _, _, _], _ => rfl)
  · cases e
    obtain ⟨fd, U⟩ := Z.u_Flat_form
    exact fok_zero (N := N_Flat_form) U (FunD.bindsN (ps := P_Flat_form) U fun _ _ _ _ _ _ us hl => match us, hl with | [_, _, _], _ => rfl)
  · cases e
    obtain ⟨fd, U⟩ := Z.u_is_fenced
    exact fok_zero (N := N_is_fenced) U (FunD.bindsN (ps := P_is_fenced) U fun _ _ _ _ _ _ us hl => match us, hl with | [_], _ => rfl)
  · cases e
    obtain ⟨fd, U⟩ := Z.u_items_of
    exact fok_zero (N := N_items_of) U (FunD.bindsN (ps := P_items_of) U fun _ _ _ _ _ _ us hl => match us, hl with | [_], _ => rfl)
  · cases e
    obtain ⟨fd, U⟩ := Z.u_parts_of
    exact fok_zero (N := N_parts_of) U (FunD.bindsN (ps := P_parts_of) U fun _ _ _ _ _ _ us hl => match us, hl with | [_], _ => rfl)
  · cases e
    obtain ⟨fd, U⟩ := Z.u_once
    exact fok_zero (N := N_once) U (FunD.bindsN (ps := P_once) U fun _ _ _ _ _ _ us hl => match us, hl with | [_], _ => rfl)
  · cases e
    obtain ⟨fd, U⟩ := Z.u_still
    exact fok_zero (N := N_still) U (FunD.bindsN (ps := P_still) U fun _ _ _ _ _ _ us hl => match us, hl with | [_], _ => rfl)
  · cases e
    obtain ⟨fd, U⟩ := Z.u_within
    exact fok_zero (N := N_within) U (FunD.bindsN (ps := P_within) U fun _ _ _ _ _ _ us hl => match us, hl with | [_, _], _ => rfl)
  · cases e
    obtain ⟨fd, U⟩ := Z.u_Maker___init__
    exact fok_zero (N := N_Maker___init__) U (FunD.bindsN (ps := P_Maker___init__) U fun _ _ _ _ _ _ us hl => match us, hl with | [_, _, _], _ => rfl)
  · cases e
    obtain ⟨fd, U⟩ := Z.u_Maker_put
    exact fok_zero (N := N_Maker_put) U (FunD.bindsN (ps := P_Maker_put) U fun _ _ _ _ _ _ us hl => match us, hl with | [_, _], _ => rfl)
  · cases e
    obtain ⟨fd, U⟩ := Z.u_Maker_shut
    exact fok_zero (N := N_Maker_shut) U (FunD.bindsN (ps := P_Maker_shut) U fun _ _ _ _ _ _ us hl => match us, hl with | [_, _, _], _ => rfl)
  · cases e
    obtain ⟨fd, U⟩ := Z.u_Maker_fence
    exact fok_zero (N := N_Maker_fence) U (FunD.bindsN (ps := P_Maker_fence) U fun _ _ _ _ _ _ us hl => match us, hl with | [_], _ => rfl)
  · cases e
    obtain ⟨fd, U⟩ := Z.u_Maker_with_word
    exact fok_zero (N := N_Maker_with_word) U (FunD.bindsN (ps := P_Maker_with_word) U fun _ _ _ _ _ _ us hl => match us, hl with | [_, _, _], _ => rfl)
  · cases e
    obtain ⟨fd, U⟩ := Z.u_Maker_turns
    exact fok_zero (N := N_Maker_turns) U (FunD.bindsN (ps := P_Maker_turns) U fun _ _ _ _ _ _ us hl => match us, hl with | [_, _, _], _ => rfl)
  · cases e
    obtain ⟨fd, U⟩ := Z.u_Maker_item
    exact fok_zero (N := N_Maker_item) U (FunD.bindsN (ps := P_Maker_item) U fun _ _ _ _ _ _ us hl => match us, hl with | [_, _, _], _ => rfl)
  · cases e
    obtain ⟨fd, U⟩ := Z.u_spans_of
    exact fok_zero (N := N_spans_of) U (FunD.bindsN (ps := P_spans_of) U fun _ _ _ _ _ _ us hl => match us, hl with | [_], _ => rfl)
  · cases e
    obtain ⟨fd, U⟩ := Z.u_pair
    exact fok_zero (N := N_pair) U (FunD.bindsN (ps := P_pair) U fun _ _ _ _ _ _ us hl => match us, hl with | [_, _, _, _, _, _], _ => rfl)
  · cases e
    obtain ⟨fd, U⟩ := Z.u_pairs_of
    exact fok_zero (N := N_pairs_of) U (FunD.bindsN (ps := P_pairs_of) U fun _ _ _ _ _ _ us hl => match us, hl with | [_], _ => rfl)
  · cases e
    obtain ⟨fd, U⟩ := Z.u_sights_of
    exact fok_zero (N := N_sights_of) U (FunD.bindsN (ps := P_sights_of) U fun _ _ _ _ _ _ us hl => match us, hl with | [_], _ => rfl)
  · cases e
    obtain ⟨fd, U⟩ := Z.u_rows_at
    exact fok_zero (N := N_rows_at) U (FunD.bindsN (ps := P_rows_at) U fun _ _ _ _ _ _ us hl => match us, hl with | [_], _ => rfl)
  · cases e
    obtain ⟨fd, U⟩ := Z.u_all_sights
    exact fok_zero (N := N_all_sights) U (FunD.bindsN (ps := P_all_sights) U fun _ _ _ _ _ _ us hl => match us, hl with | [_], _ => rfl)
  · cases e
    obtain ⟨fd, U⟩ := Z.u_checked
    exact fok_zero (N := N_checked) U (FunD.bindsN (ps := P_checked) U fun _ _ _ _ _ _ us hl => match us, hl with | [_, _], _ => rfl)
  · cases e
    obtain ⟨fd, U⟩ := Z.u__law_start
    exact fok_zero (N := N__law_start) U (FunD.bindsN (ps := P__law_start) U fun _ _ _ _ _ _ us hl => match us, hl with | [_], _ => rfl)
  · cases e
    obtain ⟨fd, U⟩ := Z.u__law_drawn
    exact fok_zero (N := N__law_drawn) U (FunD.bindsN (ps := P__law_drawn) U fun _ _ _ _ _ _ us hl => match us, hl with | [_, _], _ => rfl)
  · cases e
    obtain ⟨fd, U⟩ := Z.u__law_two
    exact fok_zero (N := N__law_two) U (FunD.bindsN (ps := P__law_two) U fun _ _ _ _ _ _ us hl => match us, hl with | [_, _, _], _ => rfl)
  · cases e
    obtain ⟨fd, U⟩ := Z.u__law_tries
    exact fok_zero (N := N__law_tries) U (FunD.bindsN (ps := P__law_tries) U fun _ _ _ _ _ _ us hl => match us, hl with | [_, _, _], _ => rfl)
  · cases e
    obtain ⟨fd, U⟩ := Z.u__law_settled
    exact fok_zero (N := N__law_settled) U (FunD.bindsN (ps := P__law_settled) U fun _ _ _ _ _ _ us hl => match us, hl with | [_], _ => rfl)
  · cases e
    obtain ⟨fd, U⟩ := Z.u_law
    exact fok_zero (N := N_law) U (FunD.bindsN (ps := P_law) U fun _ _ _ _ _ _ us hl => match us, hl with | [_], _ => rfl)
  · cases e
theorem ft_step {k : Nat} (X : Txt K w mg) (Z : Fus K) (F : FT P w K mg base k) : FT P w K mg base (k + 1) := fun i d e => by
  unfold T at e
  split at e
  · cases e
    obtain ⟨fd, U⟩ := Z.u_Sight___init__
    exact fok_step U (FunD.bindsN (ps := P_Sight___init__) U fun _ _ _ _ _ _ us hl => match us, hl with | [_, _, _, _], _ => rfl) sc_Sight___init__ rfl rfl rfl fun cdv A outer s H E hr => w_Sight___init__ X F hr
  · cases e
    obtain ⟨fd, U⟩ := Z.u_Sight_left
    exact fok_step U (FunD.bindsN (ps := P_Sight_left) U fun _ _ _ _ _ _ us hl => match us, hl with | [_], _ => rfl) sc_Sight_left rfl rfl rfl fun cdv A outer s H E hr => w_Sight_left X F hr
  · cases e
    obtain ⟨fd, U⟩ := Z.u_Sight_open_ones
    exact fok_step U (FunD.bindsN (ps := P_Sight_open_ones) U fun _ _ _ _ _ _ us hl => match us, hl with | [_], _ => rfl) sc_Sight_open_ones rfl rfl rfl fun cdv A outer s H E hr => w_Sight_open_ones X F hr
  · cases e
    obtain ⟨fd, U⟩ := Z.u_Sight_ends
    exact fok_step U (FunD.bindsN (ps := P_Sight_ends) U fun _ _ _ _ _ _ us hl => match us, hl with | [_, _], _ => rfl) sc_Sight_ends rfl rfl rfl fun cdv A outer s H E hr => w_Sight_ends X F hr
  · cases e
    obtain ⟨fd, U⟩ := Z.u_Sight_least
    exact fok_step U (FunD.bindsN (ps := P_Sight_least) U fun _ _ _ _ _ _ us hl => match us, hl with | [_, _], _ => rfl) sc_Sight_least rfl rfl rfl fun cdv A outer s H E hr => w_Sight_least X F hr
  · cases e
    obtain ⟨fd, U⟩ := Z.u_Sight_most
    exact fok_step U (FunD.bindsN (ps := P_Sight_most) U fun _ _ _ _ _ _ us hl => match us, hl with | [_, _], _ => rfl) sc_Sight_most rfl rfl rfl fun cdv A outer s H E hr => w_Sight_most X F hr
  · cases e
    obtain ⟨fd, U⟩ := Z.u_Sight_is_far
    exact fok_step U (FunD.bindsN (ps := P_Sight_is_far) U fun _ _ _ _ _ _ us hl => match us, hl with | [_], _ => rfl) sc_Sight_is_far rfl rfl rfl fun cdv A outer s H E hr => w_Sight_is_far X F hr
  · cases e
    obtain ⟨fd, U⟩ := Z.u_Sight_is_mod
    exact fok_step U (FunD.bindsN (ps := P_Sight_is_mod) U fun _ _ _ _ _ _ us hl => match us, hl with | [_, _], _ => rfl) sc_Sight_is_mod rfl rfl rfl fun cdv A outer s H E hr => w_Sight_is_mod X F hr
  · cases e
    obtain ⟨fd, U⟩ := Z.u_Sight_lane
    exact fok_step U (FunD.bindsN (ps := P_Sight_lane) U fun _ _ _ _ _ _ us hl => match us, hl with | [_, _], _ => rfl) sc_Sight_lane rfl rfl rfl fun cdv A outer s H E hr => w_Sight_lane X F hr
  · cases e
    obtain ⟨fd, U⟩ := Z.u_Sight_is_same
    exact fok_step U (FunD.bindsN (ps := P_Sight_is_same) U fun _ _ _ _ _ _ us hl => match us, hl with | [_], _ => rfl) sc_Sight_is_same rfl rfl rfl fun cdv A outer s H E hr => w_Sight_is_same X F hr
  · cases e
    obtain ⟨fd, U⟩ := Z.u_Sight_worths
    exact fok_step U (FunD.bindsN (ps := P_Sight_worths) U fun _ _ _ _ _ _ us hl => match us, hl with | [_, _], _ => rfl) sc_Sight_worths rfl rfl rfl fun cdv A outer s H E hr => w_Sight_worths X F hr
  · cases e
    obtain ⟨fd, U⟩ := Z.u_shows
    exact fok_step U (FunD.bindsN (ps := P_shows) U fun _ _ _ _ _ _ us hl => match us, hl with | [_, _], _ => rfl) sc_shows rfl rfl rfl fun cdv A outer s H E hr => w_shows X F hr
  · cases e
    obtain ⟨fd, U⟩ := Z.u_is_whole
    exact fok_step U (FunD.bindsN (ps := P_is_whole) U fun _ _ _ _ _ _ us hl => match us, hl with | [_, _, _], _ => rfl) sc_is_whole rfl rfl rfl fun cdv A outer s H E hr => w_is_whole X F hr
  · cases e
    obtain ⟨fd, U⟩ := Z.u_is_name
    exact fok_step U (FunD.bindsN (ps := P_is_name) U fun _ _ _ _ _ _ us hl => match us, hl with | [_], _ => rfl) sc_is_name rfl rfl rfl fun cdv A outer s H E hr => w_is_name X F hr
  · cases e
    obtain ⟨fd, U⟩ := Z.u_blocks_of
    exact fok_step U (FunD.bindsN (ps := P_blocks_of) U fun _ _ _ _ _ _ us hl => match us, hl with | [_], _ => rfl) sc_blocks_of rfl rfl rfl fun cdv A outer s H E hr => w_blocks_of X F hr
  · cases e
    obtain ⟨fd, U⟩ := Z.u_is_place
    exact fok_step U (FunD.bindsN (ps := P_is_place) U fun _ _ _ _ _ _ us hl => match us, hl with | [_, _], _ => rfl) sc_is_place rfl rfl rfl fun cdv A outer s H E hr => w_is_place X F hr
  · cases e
    obtain ⟨fd, U⟩ := Z.u_is_test
    exact fok_step U (FunD.bindsN (ps := P_is_test) U fun _ _ _ _ _ _ us hl => match us, hl with | [_], _ => rfl) sc_is_test rfl rfl rfl fun cdv A outer s H E hr => w_is_test X F hr
  · cases e
    obtain ⟨fd, U⟩ := Z.u_is_worth
    exact fok_step U (FunD.bindsN (ps := P_is_worth) U fun _ _ _ _ _ _ us hl => match us, hl with | [_, _, _], _ => rfl) sc_is_worth rfl rfl rfl fun cdv A outer s H E hr => w_is_worth X F hr
  · cases e
    obtain ⟨fd, U⟩ := Z.u_Looker___init__
    exact fok_step U (FunD.bindsN (ps := P_Looker___init__) U fun _ _ _ _ _ _ us hl => match us, hl with | [_], _ => rfl) sc_Looker___init__ rfl rfl rfl fun cdv A outer s H E hr => w_Looker___init__ X F hr
  · cases e
    obtain ⟨fd, U⟩ := Z.u_Looker_need
    exact fok_step U (FunD.bindsN (ps := P_Looker_need) U fun _ _ _ _ _ _ us hl => match us, hl with | [_, _, _], _ => rfl) sc_Looker_need rfl rfl rfl fun cdv A outer s H E hr => w_Looker_need X F hr
  · cases e
    obtain ⟨fd, U⟩ := Z.u_Looker_head_fits
    exact fok_step U (FunD.bindsN (ps := P_Looker_head_fits) U fun _ _ _ _ _ _ us hl => match us, hl with | [_, _, _, _], _ => rfl) sc_Looker_head_fits rfl rfl rfl fun cdv A outer s H E hr => w_Looker_head_fits X F hr
  · cases e
    obtain ⟨fd, U⟩ := Z.u_Looker_block
    exact fok_step U (FunD.bindsN (ps := P_Looker_block) U fun _ _ _ _ _ _ us hl => match us, hl with | [_, _, _, _], _ => rfl) sc_Looker_block rfl rfl rfl fun cdv A outer s H E hr => w_Looker_block X F hr
  · cases e
    obtain ⟨fd, U⟩ := Z.u_touches_in
    exact fok_step U (FunD.bindsN (ps := P_touches_in) U fun _ _ _ _ _ _ us hl => match us, hl with | [_], _ => rfl) sc_touches_in rfl rfl rfl fun cdv A outer s H E hr => w_touches_in X F hr
  · cases e
    obtain ⟨fd, U⟩ := Z.u_need_program
    exact fok_step U (FunD.bindsN (ps := P_need_program) U fun _ _ _ _ _ _ us hl => match us, hl with | [_], _ => rfl) sc_need_program rfl rfl rfl fun cdv A outer s H E hr => w_need_program X F hr
  · cases e
    obtain ⟨fd, U⟩ := Z.u_numbered
    exact fok_step U (FunD.bindsN (ps := P_numbered) U fun _ _ _ _ _ _ us hl => match us, hl with | [_, _], _ => rfl) sc_numbered rfl rfl rfl fun cdv A outer s H E hr => w_numbered X F hr
  · cases e
    obtain ⟨fd, U⟩ := Z.u_as_row
    exact fok_step U (FunD.bindsN (ps := P_as_row) U fun _ _ _ _ _ _ us hl => match us, hl with | [_, _, _], _ => rfl) sc_as_row rfl rfl rfl fun cdv A outer s H E hr => w_as_row X F hr
  · cases e
    obtain ⟨fd, U⟩ := Z.u_from_on
    exact fok_step U (FunD.bindsN (ps := P_from_on) U fun _ _ _ _ _ _ us hl => match us, hl with | [_, _], _ => rfl) sc_from_on rfl rfl rfl fun cdv A outer s H E hr => w_from_on X F hr
  · cases e
    obtain ⟨fd, U⟩ := Z.u_up_to
    exact fok_step U (FunD.bindsN (ps := P_up_to) U fun _ _ _ _ _ _ us hl => match us, hl with | [_, _], _ => rfl) sc_up_to rfl rfl rfl fun cdv A outer s H E hr => w_up_to X F hr
  · cases e
    obtain ⟨fd, U⟩ := Z.u_left_by
    exact fok_step U (FunD.bindsN (ps := P_left_by) U fun _ _ _ _ _ _ us hl => match us, hl with | [_, _, _], _ => rfl) sc_left_by rfl rfl rfl fun cdv A outer s H E hr => w_left_by X F hr
  · cases e
    obtain ⟨fd, U⟩ := Z.u_split
    exact fok_step U (FunD.bindsN (ps := P_split) U fun _ _ _ _ _ _ us hl => match us, hl with | [_, _], _ => rfl) sc_split rfl rfl rfl fun cdv A outer s H E hr => w_split X F hr
  · cases e
    obtain ⟨fd, U⟩ := Z.u_risen
    exact fok_step U (FunD.bindsN (ps := P_risen) U fun _ _ _ _ _ _ us hl => match us, hl with | [_], _ => rfl) sc_risen rfl rfl rfl fun cdv A outer s H E hr => w_risen X F hr
  · cases e
    obtain ⟨fd, U⟩ := Z.u_Flat___init__
    exact fok_step U (FunD.bindsN (ps := P_Flat___init__) U fun _ _ _ _ _ _ us hl => match us, hl with | [_, _], _ => rfl) sc_Flat___init__ rfl rfl rfl fun cdv A outer s H E hr => w_Flat___init__ X F hr
  · cases e
    obtain ⟨fd, U⟩ := Z.u_Flat_block
    exact fok_step U (FunD.bindsN (ps := P_Flat_block) U fun _ _ _ _ _ _ us hl => match us, hl with | [_, _, _, _], _ => rfl) sc_Flat_block rfl rfl rfl fun cdv A outer s H E hr => w_Flat_block X F hr
  · cases e
    obtain ⟨fd, U⟩ := Z.u_Flat_deed
    exact fok_step U (FunD.bindsN (ps := P_Flat_deed) U fun _ _ _ _ _ _ us hl => match us, hl with | [_, _, _, _, _, _], _ => rfl) sc_Flat_deed rfl rfl rfl fun cdv A outer s H E hr => w_Flat_deed X F hr
  · cases e
    obtain ⟨fd, U⟩ := Z.u_Flat_form
    exact fok_step U (FunD.bindsN (ps := P_Flat_form) U fun _ _ _ _ _ _ us hl => match us, hl with | [_, _, _], _ => rfl) sc_Flat_form rfl rfl rfl fun cdv A outer s H E hr => w_Flat_form X F hr
  · cases e
    obtain ⟨fd, U⟩ := Z.u_is_fenced
    exact fok_step U (FunD.bindsN (ps := P_is_fenced) U fun _ _ _ _ _ _ us hl => match us, hl with | [_], _ => rfl) sc_is_fenced rfl rfl rfl fun cdv A outer s H E hr => w_is_fenced X F hr
  · cases e
    obtain ⟨fd, U⟩ := Z.u_items_of
    exact fok_step U (FunD.bindsN (ps := P_items_of) U fun _ _ _ _ _ _ us hl => match us, hl with | [_], _ => rfl) sc_items_of rfl rfl rfl fun cdv A outer s H E hr => w_items_of X F hr
  · cases e
    obtain ⟨fd, U⟩ := Z.u_parts_of
    exact fok_step U (FunD.bindsN (ps := P_parts_of) U fun _ _ _ _ _ _ us hl => match us, hl with | [_], _ => rfl) sc_parts_of rfl rfl rfl fun cdv A outer s H E hr => w_parts_of X F hr
  · cases e
    obtain ⟨fd, U⟩ := Z.u_once
    exact fok_step U (FunD.bindsN (ps := P_once) U fun _ _ _ _ _ _ us hl => match us, hl with | [_], _ => rfl) sc_once rfl rfl rfl fun cdv A outer s H E hr => w_once X F hr
  · cases e
    obtain ⟨fd, U⟩ := Z.u_still
    exact fok_step U (FunD.bindsN (ps := P_still) U fun _ _ _ _ _ _ us hl => match us, hl with | [_], _ => rfl) sc_still rfl rfl rfl fun cdv A outer s H E hr => w_still X F hr
  · cases e
    obtain ⟨fd, U⟩ := Z.u_within
    exact fok_step U (FunD.bindsN (ps := P_within) U fun _ _ _ _ _ _ us hl => match us, hl with | [_, _], _ => rfl) sc_within rfl rfl rfl fun cdv A outer s H E hr => w_within X F hr
  · cases e
    obtain ⟨fd, U⟩ := Z.u_Maker___init__
    exact fok_step U (FunD.bindsN (ps := P_Maker___init__) U fun _ _ _ _ _ _ us hl => match us, hl with | [_, _, _], _ => rfl) sc_Maker___init__ rfl rfl rfl fun cdv A outer s H E hr => w_Maker___init__ X F hr
  · cases e
    obtain ⟨fd, U⟩ := Z.u_Maker_put
    exact fok_step U (FunD.bindsN (ps := P_Maker_put) U fun _ _ _ _ _ _ us hl => match us, hl with | [_, _], _ => rfl) sc_Maker_put rfl rfl rfl fun cdv A outer s H E hr => w_Maker_put X F hr
  · cases e
    obtain ⟨fd, U⟩ := Z.u_Maker_shut
    exact fok_step U (FunD.bindsN (ps := P_Maker_shut) U fun _ _ _ _ _ _ us hl => match us, hl with | [_, _, _], _ => rfl) sc_Maker_shut rfl rfl rfl fun cdv A outer s H E hr => w_Maker_shut X F hr
  · cases e
    obtain ⟨fd, U⟩ := Z.u_Maker_fence
    exact fok_step U (FunD.bindsN (ps := P_Maker_fence) U fun _ _ _ _ _ _ us hl => match us, hl with | [_], _ => rfl) sc_Maker_fence rfl rfl rfl fun cdv A outer s H E hr => w_Maker_fence X F hr
  · cases e
    obtain ⟨fd, U⟩ := Z.u_Maker_with_word
    exact fok_step U (FunD.bindsN (ps := P_Maker_with_word) U fun _ _ _ _ _ _ us hl => match us, hl with | [_, _, _], _ => rfl) sc_Maker_with_word rfl rfl rfl fun cdv A outer s H E hr => w_Maker_with_word X F hr
  · cases e
    obtain ⟨fd, U⟩ := Z.u_Maker_turns
    exact fok_step U (FunD.bindsN (ps := P_Maker_turns) U fun _ _ _ _ _ _ us hl => match us, hl with | [_, _, _], _ => rfl) sc_Maker_turns rfl rfl rfl fun cdv A outer s H E hr => w_Maker_turns X F hr
  · cases e
    obtain ⟨fd, U⟩ := Z.u_Maker_item
    exact fok_step U (FunD.bindsN (ps := P_Maker_item) U fun _ _ _ _ _ _ us hl => match us, hl with | [_, _, _], _ => rfl) sc_Maker_item rfl rfl rfl fun cdv A outer s H E hr => w_Maker_item X F hr
  · cases e
    obtain ⟨fd, U⟩ := Z.u_spans_of
    exact fok_step U (FunD.bindsN (ps := P_spans_of) U fun _ _ _ _ _ _ us hl => match us, hl with | [_], _ => rfl) sc_spans_of rfl rfl rfl fun cdv A outer s H E hr => w_spans_of X F hr
  · cases e
    obtain ⟨fd, U⟩ := Z.u_pair
    exact fok_step U (FunD.bindsN (ps := P_pair) U fun _ _ _ _ _ _ us hl => match us, hl with | [_, _, _, _, _, _], _ => rfl) sc_pair rfl rfl rfl fun cdv A outer s H E hr => w_pair X F hr
  · cases e
    obtain ⟨fd, U⟩ := Z.u_pairs_of
    exact fok_step U (FunD.bindsN (ps := P_pairs_of) U fun _ _ _ _ _ _ us hl => match us, hl with | [_], _ => rfl) sc_pairs_of rfl rfl rfl fun cdv A outer s H E hr => w_pairs_of X F hr
  · cases e
    obtain ⟨fd, U⟩ := Z.u_sights_of
    exact fok_step U (FunD.bindsN (ps := P_sights_of) U fun _ _ _ _ _ _ us hl => match us, hl with | [_], _ => rfl) sc_sights_of rfl rfl rfl fun cdv A outer s H E hr => w_sights_of X F hr
  · cases e
    obtain ⟨fd, U⟩ := Z.u_rows_at
    exact fok_step U (FunD.bindsN (ps := P_rows_at) U fun _ _ _ _ _ _ us hl => match us, hl with | [_], _ => rfl) sc_rows_at rfl rfl rfl fun cdv A outer s H E hr => w_rows_at X F hr
  · cases e
    obtain ⟨fd, U⟩ := Z.u_all_sights
    exact fok_step U (FunD.bindsN (ps := P_all_sights) U fun _ _ _ _ _ _ us hl => match us, hl with | [_], _ => rfl) sc_all_sights rfl rfl rfl fun cdv A outer s H E hr => w_all_sights X F hr
  · cases e
    obtain ⟨fd, U⟩ := Z.u_checked
    exact fok_step U (FunD.bindsN (ps := P_checked) U fun _ _ _ _ _ _ us hl => match us, hl with | [_, _], _ => rfl) sc_checked rfl rfl rfl fun cdv A outer s H E hr => w_checked X F hr
  · cases e
    obtain ⟨fd, U⟩ := Z.u__law_start
    exact fok_step U (FunD.bindsN (ps := P__law_start) U fun _ _ _ _ _ _ us hl => match us, hl with | [_], _ => rfl) sc__law_start rfl rfl rfl fun cdv A outer s H E hr => w__law_start X F hr
  · cases e
    obtain ⟨fd, U⟩ := Z.u__law_drawn
    exact fok_step U (FunD.bindsN (ps := P__law_drawn) U fun _ _ _ _ _ _ us hl => match us, hl with | [_, _], _ => rfl) sc__law_drawn rfl rfl rfl fun cdv A outer s H E hr => w__law_drawn X F hr
  · cases e
    obtain ⟨fd, U⟩ := Z.u__law_two
    exact fok_step U (FunD.bindsN (ps := P__law_two) U fun _ _ _ _ _ _ us hl => match us, hl with | [_, _, _], _ => rfl) sc__law_two rfl rfl rfl fun cdv A outer s H E hr => w__law_two X F hr
  · cases e
    obtain ⟨fd, U⟩ := Z.u__law_tries
    exact fok_step U (FunD.bindsN (ps := P__law_tries) U fun _ _ _ _ _ _ us hl => match us, hl with | [_, _, _], _ => rfl) sc__law_tries rfl rfl rfl fun cdv A outer s H E hr => w__law_tries X F hr
  · cases e
    obtain ⟨fd, U⟩ := Z.u__law_settled
    exact fok_step U (FunD.bindsN (ps := P__law_settled) U fun _ _ _ _ _ _ us hl => match us, hl with | [_], _ => rfl) sc__law_settled rfl rfl rfl fun cdv A outer s H E hr => w__law_settled X F hr
  · cases e
    obtain ⟨fd, U⟩ := Z.u_law
    exact fok_step U (FunD.bindsN (ps := P_law) U fun _ _ _ _ _ _ us hl => match us, hl with | [_], _ => rfl) sc_law rfl rfl rfl fun cdv A outer s H E hr => w_law X F hr
  · cases e
theorem ft (X : Txt K w mg) (Z : Fus K) : ∀ k, FT P w K mg base k
  | 0 => ft_zero Z
  | k + 1 => ft_step X Z (ft X Z k)
end
/-- what is to be shown in plain Lean -/
def Law : Prop := ∀ ns : List Int, ns.length ≤ 63 → ∃ h : Hea, callF T 100 205 [.scr ns] [] = .ok (.bl true) h
theorem scr_rel {K : PySem.W.Frag} {H : Hp} {a : Addr} {ns : List Int} (h : SqL K H a (ns.map V.int)) : RW K [] (fun _ => False) H (.scr ns) (.ref a) := by
  refine .scr ?_
  rcases h with h | h
  · exact .inl ⟨h, fun z => z⟩
  · exact .inr h
theorem law_sp (L : Law) {K : PySem.W.Frag} {H : Hp} {a : Addr} {ns : List Int} (hl : ns.length ≤ 63) (hS : SqL K H a (ns.map V.int)) : spF K (callF T 100) 205 1 [.ref a] H (fun v _ => v = .bl true) (fun _ _ _ => False) := by
  obtain ⟨h, e⟩ := L ns hl
  have eN : (⟨fun _ => False, [], fun _ => none⟩ : Gh).N = fun _ => False := by
    funext b
    refine propext ⟨fun z => ?_, False.elim⟩
    rcases z with z | z | ⟨_, z⟩
    · exact z
    · cases z
    · cases z
  refine ⟨⟨fun _ => False, [], fun _ => none⟩, [], [.scr ns], fun _ => rfl, rfl, ?_, .cons ?_ .nil, ?_⟩
  · exact {
      len := rfl
      val := fun i w e => nomatch e
      own := fun i w e => nomatch e
      hp := ⟨rfl, fun n o b e => (nomatch e), List.nodup_nil⟩
      oi := fun i j b e => nomatch e
      om := fun i b e => nomatch e
      mn := fun b m => nomatch m
      nn := fun b z => False.elim z }
  · rw [eN]
    exact scr_rel hS
  · rw [e]
    exact fun v mu' H' R S r => r.inv_bl
theorem law_end (L : Law) {P : Program} {w : World} {K : PySem.W.Frag} {mg : Str → Option Value} {h : Heap} (KX : K.In h) (X : Txt K w mg) (Z : Fus K) {fa : Addr} (ea : fa = He.ga K "law") : ∃ (K : PySem.W.Frag) (fd : FuncData) (sp : Sp), K.In h ∧ (∀ (s : Shared) (u : Value), BindsTo s fd ⟨[u], []⟩ [("_law_script", u)]) ∧
    (∀ (H : Hp) (a : Addr) (ns : List Int), ns.length ≤ 63 → Only H → SqL K H a (ns.map V.int) → sp [.ref a] H (fun v _ => v = .bl true) fun _ _ _ => False) ∧ ∀ base : Heap, K.In base → base.Ns mainGlobals mg → FnOk P w K mg base CX0 200 fa fd ["_law_script"] sp := by
  subst ea
  obtain ⟨fd, U⟩ := Z.u_law
  refine ⟨K, fd, fun vs H Q _ => spF K (callF T 100) 205 1 vs H Q fun _ _ _ => False, KX, fun s v => FunD.bindsA (ps := P_law) U (fun _ _ _ _ _ _ us hl => match us, hl with | [_], _ => rfl) s [v] rfl, fun H a ns hl _ hS => law_sp L hl hS, fun base _ _ => fnok_bare ?_⟩
  exact fnok_step (k := 99) (ps := P_law) U (FunD.bindsN (ps := P_law) U fun _ _ _ _ _ _ us hl => match us, hl with | [_], _ => rfl) sc_law rfl rfl rfl fun cdv A outer s H E hr => w_law X (ft X Z 99) hr
end MP
open PySem PySem.W PySem.Calls PyProof.Rows
theorem law_holds (L : MP.Law) : PySem.Challenge.rw_lanemeet_k17_reasons_by_hand.Holds := by
  w_on; o_law
  refine HandSHeadRun.head_any (r := OpenLaw.row PySem.Challenge.rw_lanemeet_k17_reasons_by_hand) (q := view (OpenLaw.row PySem.Challenge.rw_lanemeet_k17_reasons_by_hand).prog [80]) (H := MP.hk) (ob := MP.ob) (M := 9000) (loose := MP.loose) (d := HandSHeadRun.topDef (OpenLaw.row PySem.Challenge.rw_lanemeet_k17_reasons_by_hand).prog 80) (kwd := []) MP.ob_eq
    (by kernel_rfl) (fun s => by kernel_rfl) MP.run (by kernel_rfl) (by kernel_rfl) (by kernel_rfl) (by rfl) (by first | assumption | decide +kernel) (by decide +kernel) ⟨rfl, rfl, rfl, rfl, rfl, by decide +kernel⟩ ?hw ?hc
  case hw => w_witness2
  case hc =>
    refine L2.walk_ofE (l := PySem.Challenge.rw_lanemeet_k17_reasons_by_hand) (n := 63) (k := 200) (x := "_law_script") (CX := L2.CX0) rfl (by decide) (by kernel_rfl) ⟨rfl, by decide, by decide⟩ ?F (fun _ _ _ _ z => z)
    intro w mg fa h Y G hmg0
    obtain ⟨K, KX, c⟩ := Y
    have hmg : mg ("law" : PySem.Str) = some (.ref fa) := by
      have e : (HandSHeadRun.topDef (OpenLaw.row PySem.Challenge.rw_lanemeet_k17_reasons_by_hand).prog 80).name = ("law" : PySem.Str) := by kernel_rfl
      rw [← e]
      exact hmg0
    have X := MP.txt_of KX G c
    have Z := MP.fus_of c
    have ea : fa = He.ga K "law" := by
      have := hmg.symm.trans X.g_law
      cases this
      rfl
    exact MP.law_end L KX X Z ea
end

set_option maxRecDepth 100000 in
set_option maxHeartbeats 0 in
theorem PySem.Challenge.cw_lanemeet_k17_reasons_by_hand_holds : PySem.Challenge.rw_lanemeet_k17_reasons_by_hand.Holds := by
  exact law_holds MP.law_plain
