import PyProof.Rows.All
import PySem.PyData
import PyProof.Fits
import PySem.Spec
import Wide.All
import OpenK.AllK
import Wide.FinOn
import HandS.ForMost
import HandS.Exc
import HandS.WordsExc
import HandS.CallSlots
import HandS.Lambda
import HandS.TupAny
import HandS.RevTup
import HandS.Deep
import HandS.TupMul
import HandS.Flow
import HandS.IsInst
import HandS.NoneIn
import HandS.Zip
import HandS.Conv
import HandS.TupLe
import HandS.Style
import HandS.TupLen
import HandS.DictComp
import HandS.Small
import HandS.More
import HandS.Strs
import KE.KDictZip
import KE.GoesZip
import KE.GoesMore
import KE.GoesEnum
import HandS.SetFor
import PyProof.Rows.SetFrom
import HandS.SetKeys
import HandS.Star
import KE.KExcSuper
import KE.KSuper
import HandS.ExcInit
import HandS.ClsMeth
import HandS.Head0
import HandS.Head1
import HandS.Head2
import HandS.HeadEnd
import HandS.HeadHook1
import HandS.HeadHook2
import HandS.ExcField
import HandS.TryOnly
import HandS.TryMany
import HandS.Defaults
import HandS.EndTab
import HandS.IntHex
import PySem.Challenge.RW_smallwatchers_k38_octets_of_integers_and
set_option Elab.async false
/-! Core: deep plain data, a small store of cells that change, and combinators for a part of Python. -/
set_option linter.all false
namespace Sw
open PySem (Str)

/-- plain data; `loc n`: the cell n of the store; `scr`: the script, that is handed in and stands still; `par`: a pair that a walk gives, to be taken apart at once -/
inductive D where
  | non | bl (b : Bool) | int (i : Int) | str (s : Str) | tup (xs : List D) | lst (xs : List D) | loc (n : Nat) | scr (ns : List Int) | par (xs : List D)
  deriving Inhabited
inductive Cell where
  | lst (xs : List D) | dct (kvs : List (D × D)) | dtt (kvs : List (D × D)) | ins (c : Str) (fs : List (Str × D)) | dlk (kvs : List (D × D)) | llk (xs : List D)
  deriving Inhabited
abbrev Env := List (Option D)
abbrev Store := List Cell
structure Exc where
  cls : Str
  fs : List (Str × D)
abbrev Res (α : Type) := Option (Except Exc α × Store)
abbrev Act (α : Type) := Env → Store → Res α
abbrev Ex := Act D
abbrev Ax := Act (List D)
abbrev Tx := Act Bool
/-- how a statement ends -/
inductive SR where
  | nx (e : Env) | rt (d : D) | bk (e : Env) | ct (e : Env) | ex (x : Exc) (e : Env)
abbrev Sx := Env → Store → Option (SR × Store)
abbrev Fn := List D → Store → Res D

/-! ### looks at data -/
/-- no cell within, at most n deep -/
def okd : Nat → D → Bool
  | _, .non => true | _, .bl _ => true | _, .int _ => true | _, .str _ => true | _, .loc _ => false | _, .scr _ => false | _, .par _ => false
  | 0, .tup _ => false | 0, .lst _ => false
  | n + 1, .tup xs => xs.all (okd n) | n + 1, .lst xs => xs.all (okd n)
abbrev D.ok (d : D) : Bool := okd 60 d
def Cell.ok : Cell → Bool
  | .lst xs => xs.all D.ok
  | .dct kvs => kvs.all fun p => p.1.ok && p.2.ok
  | .dtt kvs => kvs.all fun p => p.1.ok && p.2.ok
  | .ins _ fs => fs.all fun p => p.2.ok
  | .dlk _ => false
  | .llk _ => false
def Exc.ok (x : Exc) : Bool := x.fs.all fun p => p.2.ok
/-- == of Python -/
def eqn : Nat → D → D → Bool
  | _, .non, .non => true
  | _, .bl a, .bl b => a == b
  | _, .bl a, .int j => (if a then 1 else 0) == j
  | _, .int i, .bl b => i == (if b then 1 else 0)
  | _, .int i, .int j => i == j
  | _, .str x, .str y => x == y
  | n + 1, .tup xs, .tup ys => xs.length == ys.length && (xs.zip ys).all fun p => eqn n p.1 p.2
  | n + 1, .lst xs, .lst ys => xs.length == ys.length && (xs.zip ys).all fun p => eqn n p.1 p.2
  | _, _, _ => false
abbrev D.eqv (a b : D) : Bool := eqn 60 a b
/-- a list that stands in a cell is what is in it -/
def see (st : Store) : D → D
  | .loc n => match st[n]? with
    | some (.lst xs) => .lst xs
    | _ => .loc n
  | d => d
def seq? (st : Store) : D → Option (List D)
  | .tup xs => some xs
  | .lst xs => some xs
  | .loc n => match st[n]? with
    | some (.lst xs) => some xs
    | _ => none
  | _ => none
def dct? (st : Store) : D → Option (List (D × D))
  | .loc n => match st[n]? with
    | some (.dct kvs) => some kvs
    | some (.dtt kvs) => some kvs
    | _ => none
  | _ => none
def truth (st : Store) : D → Option Bool
  | .non => some false
  | .bl b => some b
  | .int i => some (i != 0)
  | .str s => some (s.length != 0)
  | .tup xs => some !xs.isEmpty
  | .lst xs => some !xs.isEmpty
  | .loc n => match st[n]? with
    | some (.lst xs) => some !xs.isEmpty
    | _ => none
  | .scr _ => none
  | .par _ => none

/-! ### actions -/
def Act.pure {α : Type} (v : α) : Act α := fun _ st => some (.ok v, st)
def Act.bind {α β : Type} (a : Act α) (f : α → Act β) : Act β := fun e st => match a e st with
  | some (.ok v, st') => f v e st'
  | some (.error x, st') => some (.error x, st')
  | none => none
/-- a look at the store that gives a value or is stuck -/
def look {α : Type} (f : Store → Option α) : Act α := fun _ st => (f st).map fun d => (.ok d, st)

def eVar (i : Nat) : Ex := fun e st => match e[i]? with
  | some (some d) => some (.ok d, st)
  | _ => none
def eC (d : D) : Ex := fun _ st => some (.ok d, st)
def op1 (g : Store → D → Option D) (a : Ex) : Ex := a.bind fun x => look fun st => g st x
def op2 (g : Store → D → D → Option D) (a b : Ex) : Ex := a.bind fun x => b.bind fun y => look fun st => g st x y
def op3 (g : Store → D → D → D → Option D) (a b c : Ex) : Ex := a.bind fun x => b.bind fun y => c.bind fun z => look fun st => g st x y z
/-- arguments, from the left -/
def aNil : Ax := fun _ st => some (.ok [], st)
def aCons (a : Ex) (r : Ax) : Ax := a.bind fun x => r.bind fun xs => Act.pure (x :: xs)
def opA (g : Store → List D → Option D) (a : Ax) : Ex := a.bind fun xs => look fun st => g st xs

/-! ### operators by values -/
def isSmall (i : Int) : Bool := decide (-(2 ^ 64) < i) && decide (i < 2 ^ 64)
def lstOf (st : Store) : D → Option (List D)
  | .lst xs => some xs
  | .loc n => match st[n]? with
    | some (.lst xs) => some xs
    | _ => none
  | _ => none
/-- lists put together, cells among them -/
def addL (st : Store) (x y : D) : Option D := (lstOf st x).bind fun a => (lstOf st y).bind fun b => if a.length + b.length ≤ PySem.sizeLine then some (.lst (a ++ b)) else none
def vAdd (st : Store) : D → D → Option D
  | .int i, .int j => some (.int (i + j))
  | .str a, .str b => if a.length + b.length ≤ PySem.sizeLine then some (.str (a ++ b)) else none
  | .tup a, .tup b => if a.length + b.length ≤ PySem.sizeLine then some (.tup (a ++ b)) else none
  | .lst a, .lst b => if a.length + b.length ≤ PySem.sizeLine then some (.lst (a ++ b)) else none
  | .loc n, e => addL st (.loc n) e
  | .lst a, .loc n => addL st (.lst a) (.loc n)
  | _, _ => none
def vSub (_ : Store) : D → D → Option D
  | .int i, .int j => some (.int (i - j))
  | _, _ => none
def vMul (_ : Store) : D → D → Option D
  | .int i, .int j => if isSmall i || isSmall j then some (.int (i * j)) else none
  | .lst a, .int k => if 0 ≤ k ∧ k < 2 ^ 62 ∧ a.length * k.toNat ≤ PySem.sizeLine then some (.lst (List.replicate k.toNat a).flatten) else none
  | _, _ => none
def vDiv (_ : Store) : D → D → Option D
  | .int i, .int j => if 0 < j ∧ j < 1073741824 then some (.int (i / j)) else none
  | _, _ => none
def vMod (_ : Store) : D → D → Option D
  | .int i, .int j => if 0 < j then some (.int (i % j)) else none
  | _, _ => none
def vPow (_ : Store) : D → D → Option D
  | .int i, .int j => if 0 ≤ j ∧ j ≤ 1000 ∧ isSmall i then some (.int (i ^ j.toNat)) else none
  | _, _ => none
def vNeg (_ : Store) : D → Option D
  | .int i => some (.int (-i))
  | _ => none
def vLt (_ : Store) : D → D → Option D
  | .int i, .int j => some (.bl (decide (i < j)))
  | _, _ => none
def vLe (_ : Store) : D → D → Option D
  | .int i, .int j => some (.bl (decide (i ≤ j)))
  | _, _ => none
def vGt (_ : Store) : D → D → Option D
  | .int i, .int j => some (.bl (decide (j < i)))
  | _, _ => none
def vGe (_ : Store) : D → D → Option D
  | .int i, .int j => some (.bl (decide (j ≤ i)))
  | _, _ => none
def vEq (st : Store) (a b : D) : Option D := if (see st a).ok && (see st b).ok then some (.bl ((see st a).eqv (see st b))) else none
def vNe (st : Store) (a b : D) : Option D := if (see st a).ok && (see st b).ok then some (.bl !((see st a).eqv (see st b))) else none
def vIsN (_ : Store) : D → Option D
  | .non => some (.bl true)
  | _ => some (.bl false)
def vNotN (_ : Store) : D → Option D
  | .non => some (.bl false)
  | _ => some (.bl true)
def vNot (st : Store) (d : D) : Option D := (truth st d).map fun b => .bl !b
/-- is x among xs -/
def mem? (x : D) (xs : List D) : Option Bool := if x.ok && xs.all D.ok then some (xs.any fun y => y.eqv x) else none
def vIn0 (st : Store) (x d : D) : Option D := match d with
  | .str t => match x with
    | .str s => match s.cps.toList with
      | [c] => some (.bl (decide (c ∈ t.cps.toList)))
      | _ => none
    | _ => none
  | d => match seq? st d with
    | some xs => (mem? x xs).map D.bl
    | none => none
def vNin0 (st : Store) (x d : D) : Option D := match vIn0 st x d with
  | some (.bl b) => some (.bl !b)
  | _ => none

/-- a place, of any sign -/
def ix? (n : Nat) (i : Int) : Option Nat := if 0 ≤ i then (if i < n then some i.toNat else none) else if -(n : Int) ≤ i then some (i + n).toNat else none
/-- a key: an int, a text -/
def keyEq : D → D → Bool
  | .int i, .int j => i == j
  | .str a, .str b => a == b
  | _, _ => false
def isKey : D → Bool
  | .int _ => true
  | .str _ => true
  | _ => false
def getKv (kvs : List (D × D)) (k : D) : Option D := (kvs.find? fun p => keyEq p.1 k).map (·.2)
def dctOf (st : Store) : D → Option (List (D × D))
  | .loc n => match st[n]? with
    | some (.dct kvs) => some kvs
    | some (.dlk kvs) => some kvs
    | _ => none
  | _ => none
def vIx0 (st : Store) (d i : D) : Option D := match i with
  | .int k => match d with
    | .str s => (ix? s.cps.toList.length k).bind fun j => (s.cps.toList[j]?).map fun c => .str ⟨#[c]⟩
    | d => (seq? st d).bind fun xs => (ix? xs.length k).bind fun j => xs[j]?
  | _ => none
/-- among a dict's keys, a list's items .. -/
def vIn (st : Store) (x d : D) : Option D := match dctOf st d with
  | some kvs => if isKey x = true then some (.bl (kvs.any fun p => keyEq p.1 x)) else none
  | none => vIn0 st x d
def vNin (st : Store) (x d : D) : Option D := match vIn st x d with
  | some (.bl b) => some (.bl !b)
  | _ => none
def vIx (st : Store) (d i : D) : Option D := match dctOf st d with
  | some kvs => getKv kvs i
  | none => vIx0 st d i
/-- a slice's end as a place among n (dflt where it is left out) -/
def cutAt (n dflt : Nat) : Option Int → Nat
  | none => dflt
  | some v => if v < 0 then (v + (n : Int)).toNat else min v.toNat n
def cut {α : Type} (xs : List α) (lo hi : Option Int) : List α := (xs.drop (cutAt xs.length 0 lo)).take (cutAt xs.length xs.length hi - cutAt xs.length 0 lo)
def vSlice (st : Store) (d : D) (lo hi : Option Int) : Option D := match d with
  | .str s => some (.str ⟨(cut s.cps.toList lo hi).toArray⟩)
  | .tup xs => some (.tup (cut xs lo hi))
  | .scr ns => some (.lst (cut (ns.map D.int) lo hi))
  | d => (seq? st d).map fun xs => .lst (cut xs lo hi)
def vRev (st : Store) (d : D) : Option D := match d with
  | .tup xs => some (.tup xs.reverse)
  | .str s => some (.str ⟨s.cps.toList.reverse.toArray⟩)
  | d => (seq? st d).map fun xs => .lst xs.reverse

/-! ### more expressions -/
/-- a part of a slice -/
abbrev Px := Act (Option Int)
def pNone : Px := fun _ st => some (.ok none, st)
def pSome (a : Ex) : Px := a.bind fun d => match d with
  | .int i => Act.pure (some i)
  | _ => fun _ _ => none
def eSlice (a : Ex) (l h : Px) : Ex := a.bind fun d => l.bind fun lo => h.bind fun hi => look fun st => vSlice st d lo hi
/-- a value as a test -/
def tV (a : Ex) : Tx := a.bind fun d => look fun st => truth st d
def tNot (t : Tx) : Tx := t.bind fun b => Act.pure !b
def tAnd (t u : Tx) : Tx := t.bind fun b => if b = true then u else Act.pure false
def tOr (t u : Tx) : Tx := t.bind fun b => if b = true then Act.pure true else u
def eIf (t : Tx) (a b : Ex) : Ex := t.bind fun k => if k = true then a else b
/-- and, or as values: by truth -/
def eAnd (a b : Ex) : Ex := a.bind fun d => (look fun st => truth st d : Tx).bind fun k => if k = true then b else eC d
def eOr (a b : Ex) : Ex := a.bind fun d => (look fun st => truth st d : Tx).bind fun k => if k = true then eC d else b
def eNotT (t : Ex) : Ex := op1 vNot t
/-- a op b op' c -/
def eChain (g g' : Store → D → D → Option D) (a b c : Ex) : Ex := a.bind fun x => b.bind fun y => (look fun st => g st x y : Ex).bind fun k => match k with
  | .bl true => c.bind fun z => look fun st => g' st y z
  | .bl false => eC (.bl false)
  | _ => fun _ _ => none
def eTup (a : Ax) : Ex := opA (fun _ xs => if xs.length ≤ PySem.sizeLine then some (.tup xs) else none) a
def eLst (a : Ax) : Ex := opA (fun _ xs => if xs.length ≤ PySem.sizeLine then some (.lst xs) else none) a
/-- a new cell -/
def newCell (c : Cell) : Ex := fun _ st => some (.ok (.loc st.length), st ++ [c])
def eLstC (a : Ax) : Ex := a.bind fun xs => if xs.length ≤ PySem.sizeLine then newCell (.lst xs) else fun _ _ => none
/-- a value list becomes a cell's -/
def eDctC : Ex := newCell (.dct [])
def eDctT : Ex := newCell (.dtt [])

/-! ### calls -/
def locIds : List D → List Nat
  | [] => []
  | .loc n :: r => if (locIds r).contains n then locIds r else n :: locIds r
  | _ :: r => locIds r
def inView (ids : List Nat) : D → D
  | .loc n => .loc (ids.idxOf n)
  | d => d
def putBack : List Nat → List Cell → Store → Store
  | n :: ids, c :: cs, st => putBack ids cs (st.set n c)
  | _, _, st => st
def outOf (ids : List Nat) (top : Nat) : D → D
  | .loc m => match ids[m]? with
    | some n => .loc n
    | none => .loc (top + (m - ids.length))
  | d => d
def isTop (d : D) : Bool := match d with | .loc _ => true | .scr _ => true | d => d.ok
def Act.ret {α : Type} (r : Except Exc α) (st : Store) : Res α := some (r, st)
/-- the callee sees the cells that are handed in, and no others -/
def viewCall (F : Fn) (ds : List D) (st : Store) : Res D :=
  let ids := locIds ds
  match ids.mapM (fun n => st[n]?) with
  | none => none
  | some cs => if ds.all isTop && cs.all Cell.ok then
      match F (ds.map (inView ids)) cs with
      | none => none
      | some (r, cs') => if ids.length ≤ cs'.length && cs'.all Cell.ok then
          match r with
          | .ok d => if isTop d then some (.ok (outOf ids st.length d), putBack ids cs' st ++ cs'.drop ids.length) else none
          | .error x => if x.ok then some (.error x, putBack ids cs' st ++ cs'.drop ids.length) else none
        else none
    else none
def eCall (F : Fn) (a : Ax) : Ex := a.bind fun ds => fun _ st => viewCall F ds st
/-- what a def leaves: cells of its own go, but the one that it hands back -/
def clean (n : Nat) (r : Except Exc D) (st : Store) : Res D := if (st.take n).all Cell.ok then
    match r with
    | .error x => if x.ok then some (.error x, st.take n) else none
    | .ok (.loc m) => if m < n then some (.ok (.loc m), st.take n) else match st[m]? with
      | some c => if c.ok then some (.ok (.loc n), st.take n ++ [c]) else none
      | none => none
    | .ok d => if d.ok then some (.ok d, st.take n) else none
  else none
def startE (N : Nat) (ds : List D) : Env := ds.map some ++ List.replicate (N - ds.length) none
/-- a def of n parameters and N names -/
def fn (n N : Nat) (b : Sx) : Fn := fun ds st => if ds.length = n then
    match b (startE N ds) st with
    | some (.nx _, st') => clean st.length (.ok .non) st'
    | some (.rt d, st') => clean st.length (.ok d) st'
    | some (.ex x _, st') => clean st.length (.error x) st'
    | _ => none
  else none

/-! ### statements -/
abbrev Tg := D → Env → Store → Option (Env × Store)
def sSkip : Sx := fun e st => some (.nx e, st)
def sSeq (a b : Sx) : Sx := fun e st => match a e st with
  | some (.nx e', st') => b e' st'
  | r => r
def sDo (a : Ex) : Sx := fun e st => match a e st with
  | some (.ok _, st') => some (.nx e, st')
  | some (.error x, st') => some (.ex x e, st')
  | none => none
def sRet (a : Ex) : Sx := fun e st => match a e st with
  | some (.ok d, st') => some (.rt d, st')
  | some (.error x, st') => some (.ex x e, st')
  | none => none
def sAsg (a : Ex) (g : Tg) : Sx := fun e st => match a e st with
  | some (.ok d, st') => match g d e st' with
    | some (e', st'') => some (.nx e', st'')
    | none => none
  | some (.error x, st') => some (.ex x e, st')
  | none => none
def gName (i : Nat) : Tg := fun d e st => some (e.set i (some d), st)
def gTups : List Tg → List D → Env → Store → Option (Env × Store)
  | [], [], e, st => some (e, st)
  | g :: gs, d :: ds, e, st => match g d e st with
    | some (e', st') => gTups gs ds e' st'
    | none => none
  | _, _, _, _ => none
def gTup (gs : List Tg) : Tg := fun d e st => match d with
  | .tup ds => gTups gs ds e st
  | .lst ds => gTups gs ds e st
  | .par ds => gTups gs ds e st
  | _ => none
def sSet (i : Nat) (a : Ex) : Sx := sAsg a (gName i)
/-- a, b = x, y: both sides written -/
def sPar (gs : List Tg) (a : Ax) : Sx := fun e st => match a e st with
  | some (.ok ds, st') => match gTups gs ds e st' with
    | some (e', st'') => some (.nx e', st'')
    | none => none
  | some (.error x, st') => some (.ex x e, st')
  | none => none
def sIf (c : Tx) (a b : Sx) : Sx := fun e st => match c e st with
  | some (.ok true, st') => a e st'
  | some (.ok false, st') => b e st'
  | some (.error x, st') => some (.ex x e, st')
  | none => none
def sBreak : Sx := fun e st => some (.bk e, st)
def sCont : Sx := fun e st => some (.ct e, st)
def sNever : Sx := fun _ _ => none
def sRaise (c : Str) (ns : List Str) (a : Ax) : Sx := fun e st => match a e st with
  | some (.ok ds, st') => if ds.length = ns.length then some (.ex ⟨c, ns.zip ds⟩ e, st') else none
  | some (.error x, st') => some (.ex x e, st')
  | none => none
def wipe (e : Env) : List Nat → Env
  | [] => e
  | v :: vs => (wipe e vs).set v none
def forL (g : Tg) (vs : List Nat) (b : Sx) : List D → Sx
  | [] => sSkip
  | d :: ds => fun e st => match g d e st with
    | none => none
    | some (e1, st1) => match b e1 st1 with
      | some (.nx e2, st2) => forL g vs b ds (wipe e2 vs) st2
      | some (.ct e2, st2) => forL g vs b ds (wipe e2 vs) st2
      | some (.bk e2, st2) => some (.nx (wipe e2 vs), st2)
      | r => r
/-- for over what stands still -/
def sFor (it : Act (List D)) (g : Tg) (vs : List Nat) (b : Sx) : Sx := fun e st => match it e st with
  | some (.ok ds, st') => forL g vs b ds (wipe e vs) st'
  | some (.error x, st') => some (.ex x e, st')
  | none => none
def whileN (c : Tx) (vs : List Nat) (b : Sx) : Nat → Sx
  | 0 => fun _ _ => none
  | n + 1 => fun e st => match c e st with
    | none => none
    | some (.error x, st1) => some (.ex x e, st1)
    | some (.ok false, st1) => some (.nx e, st1)
    | some (.ok true, st1) => match b e st1 with
      | some (.nx e2, st2) => whileN c vs b n (wipe e2 vs) st2
      | some (.ct e2, st2) => whileN c vs b n (wipe e2 vs) st2
      | some (.bk e2, st2) => some (.nx (wipe e2 vs), st2)
      | r => r
open Classical in
noncomputable def sWhile (c : Tx) (vs : List Nat) (b : Sx) : Sx := fun e st =>
  if h : ∃ n r, whileN c vs b n (wipe e vs) st = some r then whileN c vs b h.choose (wipe e vs) st else none

/-! ### comprehensions -/
def compL (g : Tg) (c : Tx) (y : Ex) : List D → Env → Store → Option (List D × Store)
  | [], _, st => some ([], st)
  | d :: ds, e, st => match g d e st with
    | none => none
    | some (e1, st1) => match c e1 st1 with
      | some (.ok true, st2) => match y e1 st2 with
        | some (.ok v, st3) => match compL g c y ds e st3 with
          | some (vs, st4) => some (v :: vs, st4)
          | none => none
        | _ => none
      | some (.ok false, st2) => compL g c y ds e st2
      | _ => none
def tYes : Tx := fun _ st => some (.ok true, st)
/-- [y for g in it if c]; vs: the places of its own names -/
def eLc (it : Act (List D)) (g : Tg) (vs : List Nat) (c : Tx) (y : Ex) : Ex := it.bind fun ds => fun e st => match compL g c y ds (wipe e vs) st with
  | some (ys, st') => some (.ok (.lst ys), st')
  | none => none

/-! ### what is walked -/
def iSeq (a : Ex) : Act (List D) := a.bind fun d => look fun st => match d with
  | .str s => some (s.cps.toList.map fun c => .str ⟨#[c]⟩)
  | .tup xs => some xs
  | .lst xs => some xs
  | _ => none
def rangeL (lo hi : Int) : List D := (List.range (hi - lo).toNat).map fun (k : Nat) => D.int (lo + (k : Int))
def iRange1 (a : Ex) : Act (List D) := a.bind fun d => look fun _ => match d with
  | .int j => if j ≤ PySem.sizeLine ∧ -(2 ^ 62) ≤ j then some (rangeL 0 j) else none
  | _ => none
def iRange2 (a b : Ex) : Act (List D) := a.bind fun d => b.bind fun d2 => look fun _ => match d, d2 with
  | .int i, .int j => if -(2 ^ 62) ≤ i ∧ i < 2 ^ 62 ∧ -(2 ^ 62) ≤ j ∧ j < 2 ^ 62 ∧ j - i ≤ PySem.sizeLine then some (rangeL i j) else none
  | _, _ => none
def enumL (xs : List D) : List D := xs.mapIdx fun i x => .par [.int i, x]
def iEnum (a : Ex) : Act (List D) := a.bind fun d => look fun st => (seq? st d).map enumL
def zipL (xs ys : List D) : List D := (xs.zip ys).map fun p => .tup [p.1, p.2]
/-- what a walk of zip gives -/
def zipP (xs ys : List D) : List D := (xs.zip ys).map fun p => .par [p.1, p.2]
def iZip (a b : Ex) : Act (List D) := a.bind fun d => b.bind fun d2 => look fun st => (seq? st d).bind fun xs => (seq? st d2).map fun ys => zipP xs ys

/-! ### built-in functions -/
def gLen (st : Store) : List D → Option D
  | [.str s] => some (.int s.length)
  | [d] => match seq? st d with
    | some xs => some (.int xs.length)
    | none => (dct? st d).map fun kvs => .int kvs.length
  | _ => none
def gAbs (_ : Store) : List D → Option D
  | [.int i] => some (.int (if i < 0 then -i else i))
  | _ => none
def gInt (_ : Store) : List D → Option D
  | [.int i] => some (.int i)
  | [.bl b] => some (.int (if b then 1 else 0))
  | _ => none
def bls? : List D → Option (List Bool)
  | [] => some []
  | .bl b :: r => (bls? r).map (b :: ·)
  | _ => none
def ints? : List D → Option (List Int)
  | [] => some []
  | .int b :: r => (ints? r).map (b :: ·)
  | _ => none
def strs? : List D → Option (List Str)
  | [] => some []
  | .str b :: r => (strs? r).map (b :: ·)
  | _ => none
def gAll (st : Store) : List D → Option D
  | [d] => (lstOf st d).bind fun xs => (bls? xs).map fun bs => .bl (bs.all id)
  | _ => none
def gAny (st : Store) : List D → Option D
  | [d] => (lstOf st d).bind fun xs => (bls? xs).map fun bs => .bl (bs.any id)
  | _ => none
def gSum (st : Store) : List D → Option D
  | [d] => (lstOf st d).bind fun xs => (ints? xs).map fun bs => .int bs.sum
  | _ => none
def gList (st : Store) : List D → Option D
  | [d] => (seq? st d).map D.lst
  | _ => none
def gTuple (st : Store) : List D → Option D
  | [d] => (seq? st d).map D.tup
  | _ => none
def gMax2 (_ : Store) : List D → Option D
  | [.int i, .int j] => some (.int (if j > i then j else i))
  | _ => none
def gMin2 (_ : Store) : List D → Option D
  | [.int i, .int j] => some (.int (if j < i then j else i))
  | _ => none
/-- the type's name -/
def tyN (st : Store) : D → Option String
  | .non => some "NoneType" | .bl _ => some "bool" | .int _ => some "int" | .str _ => some "str" | .tup _ => some "tuple" | .lst _ => some "list"
  | .loc n => match st[n]? with
    | some (.lst _) => some "list"
    | some (.dct _) => some "dict"
    | some (.dtt _) => some "dict"
    | _ => none
  | .scr _ => none
  | .par _ => none
def subTy (a b : String) : Bool := a == b || (a == "bool" && b == "int")
def vIsi (ts : List String) (st : Store) (d : D) : Option D := (tyN st d).map fun t => .bl (ts.any fun b => subTy t b)
def iEnumL (a : Ex) : Act (List D) := a.bind fun d => look fun st => match d with
  | .lst xs => some (enumL xs)
  | _ => none
def iZip2 (a b : Ex) : Act (List D) := a.bind fun d => b.bind fun d2 => look fun _ => match d, d2 with
  | .lst xs, .lst ys => some (zipP xs ys)
  | .tup xs, .tup ys => some (zipP xs ys)
  | _, _ => none
def vRevL (st : Store) (d : D) : Option D := (lstOf st d).map fun xs => .lst xs.reverse
end Sw

/-! Sem2: more semantics. -/
set_option linter.all false
set_option maxRecDepth 100000
namespace Sw
open PySem (Str)
/-! ### more semantics -/
def putKv (kvs : List (D × D)) (k v : D) : List (D × D) := if (kvs.any fun p => keyEq p.1 k) = true then kvs.map (fun p => if keyEq p.1 k = true then (p.1, v) else p) else kvs ++ [(k, v)]
/-- o[k] = v -/
def setIx (st : Store) (o k v : D) : Option Store := match o with
  | .loc n => match st[n]? with
    | some (.lst xs) => match k with
      | .int i => (ix? xs.length i).map fun j => st.set n (.lst (xs.set j v))
      | _ => none
    | some (.dct kvs) => if isKey k ∧ kvs.length < PySem.sizeLine then some (st.set n (.dct (putKv kvs k v))) else none
    | _ => none
  | _ => none
def gSet (o i : Ex) : Tg := fun d e st => match o e st with
  | some (.ok x, st1) => match i e st1 with
    | some (.ok k, st2) => (setIx st2 x k d).map fun st3 => (e, st3)
    | _ => none
  | _ => none
/-- a place read -/
def getIx (st : Store) (o k : D) : Option D := match o with
  | .loc n => match st[n]? with
    | some (.lst xs) => match k with
      | .int i => (ix? xs.length i).bind fun j => xs[j]?
      | _ => none
    | some (.dct kvs) => getKv kvs k
    | _ => none
  | _ => none
/-- x op= e -/
def sAug (i : Nat) (f : Store → D → D → Option D) (a : Ex) : Sx := fun e st => match e[i]? with
  | some (some x) => match a e st with
    | some (.ok d, st') => match f st' x d with
      | some z => some (.nx (e.set i (some z)), st')
      | none => none
    | some (.error x, st') => some (.ex x e, st')
    | none => none
  | _ => none
/-- o[k] op= e -/
def sAugS (f : Store → D → D → Option D) (o i a : Ex) : Sx := fun e st => match o e st with
  | some (.ok x, st1) => match i e st1 with
    | some (.ok k, st2) => match getIx st2 x k with
      | some y => match a e st2 with
        | some (.ok d, st3) => match f st3 y d with
          | some z => match setIx st3 x k z with
            | some st4 => some (.nx e, st4)
            | none => none
          | none => none
        | _ => none
      | none => none
    | _ => none
  | _ => none
def eMeth (T : String) (g : Store → D → List D → Option (D × Store)) (a : Ex) (as : Ax) : Ex :=
  a.bind fun x => (look fun st => if tyN st x = some T then some () else none : Act Unit).bind fun _ => as.bind fun xs => fun _ st => (g st x xs).map fun p => (.ok p.1, p.2)
def mAppend (st : Store) : D → List D → Option (D × Store)
  | .loc n, [y] => match st[n]? with
    | some (.lst xs) => if xs.length < PySem.sizeLine then some (.non, st.set n (.lst (xs ++ [y]))) else none
    | _ => none
  | _, _ => none
def mExtend (st : Store) : D → List D → Option (D × Store)
  | .loc n, [y] => match st[n]?, lstOf st y with
    | some (.lst xs), some ys => if xs.length + ys.length ≤ PySem.sizeLine then some (.non, st.set n (.lst (xs ++ ys))) else none
    | _, _ => none
  | _, _ => none
def mPop (st : Store) : D → List D → Option (D × Store)
  | .loc n, [] => match st[n]? with
    | some (.lst xs) => (xs[xs.length - 1]?).map fun y => (y, st.set n (.lst xs.dropLast))
    | _ => none
  | .loc n, [.int i] => match st[n]? with
    | some (.lst xs) => (ix? xs.length i).bind fun j => (xs[j]?).map fun y => (y, st.set n (.lst (xs.eraseIdx j)))
    | _ => none
  | _, _ => none
def aAdd (_ : Store) : D → D → Option D
  | .int i, .int j => some (.int (i + j))
  | _, _ => none
def aSub (_ : Store) : D → D → Option D
  | .int i, .int j => some (.int (i - j))
  | _, _ => none
/-! ### semantics -/
def vZipL (st : Store) (x y : D) : Option D := match x, y with
  | .tup xs, .tup ys => some (.lst (zipL xs ys))
  | x, y => (lstOf st x).bind fun xs => (lstOf st y).map fun ys => .lst (zipL xs ys)
/-- what is sorted -/
def insI (i : Int) : List Int → List Int
  | [] => [i]
  | j :: r => if i ≤ j then i :: j :: r else j :: insI i r
def sortI : List Int → List Int
  | [] => []
  | i :: r => insI i (sortI r)
def leS (x y : Str) : Bool := !PySem.Spec.ltCps y.cps.toList x.cps.toList
def insS (i : Str) : List Str → List Str
  | [] => [i]
  | j :: r => if leS i j = true then i :: j :: r else j :: insS i r
def sortS : List Str → List Str
  | [] => []
  | i :: r => insS i (sortS r)
def sortD (xs : List D) : Option D := match ints? xs with
  | some ns => if ns.length < 64 then some (.lst ((sortI ns).map D.int)) else none
  | none => match strs? xs with
    | some ns => if ns.length < 64 then some (.lst ((sortS ns).map D.str)) else none
    | none => none
def gSorted (st : Store) : List D → Option D
  | [.loc n] => match st[n]? with
    | some (.lst xs) => sortD xs
    | some (.dct kvs) => sortD (kvs.map (·.1))
    | _ => none
  | [.lst xs] => sortD xs
  | _ => none
/-- the items one by one, each at its first place -/
def dedup (xs : List Int) : List Int := xs.foldl (fun acc x => if x ∈ acc then acc else acc ++ [x]) []
def gListC (st : Store) : List D → Option (D × Store)
  | [d] => (seq? st d).map fun xs => (.loc st.length, st ++ [.lst xs])
  | _ => none
def opAS (g : Store → List D → Option (D × Store)) (a : Ax) : Ex := a.bind fun xs => fun _ st => (g st xs).map fun p => (.ok p.1, p.2)
def compD (g : Tg) (c : Tx) (k y : Ex) : List D → Env → Store → List (D × D) → Option (List (D × D) × Store)
  | [], _, st, acc => some (acc, st)
  | d :: ds, e, st, acc => match g d e st with
    | none => none
    | some (e1, st1) => match c e1 st1 with
      | some (.ok true, st2) => match k e1 st2 with
        | some (.ok kd, st3) => if isKey kd = true then match y e1 st3 with
            | some (.ok v, st4) => compD g c k y ds e st4 (putKv acc kd v)
            | _ => none
          else none
        | _ => none
      | some (.ok false, st2) => compD g c k y ds e st2 acc
      | _ => none
def eDc (it : Act (List D)) (g : Tg) (vs : List Nat) (c : Tx) (k y : Ex) : Ex := it.bind fun ds => fun e st => match compD g c k y ds (wipe e vs) st [] with
  | some (kvs, st') => some (.ok (.loc st'.length), st' ++ [.dct kvs])
  | none => none
def vRevA (st : Store) (d : D) : Option D := match d with
  | .tup xs => some (.tup xs.reverse)
  | d => (lstOf st d).map fun xs => .lst xs.reverse
def vSortSet (st : Store) (d : D) : Option D := (lstOf st d).bind fun xs => match ints? xs with
  | some ns => if ns.length < 64 then some (.lst ((sortI (dedup ns)).map D.int)) else none
  | none => none
theorem whileN_more {tc : Tx} {vs : List Nat} {cb : Sx} : ∀ {n m : Nat} {e : Env} {st : Store} {r : SR × Store}, whileN tc vs cb n e st = some r → n ≤ m → whileN tc vs cb m e st = some r
  | 0, _, _, _, _, h, _ => by unfold whileN at h; cases h
  | n + 1, 0, _, _, _, _, h => by omega
  | n + 1, m + 1, e, st, r, h, hl => by
    unfold whileN at h ⊢
    cases hc : tc e st with
    | none => rw [hc] at h; cases h
    | some p =>
      obtain ⟨q, st1⟩ := p
      rw [hc] at h
      cases q with
      | error x => exact h
      | ok b =>
        cases b with
        | false => exact h
        | true =>
          dsimp only at h ⊢
          cases hb : cb e st1 with
          | none => rw [hb] at h; cases h
          | some p2 =>
            obtain ⟨q2, st2⟩ := p2
            rw [hb] at h
            cases q2 with
            | nx e2 => exact whileN_more h (by omega)
            | ct e2 => exact whileN_more h (by omega)
            | bk e2 => exact h
            | rt e2 => exact h
            | ex x e2 => exact h
theorem sWhile_iff {tc : Tx} {vs : List Nat} {cb : Sx} {e : Env} {st : Store} {r : SR × Store} : sWhile tc vs cb e st = some r ↔ ∃ n, whileN tc vs cb n (Sw.wipe e vs) st = some r := by
  unfold sWhile
  constructor
  · intro h
    split at h
    · exact ⟨_, h⟩
    · cases h
  · rintro ⟨n, h⟩
    have hx : ∃ n r, whileN tc vs cb n (Sw.wipe e vs) st = some r := ⟨n, r, h⟩
    rw [dif_pos hx]
    obtain ⟨r', h'⟩ := hx.choose_spec
    rw [h']
    have h1 := whileN_more h (Nat.le_max_left n hx.choose)
    have h2 := whileN_more h' (Nat.le_max_right n hx.choose)
    rw [h1] at h2
    exact h2.symm
theorem insI_perm (i : Int) : ∀ l : List Int, (insI i l).Perm (i :: l)
  | [] => .refl _
  | j :: r => by
    unfold insI
    split
    · exact .refl _
    · exact ((insI_perm i r).cons j).trans (.swap i j r)
theorem sortI_perm : ∀ l : List Int, (sortI l).Perm l
  | [] => .refl _
  | i :: r => (insI_perm i _).trans ((sortI_perm r).cons i)
theorem insI_sorted (i : Int) : ∀ {l : List Int}, l.Pairwise (· ≤ ·) → (insI i l).Pairwise (· ≤ ·)
  | [], _ => by simp [insI]
  | j :: r, h => by
    obtain ⟨h1, h2⟩ := List.pairwise_cons.mp h
    unfold insI
    split
    · rename_i hij
      exact List.pairwise_cons.mpr ⟨fun y hy => by
        rcases List.mem_cons.mp hy with e | e
        · omega
        · have := h1 y e; omega, h⟩
    · rename_i hij
      refine List.pairwise_cons.mpr ⟨fun y hy => ?_, insI_sorted i h2⟩
      rcases List.mem_cons.mp ((insI_perm i r).mem_iff.mp hy) with e | e
      · omega
      · exact h1 y e
theorem sortI_sorted : ∀ l : List Int, (sortI l).Pairwise (· ≤ ·)
  | [] => .nil
  | i :: r => insI_sorted i (sortI_sorted r)
theorem sortI_eq {l m : List Int} (h : m.Perm l) (hs : m.Pairwise (· ≤ ·)) : m = sortI l :=
  List.Perm.eq_of_pairwise (le := (· ≤ ·)) (fun a b _ _ h1 h2 => by omega) hs (sortI_sorted l) (h.trans (sortI_perm l).symm)
end Sw

/-! Sem3: more semantics. -/
set_option linter.all false
set_option maxRecDepth 100000
namespace Sw
open PySem (Str)
/-- the first place of an equal thing -/
def firstIx (xs : List D) (x : D) : Option Nat := if x.ok && xs.all D.ok then xs.findIdx? fun y => y.eqv x else none
def mIndexL (st : Store) (o : D) : List D → Option (D × Store)
  | [x] => (lstOf st o).bind fun xs => (firstIx xs x).map fun j => (.int (j : Nat), st)
  | _ => none
def mIndexT (st : Store) (o : D) : List D → Option (D × Store)
  | [x] => match o with
    | .tup xs => (firstIx xs x).map fun j => (.int (j : Nat), st)
    | _ => none
  | _ => none
/-- a method that lists and tuples have -/
def eMeth2 (gl gt : Store → D → List D → Option (D × Store)) (a : Ex) (as : Ax) : Ex := a.bind fun x => match x with
  | .tup xs => (look fun st => if tyN st (.tup xs) = some "tuple" then some () else none : Act Unit).bind fun _ => as.bind fun ys => fun _ st => (gt st (.tup xs) ys).map fun p => (.ok p.1, p.2)
  | x => (look fun st => if tyN st x = some "list" then some () else none : Act Unit).bind fun _ => as.bind fun ys => fun _ st => (gl st x ys).map fun p => (.ok p.1, p.2)
/-- what dict makes of pairs -/
def mkKv (ps : List (D × D)) : List (D × D) := ps.foldl (fun acc p => putKv acc p.1 p.2) []
def vDictZip (st : Store) (x y : D) : Option (D × Store) := (lstOf st x).bind fun xs => (lstOf st y).bind fun ys => if xs.all isKey then some (.loc st.length, st ++ [.dct (mkKv (xs.zip ys))]) else none
/-- an operation that makes a cell -/
def op2S (g : Store → D → D → Option (D × Store)) (a b : Ex) : Ex := a.bind fun x => b.bind fun y => fun _ st => (g st x y).map fun p => (.ok p.1, p.2)
/-- things one by one, each at its first place -/
def dedupD (xs : List D) : List D := xs.foldl (fun acc x => if acc.any (fun y => keyEq y x) = true then acc else acc ++ [x]) []
def vLenSet (st : Store) (d : D) : Option D := (lstOf st d).bind fun xs => if xs.all isKey = true ∧ xs.length ≤ 4000 then some (.int (dedupD xs).length) else none
/-- a cell and what it is while it is read, not written -/
def lockP : Cell → Option (Cell × Cell)
  | .dct kvs => some (.dct kvs, .dlk kvs)
  | .lst xs => some (.lst xs, .llk xs)
  | _ => none
/-- a statement while the dict, the list that stands at name i is read, not written -/
def sLock (i : Nat) (c : Sx) : Sx := fun e st => match e[i]? with
  | some (some (.loc n)) => match (st[n]?).bind lockP with
    | some (c0, l) => match c e (st.set n l) with
      | some (.ex _ _, _) => none
      | some (r, st') => some (r, st'.set n c0)
      | none => none
    | none => none
  | _ => none
/-- what a locked thing is walked by -/
def walkOf (st : Store) : D → Option (List D)
  | .loc n => match st[n]? with
    | some (.dlk kvs) => some (kvs.map (·.1))
    | some (.llk xs) => some xs
    | _ => none
  | _ => none
def iLocked (a : Ex) : Act (List D) := a.bind fun d => look fun st => walkOf st d
/-- o.get(k, x) -/
def eGet2 (o k x : Ex) : Ex := o.bind fun d => (look fun st => (dctOf st d).map fun _ => () : Act Unit).bind fun _ => k.bind fun y => x.bind fun z => look fun st => (dctOf st d).bind fun kvs => if isKey y = true then some ((getKv kvs y).getD z) else none
/-- *e in an argument list, a display -/
def aStar (a : Ex) (as : Ax) : Ax := a.bind fun d => (look fun st => seq? st d).bind fun xs => as.bind fun ys => fun _ st => some (.ok (xs ++ ys), st)
def vAddC (st : Store) (x y : D) : Option (D × Store) := (lstOf st x).bind fun a => (lstOf st y).bind fun b => if a.length + b.length ≤ PySem.sizeLine then some (.loc st.length, st ++ [.lst (a ++ b)]) else none
/-- pairs of a display -/
abbrev Dx := Act (List (D × D))
def dNil : Dx := fun _ st => some (.ok [], st)
def dCons (k v : Ex) (r : Dx) : Dx := k.bind fun x => v.bind fun y => r.bind fun ps => fun _ st => some (.ok ((x, y) :: ps), st)
def eDisp (p : Dx) : Ex := p.bind fun ps => fun _ st => if ps.all (fun p => isKey p.1) = true ∧ ps.length ≤ 15 then some (.ok (.loc st.length), st ++ [.dct (mkKv ps)]) else none
def enumZ (xs ys : List D) : List D := (xs.zip ys).mapIdx fun i p => .par [.int (i : Nat), .par [p.1, p.2]]
def iEnumZip (a b : Ex) : Act (List D) := a.bind fun d => b.bind fun d2 => look fun _ => match d, d2 with
  | .lst xs, .lst ys => some (enumZ xs ys)
  | _, _ => none
/-- raise C(a, ..) -/
def sRaiseX (c : Str) (ns : List Str) (a : Ax) : Sx := fun e st => match a e st with
  | some (.ok ds, st') => if ds.length = ns.length then some (.ex ⟨c, (ns.zip ds).reverse⟩ e, st') else none
  | some (.error x, st') => some (.ex x e, st')
  | none => none
def eFld (x : Exc) (f : Str) : Ex := fun _ st => match x.fs.lookup f with
  | some d => some (.ok d, st)
  | none => none
/-- try: b / except c as slot i: s -/
def sTry1 (ks : List Str) (c : Str) (i : Option Nat) (b : Sx) (s : Exc → Sx) : Sx := fun e st => match b e st with
  | some (.ex x e1, st1) => if ks.contains x.cls = true then (if x.cls = c then (if x.fs.isEmpty = true then none else match s x (match i with | some i => e1.set i none | none => e1) st1 with
      | some (.nx e2, st2) => some (.nx (match i with | some i => e2.set i none | none => e2), st2)
      | some (.bk e2, st2) => some (.bk (match i with | some i => e2.set i none | none => e2), st2)
      | some (.ct e2, st2) => some (.ct (match i with | some i => e2.set i none | none => e2), st2)
      | some (.rt d, st2) => some (.rt d, st2)
      | _ => none) else some (.ex x e1, st1)) else none
  | r => r
end Sw

/-! SemL: what lambdas handed to a def come to. -/
set_option linter.all false
namespace Sw
open PySem (Str)
/-- x(lambda: ..): b, the def's doing, by what the call of its parameter does; n: how many names the def has -/
def eLam (n : Nat) (b : Ex → Sx) (c : Ex) : Ex := fun e st => match b (fun _ st' => c e st') (List.replicate n none) st with
  | some (.rt d, st') => some (.ok d, st')
  | some (.nx _, st') => some (.ok .non, st')
  | _ => none
/-- try: .. / except c as i: .. in such a def: no name is known there but i's, and the suite returns -/
def sTryL (n : Nat) (ks : List Str) (c : Str) (b : Sx) (s : Exc → Sx) : Sx := fun e st => match b e st with
  | some (.ex x _, st1) => if ks.contains x.cls = true ∧ x.cls = c ∧ x.fs ≠ [] then (match s x (List.replicate n none) st1 with
      | some (.rt d, st2) => some (.rt d, st2)
      | _ => none) else none
  | r => r
end Sw

/-! Rel: how plain data and cells lie in the abstract heap; what an expression's, a statement's combinator is worth. -/
set_option Elab.async false
set_option linter.all false
set_option maxRecDepth 100000
set_option maxHeartbeats 4000000
namespace Sw
open PySem PySem.Spec PyProof.Rows L2

abbrev Frag := PySem.W.Frag
/-- the tables of code objects that are followed, each with the name of its lambdas -/
class LamT where
  T : List (Addr × Str)
variable [LamT]
def strOk (x : Str) : Prop := x.cps.all (· < 0x110000) = true ∧ x.length ≤ sizeLine
/-- the script at a -/
def ScrAt (K : Frag) (B : Addr → Prop) (H : Hp) (a : Addr) (ns : List Int) : Prop := (Rd H a (.lst (ns.map V.int)) ∧ ¬ B a) ∨
  ∃ (o : Obj) (its : Array Value) (n : Nat), K.lookup a = some o ∧ o.cls = .type "list" ∧ o.dict = none ∧ o.data = .seq its n ∧ its.size ≤ sizeLine ∧ Vals (ns.map V.int) its.toList
theorem ScrAt.sq {K : Frag} {B : Addr → Prop} {H : Hp} {a : Addr} {ns : List Int} (h : ScrAt K B H a ns) : SqL K H a (ns.map V.int) := h.imp And.left id
/-- a tuple that has no dict of its own -/
def SqP (K : Frag) (H : Hp) (a : Addr) (xs : List V) : Prop := (∃ o : Obj, H a = some (.frz o (.tup xs)) ∧ o.dict = none ∧ o.cls = .type "tuple") ∨
  ∃ (o : Obj) (its : Array Value) (n : Nat), K.lookup a = some o ∧ o.cls = .type "tuple" ∧ o.dict = none ∧ o.data = .seq its n ∧ its.size ≤ sizeLine ∧ Vals xs its.toList
theorem SqP.t {K : Frag} {H : Hp} {a : Addr} {xs : List V} (h : SqP K H a xs) : SqT K H a xs := by
  rcases h with ⟨o, h, _⟩ | ⟨o, its, n, h1, h2, _, h3⟩
  · exact .inl (.inr ⟨o, h⟩)
  · exact .inr ⟨o, its, n, h1, h2, h3⟩
mutual
inductive RD (K : Frag) (B : Addr → Prop) (φ : List Addr) (H : Hp) : V → D → Prop
  | non : RD K B φ H .non .non
  | bl (b : Bool) : RD K B φ H (.bl b) (.bl b)
  | int (i : Int) : RD K B φ H (.int i) (.int i)
  | str (x : Str) (h : strOk x) : RD K B φ H (.str x) (.str x)
  | tup {a : Addr} {xs : List V} {ds : List D} : SqP K H a xs → RDs K B φ H xs ds → RD K B φ H (.ref a) (.tup ds)
  | par {a : Addr} {xs : List V} {ds : List D} : Rd H a (.tup xs) → RDs K B φ H xs ds → RD K B φ H (.ref a) (.par ds)
  | lst {a : Addr} {xs : List V} {ds : List D} : H a = some (.lst xs) → ¬ B a → RDs K B φ H xs ds → RD K B φ H (.ref a) (.lst ds)
  | loc {a : Addr} {n : Nat} : φ[n]? = some a → RD K B φ H (.ref a) (.loc n)
  | scr {a : Addr} {ns : List Int} : ScrAt K B H a ns → RD K B φ H (.ref a) (.scr ns)
inductive RDs (K : Frag) (B : Addr → Prop) (φ : List Addr) (H : Hp) : List V → List D → Prop
  | nil : RDs K B φ H [] []
  | cons {v : V} {d : D} {vs : List V} {ds : List D} : RD K B φ H v d → RDs K B φ H vs ds → RDs K B φ H (v :: vs) (d :: ds)
end
/-- a key of a dict as it lies -/
def keyD : Key → D
  | .inl i => .int i
  | .inr x => .str x
/-- a key's texts are texts -/
def okKD : D → Prop
  | .str x => strOk x
  | .tup xs => ∀ y ∈ xs, match y with | .str x => strOk x | _ => True
  | _ => True
/-- pairs of a dict -/
inductive RKv (K : Frag) (B : Addr → Prop) (φ : List Addr) (H : Hp) {κ : Type} (kd : κ → D) : List (κ × V) → List (D × D) → Prop
  | nil : RKv K B φ H kd [] []
  | cons {k : κ} {v : V} {d : D} {vs : List (κ × V)} {ds : List (D × D)} : okKD (kd k) → RD K B φ H v d → RKv K B φ H kd vs ds → RKv K B φ H kd ((k, v) :: vs) ((kd k, d) :: ds)
inductive RFs (K : Frag) (B : Addr → Prop) (φ : List Addr) (H : Hp) : List (Str × V) → List (Str × D) → Prop
  | nil : RFs K B φ H [] []
  | cons {k : Str} {v : V} {d : D} {vs : List (Str × V)} {ds : List (Str × D)} : RD K B φ H v d → RFs K B φ H vs ds → RFs K B φ H ((k, v) :: vs) ((k, d) :: ds)
def tupKey (ks : List Key) : D := .tup (ks.map keyD)
def RC (K : Frag) (mg : Str → Option Value) (B : Addr → Prop) (φ : List Addr) (H : Hp) (a : Addr) : Cell → Prop
  | .lst ds => ∃ xs, H a = some (.lst xs) ∧ RDs K B φ H xs ds
  | .dct kvs => ∃ ks, H a = some (.dK ks) ∧ RKv K B φ H keyD ks kvs
  | .dtt kvs => ∃ ks, H a = some (.dT ks) ∧ RKv K B φ H tupKey ks kvs
  | .ins c fs => ∃ C dx vs, mg c = some (.ref C) ∧ H a = some (.ins C dx vs) ∧ RFs K B φ H vs fs
  | .dlk kvs => ∃ o ks, H a = some (.frz o (.dK ks)) ∧ RKv K B φ H keyD ks kvs
  | .llk xs => ∃ o vs, H a = some (.frz o (.lst vs)) ∧ RDs K B φ H vs xs
def NT (o : HO) : Prop := ∀ ps, o ≠ .tbl ps
/-- something stands at a, that is no table -/
def Sd (H : Hp) (a : Addr) : Prop := ∃ o, H a = some o ∧ NT o
theorem nSd {H : Hp} {a : Addr} (h : H a = none) : ¬ Sd H a := fun ⟨o, e, _⟩ => by rw [h] at e; cases e
theorem Sd.upd {H : Hp} {a p : Addr} {o : HO} (nt : NT o) (s : Sd H a) : Sd (L2.upd H p o) a := by
  by_cases z : a = p
  · exact ⟨o, by rw [z, upd_same], nt⟩
  · obtain ⟨q, h, n⟩ := s
    exact ⟨q, by rw [upd_ne z]; exact h, n⟩
theorem Sd.new {H : Hp} {a p : Addr} {o : HO} (hp : H p = none) (s : Sd H a) : Sd (L2.upd H p o) a := by
  obtain ⟨q, h, n⟩ := s
  exact ⟨q, by rw [upd_ne (ne_of_none h hp)]; exact h, n⟩
structure RS (K : Frag) (mg : Str → Option Value) (B : Addr → Prop) (φ : List Addr) (H : Hp) (st : Store) : Prop where
  len : φ.length = st.length
  nd : φ.Nodup
  sub : ∀ a, a ∈ φ → B a
  sd : ∀ a, B a → Sd H a
  at_ : ∀ (n : Nat) (c : Cell), st[n]? = some c → ∃ a, φ[n]? = some a ∧ RC K mg B φ H a c
  tabs : LamX.Tabs LamT.T H
/-- from one state on to another -/
structure Go (φ : List Addr) (B : Addr → Prop) (H : Hp) (φ' : List Addr) (B' : Addr → Prop) (H' : Hp) : Prop where
  sub : ∀ a, a ∈ φ → B a
  keep : ∀ a o, H a = some o → a ∉ φ → NT o → H' a = some o
  pre : φ <+: φ'
  mono : ∀ a, B a → B' a
  fresh : ∀ a, B' a → B a ∨ ¬ Sd H a
  inφ : ∀ a, a ∈ φ' → a ∈ φ ∨ ¬ Sd H a
  frz : ∀ a o u, H a = some (.frz o u) → H' a = some (.frz o u)
def REnv (K : Frag) (B : Addr → Prop) (φ : List Addr) (H : Hp) (σ : L2.St) (e : Env) : Prop :=
  σ.length = e.length ∧ ∀ (i : Nat) (d : D), e[i]? = some (some d) → ∃ v, σ[i]? = some (some v) ∧ RD K B φ H v d
/-- an exception as it flies -/
def RX (K : Frag) (mg : Str → Option Value) (B : Addr → Prop) (φ : List Addr) (H : Hp) (x : Exc) (cls : Value) (dx : Option Addr) : Prop :=
  ∃ C, mg x.cls = some (.ref C) ∧ cls = .ref C ∧ ((x.fs = [] ∧ dx = none) ∨ ∃ d vs, dx = some d ∧ H d = some (.xd vs) ∧ RFs K B φ H vs x.fs)

theorem nodupIx {α : Type} {l : List α} {i j : Nat} {a : α} (nd : l.Nodup) (h1 : l[i]? = some a) (h2 : l[j]? = some a) : i = j := by
  induction l generalizing i j with
  | nil => simp at h1
  | cons x t ih =>
    have nx := (List.nodup_cons.mp nd).1
    cases i with
    | zero => cases j with
      | zero => rfl
      | succ j => simp at h1 h2; subst h1; exact absurd (List.mem_of_getElem? h2) nx
    | succ i => cases j with
      | zero => simp at h1 h2; subst h2; exact absurd (List.mem_of_getElem? h1) nx
      | succ j => exact congrArg (· + 1) (ih (List.nodup_cons.mp nd).2 (by simpa using h1) (by simpa using h2))
section
variable {K : Frag} {mg : Str → Option Value} {B B' B2 : Addr → Prop} {φ φ' φ2 : List Addr} {H H' H2 : Hp} {st st' : Store}
theorem Go.refl (rs : RS K mg B φ H st) : Go φ B H φ B H := ⟨rs.sub, fun _ _ h _ _ => h, List.prefix_refl _, fun _ h => h, fun _ h => .inl h, fun _ h => .inl h, fun _ _ _ h => h⟩
theorem Go.none (g : Go φ B H φ' B' H') {a : Addr} (e : ¬ Sd H' a) (na : a ∉ φ) : ¬ Sd H a := fun ⟨o, h, nt⟩ => e ⟨o, g.keep a o h na nt, nt⟩
theorem Go.trans (g : Go φ B H φ' B' H') (g2 : Go φ' B' H' φ2 B2 H2) : Go φ B H φ2 B2 H2 := by
  refine ⟨g.sub, fun a o h na nt => g2.keep a o (g.keep a o h na nt) (fun hm => ?_) nt, g.pre.trans g2.pre, fun a h => g2.mono a (g.mono a h), fun a h => ?_, fun a h => ?_, fun a o u h => g2.frz a o u (g.frz a o u h)⟩
  · rcases g.inφ a hm with z | z
    · exact na z
    · exact z ⟨o, h, nt⟩
  · by_cases hm : a ∈ φ
    · exact .inl (g.sub a hm)
    · rcases g2.fresh a h with z | z
      · exact g.fresh a z
      · exact .inr (g.none z hm)
  · by_cases hm : a ∈ φ
    · exact .inl hm
    · rcases g2.inφ a h with z | z
      · exact g.inφ a z
      · exact .inr (g.none z hm)
def isMut : HO → Prop
  | .lst _ => True | .dK _ => True | .dT _ => True | .ins _ _ _ => True | .frz _ (.dK _) => True | .frz _ (.lst _) => True | _ => False
/-- a tuple -/
def isT : HO → Prop
  | .tup _ => True | _ => False
theorem RC.mut {a : Addr} {c : Cell} (h : RC K mg B φ H a c) : ∃ o, H a = some o ∧ isMut o := by
  cases c with
  | lst ds => obtain ⟨xs, e, _⟩ := h; exact ⟨_, e, trivial⟩
  | dct kvs => obtain ⟨ks, e, _⟩ := h; exact ⟨_, e, trivial⟩
  | dtt kvs => obtain ⟨ks, e, _⟩ := h; exact ⟨_, e, trivial⟩
  | ins c fs => obtain ⟨C, dx, vs, _, e, _⟩ := h; exact ⟨_, e, trivial⟩
  | dlk kvs => obtain ⟨o, ks, e, _⟩ := h; exact ⟨_, e, trivial⟩
  | llk xs => obtain ⟨o, ks, e, _⟩ := h; exact ⟨_, e, trivial⟩
theorem RS.mut (rs : RS K mg B φ H st) {a : Addr} (h : a ∈ φ) : ∃ o, H a = some o ∧ isMut o := by
  obtain ⟨n, hn, e⟩ := List.mem_iff_getElem.mp h
  have hn' : n < st.length := by rw [← rs.len]; exact hn
  obtain ⟨b, e1, rc⟩ := rs.at_ n st[n] (List.getElem?_eq_getElem hn')
  have : b = a := by
    rw [List.getElem?_eq_getElem hn, e] at e1
    exact (Option.some.inj e1).symm
  subst this
  exact rc.mut
theorem RS.notTup (rs : RS K mg B φ H st) {a : Addr} {xs : List V} (h : Rd H a (.tup xs)) : a ∉ φ := fun hm => by
  obtain ⟨o, e, m⟩ := rs.mut hm
  rcases h with h | ⟨q, h⟩ <;> (rw [h] at e; cases e; exact m)
theorem rd_nt {a : Addr} {o : HO} {xs : List V} (e : H a = some o) (h : Rd H a (.tup xs)) : NT o := fun ps z => by
  subst z
  rcases h with h | ⟨q, h⟩ <;> (rw [h] at e; cases e)
theorem RS.tabsOn (rs : RS K mg B φ H st) (k : ∀ a o, H a = some o → a ∉ φ → H' a = some o) : LamX.Tabs LamT.T H' := fun p hp => by
  obtain ⟨ps, h1, h2, h3⟩ := rs.tabs p hp
  refine ⟨ps, k _ _ h1 (fun hm => ?_), h2, fun pos cv hc => ?_⟩
  · obtain ⟨o, e, m⟩ := rs.mut hm
    rw [h1] at e; cases e; exact m
  · obtain ⟨c, e1, e2⟩ := h3 pos cv hc
    refine ⟨c, e1, k _ _ e2 fun hm => ?_⟩
    obtain ⟨o, e, m⟩ := rs.mut hm
    rw [e2] at e; cases e; exact m
theorem RS.there (rs : RS K mg B φ H st) (a : Addr) (ha : B a) : H a ≠ none := fun h => nSd h (rs.sd a ha)
theorem isMut.nt {o : HO} (h : isMut o) : NT o := fun ps z => by subst z; exact h
theorem RS.tabsNe (rs : RS K mg B φ H st) {p : Addr} {o o' : HO} (hp : H p = some o) (hm : isMut o) : LamX.Tabs LamT.T (upd H p o') := fun q hq => by
  obtain ⟨ps, h1, h2, h3⟩ := rs.tabs q hq
  refine ⟨ps, ?_, h2, fun pos cv hc => ?_⟩
  · rw [upd_ne (fun z => ?_)]
    · exact h1
    · rw [z, hp] at h1; cases h1; exact hm
  · obtain ⟨c, e1, e2⟩ := h3 pos cv hc
    refine ⟨c, e1, ?_⟩
    rw [upd_ne (fun z => ?_)]
    · exact e2
    · rw [z, hp] at e2; cases e2; exact hm
theorem RS.tabsNew (rs : RS K mg B φ H st) {p : Addr} {o' : HO} (hp : H p = none) : LamX.Tabs LamT.T (upd H p o') := rs.tabsOn fun a q e _ => by rw [upd_ne (ne_of_none e hp)]; exact e
theorem RS.tblφ (rs : RS K mg B φ H st) {a : Addr} {ps : Array Value} (h : H a = some (.tbl ps)) : a ∉ φ := fun hm => by
  obtain ⟨o, e, m⟩ := rs.mut hm
  rw [h] at e; cases e; exact m
/-- what is kept: reading on -/
structure Keeps (P : Addr → Prop) (H H' : Hp) : Prop where
  keep : ∀ a o, H a = some o → ¬ P a → H' a = some o
theorem Rd.go {u : HO} {a : Addr} (k : ∀ o, H a = some o → H' a = some o) (h : Rd H a u) : Rd H' a u := by
  rcases h with h | ⟨q, h⟩
  · exact .inl (k _ h)
  · exact .inr ⟨q, k _ h⟩
mutual
/-- the relation goes on, where tuples and lists that are no one's stay -/
theorem RD.on (ht : ∀ a xs, Rd H a (.tup xs) → Rd H' a (.tup xs)) (hl : ∀ a xs, H a = some (.lst xs) → ¬ B a → H' a = some (.lst xs) ∧ ¬ B' a) (hz : ∀ a o u, H a = some (.frz o u) → isT u ∨ ¬ B a → H' a = some (.frz o u) ∧ (¬ B a → ¬ B' a)) (hp : ∀ (n : Nat) a, φ[n]? = some a → φ'[n]? = some a) :
    ∀ {v : V} {d : D}, RD K B φ H v d → RD K B' φ' H' v d
  | _, _, .non => .non
  | _, _, .bl b => .bl b
  | _, _, .int i => .int i
  | _, _, .str x h => .str x h
  | _, _, .tup s r => .tup (s.imp (fun ⟨o, e, q⟩ => ⟨o, (hz _ _ _ e (.inl trivial)).1, q⟩) id) (RDs.on ht hl hz hp r)
  | _, _, .par s r => .par (ht _ _ s) (RDs.on ht hl hz hp r)
  | _, _, .lst s n r => .lst (hl _ _ s n).1 (hl _ _ s n).2 (RDs.on ht hl hz hp r)
  | _, _, .loc h => .loc (hp _ _ h)
  | _, _, .scr h => .scr (h.imp (fun ⟨e, nb⟩ => match e with
    | .inl e => ⟨.inl (hl _ _ e nb).1, (hl _ _ e nb).2⟩
    | .inr ⟨o, e⟩ => ⟨.inr ⟨o, (hz _ _ _ e (.inr nb)).1⟩, (hz _ _ _ e (.inr nb)).2 nb⟩) id)
theorem RDs.on (ht : ∀ a xs, Rd H a (.tup xs) → Rd H' a (.tup xs)) (hl : ∀ a xs, H a = some (.lst xs) → ¬ B a → H' a = some (.lst xs) ∧ ¬ B' a) (hz : ∀ a o u, H a = some (.frz o u) → isT u ∨ ¬ B a → H' a = some (.frz o u) ∧ (¬ B a → ¬ B' a)) (hp : ∀ (n : Nat) a, φ[n]? = some a → φ'[n]? = some a) :
    ∀ {vs : List V} {ds : List D}, RDs K B φ H vs ds → RDs K B' φ' H' vs ds
  | _, _, .nil => .nil
  | _, _, .cons r t => .cons (RD.on ht hl hz hp r) (RDs.on ht hl hz hp t)
end
theorem pre_get {n : Nat} {a : Addr} (p : φ <+: φ') (h : φ[n]? = some a) : φ'[n]? = some a := by
  obtain ⟨t, rfl⟩ := p
  have := (List.getElem?_eq_some_iff.mp h).1
  rw [List.getElem?_append_left this]; exact h
section
variable (rs : RS K mg B φ H st) (g : Go φ B H φ' B' H')
include rs g
theorem Go.tupOn (a : Addr) (xs : List V) (h : Rd H a (.tup xs)) : Rd H' a (.tup xs) := Rd.go (fun o e => g.keep a o e (rs.notTup h) (rd_nt e h)) h
theorem Go.lstOn (a : Addr) (xs : List V) (h : H a = some (.lst xs)) (nb : ¬ B a) : H' a = some (.lst xs) ∧ ¬ B' a := by
  refine ⟨g.keep a _ h (fun hm => nb (g.sub a hm)) (fun _ z => by cases z), fun hb => ?_⟩
  rcases g.fresh a hb with z | z
  · exact nb z
  · exact z ⟨_, h, fun _ z => by cases z⟩
omit rs in
theorem Go.frzOn (a : Addr) (o : Obj) (u : HO) (h : H a = some (.frz o u)) (_ : isT u ∨ ¬ B a) : H' a = some (.frz o u) ∧ (¬ B a → ¬ B' a) := ⟨g.frz a o u h, fun nb hb => (g.fresh a hb).elim nb fun z => z ⟨_, h, fun _ z => by cases z⟩⟩
theorem RD.go {v : V} {d : D} (r : RD K B φ H v d) : RD K B' φ' H' v d := RD.on (g.tupOn rs) (g.lstOn rs) g.frzOn (fun _ _ h => pre_get g.pre h) r
theorem RDs.go {vs : List V} {ds : List D} (r : RDs K B φ H vs ds) : RDs K B' φ' H' vs ds := RDs.on (g.tupOn rs) (g.lstOn rs) g.frzOn (fun _ _ h => pre_get g.pre h) r
theorem REnv.go {σ : L2.St} {e : Env} (r : REnv K B φ H σ e) : REnv K B' φ' H' σ e := ⟨r.1, fun i d h => by
  obtain ⟨v, h1, h2⟩ := r.2 i d h
  exact ⟨v, h1, RD.go rs g h2⟩⟩
end
theorem RKv.on {κ : Type} {kd : κ → D} (f : ∀ {v d}, RD K B φ H v d → RD K B' φ' H' v d) : ∀ {vs : List (κ × V)} {ds : List (D × D)}, RKv K B φ H kd vs ds → RKv K B' φ' H' kd vs ds
  | _, _, .nil => .nil
  | _, _, .cons o r t => .cons o (f r) (RKv.on f t)
theorem RFs.on (f : ∀ {v d}, RD K B φ H v d → RD K B' φ' H' v d) : ∀ {vs : List (Str × V)} {ds : List (Str × D)}, RFs K B φ H vs ds → RFs K B' φ' H' vs ds
  | _, _, .nil => .nil
  | _, _, .cons r t => .cons (f r) (RFs.on f t)
theorem RC.on {a : Addr} {c : Cell} (f : ∀ {v d}, RD K B φ H v d → RD K B' φ' H' v d) (fs : ∀ {v d}, RDs K B φ H v d → RDs K B' φ' H' v d) (k : H' a = H a) (h : RC K mg B φ H a c) : RC K mg B' φ' H' a c := by
  cases c with
  | lst ds => obtain ⟨xs, e, r⟩ := h; exact ⟨xs, k.trans e, fs r⟩
  | dct kvs => obtain ⟨ks, e, r⟩ := h; exact ⟨ks, k.trans e, r.on f⟩
  | dtt kvs => obtain ⟨ks, e, r⟩ := h; exact ⟨ks, k.trans e, r.on f⟩
  | ins c fs => obtain ⟨C, dx, vs, m, e, r⟩ := h; exact ⟨C, dx, vs, m, k.trans e, r.on f⟩
  | dlk kvs => obtain ⟨o, ks, e, r⟩ := h; exact ⟨o, ks, k.trans e, r.on f⟩
  | llk xs => obtain ⟨o, ks, e, r⟩ := h; exact ⟨o, ks, k.trans e, fs r⟩
theorem RDs.length : ∀ {vs : List V} {ds : List D}, RDs K B φ H vs ds → vs.length = ds.length
  | _, _, .nil => rfl
  | _, _, .cons _ t => congrArg (· + 1) (RDs.length t)
theorem RDs.append : ∀ {vs ws : List V} {ds es : List D}, RDs K B φ H vs ds → RDs K B φ H ws es → RDs K B φ H (vs ++ ws) (ds ++ es)
  | _, _, _, _, .nil, r => r
  | _, _, _, _, .cons r t, q => .cons r (RDs.append t q)
theorem RDs.get : ∀ {vs : List V} {ds : List D} {i : Nat} {d : D}, RDs K B φ H vs ds → ds[i]? = some d → ∃ v, vs[i]? = some v ∧ RD K B φ H v d
  | _, _, _, _, .nil, e => by simp at e
  | _, _, 0, _, .cons r _, e => by simp at e; subst e; exact ⟨_, rfl, r⟩
  | _, _, i + 1, d, .cons _ t, e => by
    obtain ⟨v, h1, h2⟩ := RDs.get (i := i) (d := d) t (by simpa using e)
    exact ⟨v, by simpa using h1, h2⟩
theorem RDs.take : ∀ {vs : List V} {ds : List D} (n : Nat), RDs K B φ H vs ds → RDs K B φ H (vs.take n) (ds.take n)
  | _, _, 0, _ => .nil
  | _, _, _ + 1, .nil => .nil
  | _, _, n + 1, .cons r t => .cons r (RDs.take n t)
theorem RDs.drop : ∀ {vs : List V} {ds : List D} (n : Nat), RDs K B φ H vs ds → RDs K B φ H (vs.drop n) (ds.drop n)
  | _, _, 0, r => r
  | _, _, _ + 1, .nil => .nil
  | _, _, n + 1, .cons _ t => RDs.drop n t
theorem RDs.reverse {vs : List V} {ds : List D} (h : RDs K B φ H vs ds) : RDs K B φ H vs.reverse ds.reverse := by
  induction vs generalizing ds with
  | nil => cases h; exact .nil
  | cons v vs ih =>
    cases h with
    | cons r t =>
      rw [List.reverse_cons, List.reverse_cons]
      exact RDs.append (ih t) (.cons r .nil)
theorem RDs.rep {vs : List V} {ds : List D} (h : RDs K B φ H vs ds) : ∀ k : Nat, RDs K B φ H (List.replicate k vs).flatten (List.replicate k ds).flatten
  | 0 => .nil
  | k + 1 => by
    rw [List.replicate_succ, List.replicate_succ, List.flatten_cons, List.flatten_cons]
    exact RDs.append h (RDs.rep h k)
theorem RDs.set {v : V} {d : D} (r : RD K B φ H v d) : ∀ {vs : List V} {ds : List D} (i : Nat), RDs K B φ H vs ds → RDs K B φ H (vs.set i v) (ds.set i d)
  | _, _, _, .nil => .nil
  | _, _, 0, .cons _ t => .cons r t
  | _, _, i + 1, .cons q t => .cons q (RDs.set r i t)
theorem RDs.eraseIdx : ∀ {vs : List V} {ds : List D} (i : Nat), RDs K B φ H vs ds → RDs K B φ H (vs.eraseIdx i) (ds.eraseIdx i)
  | _, _, _, .nil => .nil
  | _, _, 0, .cons _ t => t
  | _, _, i + 1, .cons q t => .cons q (RDs.eraseIdx i t)
theorem RDs.dropLast {vs : List V} {ds : List D} (h : RDs K B φ H vs ds) : RDs K B φ H vs.dropLast ds.dropLast := by
  rw [List.dropLast_eq_take, List.dropLast_eq_take, h.length]; exact h.take _
theorem RDs.ints : ∀ {vs : List V} {ns : List Int}, RDs K B φ H vs (ns.map D.int) → vs = ns.map V.int
  | _, [], h => by cases h; rfl
  | _, n :: ns, h => by
    cases h with
    | cons r t => cases r; rw [RDs.ints t]; rfl
theorem RDs.bls : ∀ {vs : List V} {ns : List Bool}, RDs K B φ H vs (ns.map D.bl) → vs = ns.map V.bl
  | _, [], h => by cases h; rfl
  | _, n :: ns, h => by
    cases h with
    | cons r t => cases r; rw [RDs.bls t]; rfl

/-! ### three steps: a new thing, a new cell, a cell written -/
/-- the relation where one address alone has changed, which is no tuple's and no value list's -/
theorem RD.upd {a : Addr} {o : HO} (ha : ∀ xs, ¬ Rd H a (.tup xs)) (hb : (∀ xs, ¬ H a = some (.lst xs)) ∨ B a) (hc : ∀ q u, H a = some (.frz q u) → ¬ isT u ∧ B a) {v : V} {d : D} (r : RD K B φ H v d) : RD K B φ (upd H a o) v d := by
  refine RD.on (fun b xs h => ?_) (fun b xs h nb => ?_) (fun b q u h su => ?_) (fun _ _ h => h) r
  · have : b ≠ a := fun e => ha xs (e ▸ h)
    exact Rd.go (fun q e => by rw [upd_ne this]; exact e) h
  · have : b ≠ a := fun e => by
      subst e
      rcases hb with z | z
      · exact z xs h
      · exact nb z
    exact ⟨by rw [upd_ne this]; exact h, nb⟩
  · have : b ≠ a := fun e => by
      obtain ⟨h1, h2⟩ := hc q u (e ▸ h)
      exact su.elim h1 fun z => z (e ▸ h2)
    exact ⟨by rw [upd_ne this]; exact h, id⟩
theorem none_rd {a : Addr} (h : H a = none) (u : HO) : ¬ Rd H a u := fun z => by
  rcases z with z | ⟨q, z⟩ <;> (rw [h] at z; cases z)
/-- a new thing that is no cell -/
theorem RS.newThing (rs : RS K mg B φ H st) {p : Addr} {o : HO} (hp : H p = none) : RS K mg B φ (upd H p o) st ∧ Go φ B H φ B (upd H p o) := by
  have g : Go φ B H φ B (upd H p o) := ⟨rs.sub, fun a q e _ _ => by rw [upd_ne (ne_of_none e hp)]; exact e, List.prefix_refl _, fun _ h => h, fun _ h => .inl h, fun _ h => .inl h, fun a q u e => by rw [upd_ne (ne_of_none e hp)]; exact e⟩
  refine ⟨⟨rs.len, rs.nd, rs.sub, fun a ha => (rs.sd a ha).new hp, fun n c e => ?_, rs.tabsOn fun a q e _ => by rw [upd_ne (ne_of_none e hp)]; exact e⟩, g⟩
  · obtain ⟨a, e1, rc⟩ := rs.at_ n c e
    obtain ⟨q, hq, _⟩ := rc.mut
    exact ⟨a, e1, rc.on (RD.go rs g) (RDs.go rs g) (upd_ne (ne_of_none hq hp))⟩
/-- a new cell -/
theorem RS.newCell (rs : RS K mg B φ H st) {p : Addr} {o : HO} {c : Cell} (hp : H p = none) (hm : isMut o) (hc : ∀ H1, (∀ {v d}, RD K B φ H v d → RD K (fun a => B a ∨ a = p) (φ ++ [p]) H1 v d) → H1 p = some o → RC K mg (fun a => B a ∨ a = p) (φ ++ [p]) H1 p c) :
    RS K mg (fun a => B a ∨ a = p) (φ ++ [p]) (L2.upd H p o) (st ++ [c]) ∧ Go φ B H (φ ++ [p]) (fun a => B a ∨ a = p) (L2.upd H p o) := by
  have npφ : p ∉ φ := fun hm => rs.there p (rs.sub p hm) hp
  have g : Go φ B H (φ ++ [p]) (fun a => B a ∨ a = p) (L2.upd H p o) := ⟨rs.sub, fun a q e _ _ => by rw [upd_ne (ne_of_none e hp)]; exact e, List.prefix_append _ _, fun _ h => .inl h,
    fun a h => h.imp id (fun e => by rw [e]; exact nSd hp), fun a h => by
      rcases List.mem_append.mp h with z | z
      · exact .inl z
      · have : a = p := by simpa using z
        exact .inr (by rw [this]; exact nSd hp), fun a q u e => by rw [upd_ne (ne_of_none e hp)]; exact e⟩
  refine ⟨⟨by simp [rs.len], ?_, fun a h => ?_, fun a ha => ha.elim (fun h => (rs.sd a h).new hp) (fun h => by rw [h]; exact ⟨o, upd_same, hm.nt⟩), fun n c' e => ?_, rs.tabsOn fun a q e _ => by rw [upd_ne (ne_of_none e hp)]; exact e⟩, g⟩
  · rw [List.nodup_append]
    exact ⟨rs.nd, by simp, fun a ha b hb e => by
      have : b = p := by simpa using hb
      exact npφ (by rw [← this, ← e]; exact ha)⟩
  · rcases List.mem_append.mp h with z | z
    · exact .inl (rs.sub a z)
    · exact .inr (by simpa using z)
  · by_cases hn : n < st.length
    · rw [List.getElem?_append_left hn] at e
      obtain ⟨a, e1, rc⟩ := rs.at_ n c' e
      obtain ⟨q, hq, _⟩ := rc.mut
      exact ⟨a, pre_get g.pre e1, rc.on (RD.go rs g) (RDs.go rs g) (upd_ne (ne_of_none hq hp))⟩
    · rw [List.getElem?_append_right (by omega)] at e
      have hz : n - st.length = 0 := by
        rcases Nat.eq_zero_or_pos (n - st.length) with z | z
        · exact z
        · rw [List.getElem?_eq_none (by simp; omega)] at e; cases e
      rw [hz] at e
      simp at e
      subst e
      refine ⟨p, ?_, hc _ (RD.go rs g) upd_same⟩
      rw [List.getElem?_append_right (by rw [rs.len]; omega), rs.len, hz]
      rfl
/-- a cell is written -/
theorem RS.write (rs : RS K mg B φ H st) {n : Nat} {a : Addr} {o : HO} {c : Cell} (hn : φ[n]? = some a) (hf : ∀ q u, H a ≠ some (.frz q u)) (hm : isMut o) (hc : ∀ H1, (∀ {v d}, RD K B φ H v d → RD K B φ H1 v d) → H1 a = some o → RC K mg B φ H1 a c) :
    RS K mg B φ (L2.upd H a o) (st.set n c) ∧ Go φ B H φ B (L2.upd H a o) := by
  have ha : a ∈ φ := List.mem_of_getElem? hn
  obtain ⟨o0, e0, m0⟩ := rs.mut ha
  have g : Go φ B H φ B (L2.upd H a o) := ⟨rs.sub, fun b q e nb _ => by rw [upd_ne (fun z => nb (by rw [z]; exact ha))]; exact e, List.prefix_refl _, fun _ h => h, fun _ h => .inl h, fun _ h => .inl h, fun b q u e => by rw [upd_ne (fun z => hf q u (by rw [← z]; exact e))]; exact e⟩
  refine ⟨⟨by simp [rs.len], rs.nd, rs.sub, fun b hb => (rs.sd b hb).upd hm.nt, fun m c' e => ?_, rs.tabsOn fun b q e nb => by rw [upd_ne (fun z => nb (by rw [z]; exact ha))]; exact e⟩, g⟩
  · by_cases hmn : m = n
    · subst hmn
      have hl : m < st.length := by rw [← rs.len]; exact (List.getElem?_eq_some_iff.mp hn).1
      rw [List.getElem?_set_self hl] at e
      cases e
      exact ⟨a, hn, hc _ (RD.go rs g) upd_same⟩
    · rw [List.getElem?_set_ne (Ne.symm hmn)] at e
      obtain ⟨b, e1, rc⟩ := rs.at_ m c' e
      have nba : b ≠ a := fun z => by
        subst z
        exact hmn (nodupIx rs.nd e1 hn)
      exact ⟨b, e1, rc.on (RD.go rs g) (RDs.go rs g) (upd_ne nba)⟩
end

/-! ### readings of combinators -/
abbrev Rl (α β : Type) := (Addr → Prop) → List Addr → Hp → β → α → Prop
/-- it goes on with the state -/
def Mono (K : Frag) (mg : Str → Option Value) {α β : Type} (R : Rl α β) : Prop := ∀ {B B' : Addr → Prop} {φ φ' : List Addr} {H H' : Hp} {st : Store}, RS K mg B φ H st → Go φ B H φ' B' H' → ∀ {v : β} {d : α}, R B φ H v d → R B' φ' H' v d
def rB : Rl Bool Bool := fun _ _ _ v d => v = d
def rO : Rl (Option Int) (Option Int) := fun _ _ _ v d => v = d
/-- the outcome of an action -/
def Fin (K : Frag) (mg : Str → Option Value) (B : Addr → Prop) (φ : List Addr) (H : Hp) {α β : Type} (R : Rl α β) (st' : Store) (Q : β → Hp → Prop) (W : XK) : Except Exc α → Prop
  | .ok d => ∀ v B' φ' H', Go φ B H φ' B' H' → RS K mg B' φ' H' st' → R B' φ' H' v d → Q v H'
  | .error x => ∀ cls dx B' φ' H', Go φ B H φ' B' H' → RS K mg B' φ' H' st' → RX K mg B' φ' H' x cls dx → W cls dx H'
def Tr (K : Frag) (mg : Str → Option Value) {α β : Type} (R : Rl α β) (c : Act α) (W : WX) : L2.St → Hp → (β → Hp → Prop) → Prop := fun σ H Q =>
  ∃ B φ e st r st', REnv K B φ H σ e ∧ RS K mg B φ H st ∧ c e st = some (r, st') ∧ Fin K mg B φ H R st' Q (fun cls dx H' => W cls dx σ H') r
/-- behind a first action: its value is known -/
def TrK (K : Frag) (mg : Str → Option Value) {α β α₁ β₁ : Type} (R₁ : Rl α₁ β₁) (R : Rl α β) (f : α₁ → Act α) (W : WX) (v : β₁) : L2.St → Hp → (β → Hp → Prop) → Prop := fun σ H Q =>
  ∃ B φ e st d r st', REnv K B φ H σ e ∧ RS K mg B φ H st ∧ R₁ B φ H v d ∧ f d e st = some (r, st') ∧ Fin K mg B φ H R st' Q (fun cls dx H' => W cls dx σ H') r
def R2x {α β α₁ β₁ : Type} (R₁ : Rl α₁ β₁) (R : Rl α β) : Rl (α₁ × α) (β₁ × β) := fun B φ H v d => R₁ B φ H v.1 d.1 ∧ R B φ H v.2 d.2
section
variable {K : Frag} {mg : Str → Option Value} {B B' B2 : Addr → Prop} {φ φ' φ2 : List Addr} {H H' H2 : Hp} {st st' : Store} {σ : L2.St} {W : WX}
theorem mono_d : Mono K mg (RD K) := fun rs g _ _ r => RD.go rs g r
theorem mono_ds : Mono K mg (RDs K) := fun rs g _ _ r => RDs.go rs g r
theorem mono_b : Mono K mg rB := fun _ _ _ _ r => r
theorem mono_o : Mono K mg rO := fun _ _ _ _ r => r
theorem mono_2 {α β α₁ β₁ : Type} {R₁ : Rl α₁ β₁} {R : Rl α β} (h : Mono K mg R₁) (h' : Mono K mg R) : Mono K mg (R2x R₁ R) := fun rs g _ _ r => ⟨h rs g r.1, h' rs g r.2⟩
theorem Fin.go {α β : Type} {R : Rl α β} {Q : β → Hp → Prop} {E : XK} {r : Except Exc α} (g : Go φ B H φ' B' H') (h : Fin K mg B φ H R st' Q E r) : Fin K mg B' φ' H' R st' Q E r := by
  cases r with
  | ok d => exact fun v B2 φ2 H2 g2 => h v B2 φ2 H2 (g.trans g2)
  | error x => exact fun cls dx B2 φ2 H2 g2 => h cls dx B2 φ2 H2 (g.trans g2)
theorem Fin.mono {α β : Type} {R : Rl α β} {Q Q' : β → Hp → Prop} {E : XK} {r : Except Exc α} (f : ∀ v H, Q v H → Q' v H) (h : Fin K mg B φ H R st' Q E r) : Fin K mg B φ H R st' Q' E r := by
  cases r with
  | ok d => exact fun v B2 φ2 H2 g2 a b => f _ _ (h v B2 φ2 H2 g2 a b)
  | error x => exact h
theorem Tr.mono {α β : Type} {R : Rl α β} {c : Act α} {Q Q' : β → Hp → Prop} (h : Tr K mg R c W σ H Q) (f : ∀ v H, Q v H → Q' v H) : Tr K mg R c W σ H Q' := by
  obtain ⟨B, φ, e, st, r, st', re, rs, hc, fin⟩ := h
  exact ⟨B, φ, e, st, r, st', re, rs, hc, fin.mono f⟩
theorem Tr.bind {α β α₁ β₁ : Type} {R₁ : Rl α₁ β₁} {R : Rl α β} {a : Act α₁} {f : α₁ → Act α} {Q : β → Hp → Prop} (h : Tr K mg R (a.bind f) W σ H Q) : Tr K mg R₁ a W σ H fun v H1 => TrK K mg R₁ R f W v σ H1 Q := by
  obtain ⟨B, φ, e, st, r, st', re, rs, hc, fin⟩ := h
  unfold Act.bind at hc
  cases ha : a e st with
  | none => rw [ha] at hc; cases hc
  | some p =>
    obtain ⟨q, st1⟩ := p
    rw [ha] at hc
    cases q with
    | error x =>
      simp only [Option.some.injEq, Prod.mk.injEq] at hc
      obtain ⟨rfl, rfl⟩ := hc
      exact ⟨B, φ, e, st, _, _, re, rs, ha, fin⟩
    | ok d => exact ⟨B, φ, e, st, _, _, re, rs, ha, fun v B' φ' H' g rs' rd => ⟨B', φ', e, st1, d, r, st', REnv.go rs g re, rs', rd, hc, fin.go g⟩⟩
theorem TrK.bind {α β α₁ β₁ α₂ β₂ : Type} {R₁ : Rl α₁ β₁} {R₂ : Rl α₂ β₂} {R : Rl α β} {b : Act α₂} {f : α₁ → α₂ → Act α} {v : β₁} {Q : β → Hp → Prop} (m : Mono K mg R₁) (h : TrK K mg R₁ R (fun d => b.bind (f d)) W v σ H Q) :
    Tr K mg R₂ b W σ H fun w H1 => TrK K mg (R2x R₁ R₂) R (fun p => f p.1 p.2) W (v, w) σ H1 Q := by
  obtain ⟨B, φ, e, st, d, r, st', re, rs, r1, hc, fin⟩ := h
  unfold Act.bind at hc
  dsimp only at hc
  cases ha : b e st with
  | none => rw [ha] at hc; cases hc
  | some p =>
    obtain ⟨q, st1⟩ := p
    rw [ha] at hc
    cases q with
    | error x =>
      simp only [Option.some.injEq, Prod.mk.injEq] at hc
      obtain ⟨rfl, rfl⟩ := hc
      exact ⟨B, φ, e, st, _, _, re, rs, ha, fin⟩
    | ok d2 => exact ⟨B, φ, e, st, _, _, re, rs, ha, fun w B' φ' H' g rs' rd => ⟨B', φ', e, st1, (d, d2), r, st', REnv.go rs g re, rs', ⟨m rs g r1, rd⟩, hc, fin.go g⟩⟩
end
/-- an operation by values: one, two, three, many -/
def V1 (K : Frag) (mg : Str → Option Value) (g : Store → D → Option D) : V → Hp → VK → Prop := fun x H Q =>
  ∃ B φ st d z, RS K mg B φ H st ∧ RD K B φ H x d ∧ g st d = some z ∧ ∀ v B' φ' H', Go φ B H φ' B' H' → RS K mg B' φ' H' st → RD K B' φ' H' v z → Q v H'
def V2 (K : Frag) (mg : Str → Option Value) (g : Store → D → D → Option D) : R2 := fun x y H Q =>
  ∃ B φ st d e z, RS K mg B φ H st ∧ RD K B φ H x d ∧ RD K B φ H y e ∧ g st d e = some z ∧ ∀ v B' φ' H', Go φ B H φ' B' H' → RS K mg B' φ' H' st → RD K B' φ' H' v z → Q v H'
def VA (K : Frag) (mg : Str → Option Value) (g : Store → List D → Option D) : List V → Hp → VK → Prop := fun xs H Q =>
  ∃ B φ st ds z, RS K mg B φ H st ∧ RDs K B φ H xs ds ∧ g st ds = some z ∧ ∀ v B' φ' H', Go φ B H φ' B' H' → RS K mg B' φ' H' st → RD K B' φ' H' v z → Q v H'
/-- .. that tells a truth -/
def VT (K : Frag) (mg : Str → Option Value) (g : Store → D → Option Bool) : V → Hp → (Bool → Hp → Prop) → Prop := fun x H Q =>
  ∃ B φ st d b, RS K mg B φ H st ∧ RD K B φ H x d ∧ g st d = some b ∧ Q b H
section
variable {K : Frag} {mg : Str → Option Value} {σ : L2.St} {H : Hp} {W : WX}
theorem look_eq {α : Type} {f : Store → Option α} {e : Env} {st st' : Store} {r : Except Exc α} (h : look f e st = some (r, st')) : ∃ d, r = .ok d ∧ st' = st ∧ f st = some d := by
  unfold look at h
  cases hf : f st with
  | none => rw [hf] at h; cases h
  | some d =>
    rw [hf] at h
    simp only [Option.map_some, Option.some.injEq, Prod.mk.injEq] at h
    exact ⟨d, h.1.symm, h.2.symm, rfl⟩
theorem TrK.v1 {g : Store → D → Option D} {x : V} {Q : VK} (h : TrK K mg (RD K) (RD K) (fun d => look fun st => g st d) W x σ H Q) : V1 K mg g x H Q := by
  obtain ⟨B, φ, e, st, d, r, st', re, rs, r1, hc, fin⟩ := h
  obtain ⟨z, rfl, rfl, hz⟩ := look_eq hc
  exact ⟨B, φ, _, d, z, rs, r1, hz, fin⟩
theorem TrK.v2 {g : Store → D → D → Option D} {x y : V} {Q : VK} (h : TrK K mg (R2x (RD K) (RD K)) (RD K) (fun p => look fun st => g st p.1 p.2) W (x, y) σ H Q) : V2 K mg g x y H Q := by
  obtain ⟨B, φ, e, st, d, r, st', re, rs, r1, hc, fin⟩ := h
  obtain ⟨z, rfl, rfl, hz⟩ := look_eq hc
  exact ⟨B, φ, _, d.1, d.2, z, rs, r1.1, r1.2, hz, fin⟩
theorem TrK.vA {g : Store → List D → Option D} {xs : List V} {Q : VK} (h : TrK K mg (RDs K) (RD K) (fun d => look fun st => g st d) W xs σ H Q) : VA K mg g xs H Q := by
  obtain ⟨B, φ, e, st, d, r, st', re, rs, r1, hc, fin⟩ := h
  obtain ⟨z, rfl, rfl, hz⟩ := look_eq hc
  exact ⟨B, φ, _, d, z, rs, r1, hz, fin⟩
theorem TrK.vT {g : Store → D → Option Bool} {x : V} {Q : Bool → Hp → Prop} (h : TrK K mg (RD K) rB (fun d => look fun st => g st d) W x σ H Q) : VT K mg g x H Q := by
  obtain ⟨B, φ, e, st, d, r, st', re, rs, r1, hc, fin⟩ := h
  obtain ⟨z, rfl, rfl, hz⟩ := look_eq hc
  exact ⟨B, φ, _, d, z, rs, r1, hz, fin _ _ _ _ (.refl rs) rs rfl⟩
end

/-! ### the judgements -/
section
variable (X : Cx)
def RE (e : Expr) (c : Ex) : Prop := ∀ W, Takes X W → PE X e (Tr X.K X.mg (RD X.K) c W)
def RT (e : Expr) (c : Tx) : Prop := ∀ W, Takes X W → PT X e (Tr X.K X.mg rB c W)
def RA (es : List Expr) (c : Ax) : Prop := ∀ W, Takes X W → PA X es (Tr X.K X.mg (RDs X.K) c W)
def RO (e : Option Expr) (c : Px) : Prop := ∀ W, Takes X W → PO X e (Tr X.K X.mg rO c W)
end
theorem _root_.L2.PE.imp {X : Cx} {e : Expr} {t t' : TE} (h : PE X e t) (f : ∀ σ H Q, t' σ H Q → t σ H Q) : PE X e t' := ⟨fun pins s σ H Q I q => h.run pins s σ H Q I (f σ H Q q)⟩
theorem _root_.L2.PE.or {X : Cx} {e : Expr} {t t' : TE} (h : PE X e t) (h' : PE X e t') : PE X e (fun σ H Q => t σ H Q ∨ t' σ H Q) := ⟨fun pins s σ H Q I q => q.elim (h.run pins s σ H Q I) (h'.run pins s σ H Q I)⟩
theorem _root_.L2.PT.imp {X : Cx} {e : Expr} {t t' : TT} (h : PT X e t) (f : ∀ σ H Q, t' σ H Q → t σ H Q) : PT X e t' := ⟨fun pins s σ H Q I q => h.run pins s σ H Q I (f σ H Q q)⟩
theorem _root_.L2.PA.imp {X : Cx} {e : List Expr} {t t' : TA} (h : PA X e t) (f : ∀ σ H Q, t' σ H Q → t σ H Q) : PA X e t' := ⟨fun pos pins s σ H Q I q => h.run pos pins s σ H Q I (f σ H Q q)⟩
theorem _root_.L2.PO.imp {X : Cx} {e : Option Expr} {t t' : TO} (h : PO X e t) (f : ∀ σ H Q, t' σ H Q → t σ H Q) : PO X e t' := ⟨fun pins s σ H Q I q => h.run pins s σ H Q I (f σ H Q q)⟩
theorem _root_.L2.PS.imp {X : Cx} {e : Stmt} {t t' : TS} (h : PS X e t) (f : ∀ σ H Q, t' σ H Q → t σ H Q) : PS X e t' := ⟨fun pins s σ H D I q => h.run pins s σ H D I (f D σ H q)⟩
theorem _root_.L2.PSs.imp {X : Cx} {e : List Stmt} {t t' : TS} (h : PSs X e t) (f : ∀ σ H Q, t' σ H Q → t σ H Q) : PSs X e t' := ⟨fun pins s σ H D I q => h.run pins s σ H D I (f D σ H q)⟩
theorem _root_.L2.PG.imp {X : Cx} {e : Expr} {t t' : TG} (h : PG X e t) (f : ∀ v σ H Q, t' v σ H Q → t v σ H Q) : PG X e t' := ⟨fun pins s σ H v u Q I r q => h.run pins s σ H v u Q I r (f v σ H Q q)⟩
theorem _root_.L2.PI.imp {X : Cx} {tg e : Expr} {t t' : TI} (h : PI X tg e t) (f : ∀ σ H Q, t' σ H Q → t σ H Q) : PI X tg e t' := ⟨fun pins s σ H R I q => h.run pins s σ H R I (f σ H R q)⟩

section
variable {X : Cx} {a b c : Expr} {ca cb cc : Ex} {ta tb : Tx} {pos : Pos} {es : List Expr} {cs : Ax}
/-- a value that a rule gives where the state stands still -/
theorem Fin.here {K : Frag} {mg : Str → Option Value} {B : Addr → Prop} {φ : List Addr} {H : Hp} {α β : Type} {R : Rl α β} {st : Store} {Q : β → Hp → Prop} {E : XK} {d : α} {v : β} (rs : RS K mg B φ H st) (r : R B φ H v d) (h : Fin K mg B φ H R st Q E (.ok d)) : Q v H := h _ _ _ _ (.refl rs) rs r
theorem re_var {i : Nat} (h : PE X a (tVar i)) : RE X a (eVar i) := fun W tk => h.imp fun σ H Q ⟨B, φ, e, st, r, st', re, rs, hc, fin⟩ => by
  unfold eVar at hc
  split at hc
  · rename_i d hd
    cases hc
    obtain ⟨v, h1, h2⟩ := re.2 i d hd
    exact ⟨v, h1, fin.here rs h2⟩
  · cases hc
theorem re_const {v : V} {d : D} (h : PE X a (tC v)) (r : ∀ B φ H, RD X.K B φ H v d) : RE X a (eC d) := fun W tk => h.imp fun σ H Q ⟨B, φ, e, st, r', st', re, rs, hc, fin⟩ => by
  cases hc
  exact fin.here rs (r _ _ _)
theorem re_int {i j pos} : RE X (.Constant (.int i) j pos) (eC (.int i)) := re_const pe_int fun _ _ _ => .int i
theorem re_bl {b j pos} : RE X (.Constant (.bool b) j pos) (eC (.bl b)) := re_const pe_bl fun _ _ _ => .bl b
theorem re_non {j pos} : RE X (.Constant .none j pos) (eC .non) := re_const pe_non fun _ _ _ => .non
theorem re_str {x j pos} (h : strOk x) : RE X (.Constant (.str x) j pos) (eC (.str x)) := re_const pe_str fun _ _ _ => .str x h
theorem re_op {op : Operator} {g : Store → D → D → Option D} (ho : OpR X (binaryOp op) (V2 X.K X.mg g)) (ha : RE X a ca) (hb : RE X b cb) : RE X (.BinOp a op b pos) (op2 g ca cb) := fun W tk =>
  (pe_op ho (ha W tk) (hb W tk)).imp fun σ H Q h => (Tr.bind h).mono fun x H1 h1 => (TrK.bind mono_d h1).mono fun y H2 h2 => h2.v2
end
end Sw

/-! PlainT: tuples that are made have no dict of their own. -/
set_option Elab.async false
set_option linter.all false
set_option maxRecDepth 100000
set_option maxHeartbeats 4000000
namespace Sw
open PySem PySem.Spec PyProof.Rows L2
variable [LamT]
/-- a plain tuple as the heap tells it -/
def frT (its : List Value) (xs : List V) : HO := .frz { cls := .type "tuple", data := .seq its.toArray } (.tup xs)
/-- what is asked of a new tuple's place -/
def NewT (Q : V → Hp → Prop) (H : Hp) (xs : List V) : Prop := ∀ (p : Addr) (its : List Value), H p = none → Q (.ref p) (upd H p (frT its xs))
section
variable {X : Cx} {pins : List (Addr × Obj)} {σ : L2.St} {H : Hp} {s : Shared} {xs : List V} {its : List Value} {Q : VK}
theorem newT (I : Inv X pins σ H s) (r : Vals xs its) (hz : xs.length ≤ sizeLine) (q : NewT Q H xs) {tk : Nat} : EP X pins σ Q (.ref s.heap.objs.size) { s with heap := s.heap.push { cls := .type "tuple", data := .seq its.toArray }, toks := tk } := by
  have hf : H s.heap.objs.size = none := I.hok.fresh (Nat.le_refl _)
  exact ⟨.ref s.heap.objs.size, _, I.laid (t' := tk) (o := frT its xs) (fun b u e => Heap.get?_push_of_some _ e) (Nat.le_refl _) ⟨Heap.get?_push_size _ rfl, hz, its, r, IsTup.new _ _⟩, rfl, q _ _ hf⟩
end
section
variable {X : Cx} {e : Expr} {es : List Expr} {t : TA} {pos : Pos} {k : Nat}
theorem pe_tupP (h : PA X es t) : PE X (.Tuple es k pos) (fun σ H Q => t σ H fun xs H1 => xs.length ≤ sizeLine ∧ NewT Q H1 xs) := ⟨fun pins s σ H Q I hq =>
  wpAny_Tuple_spliced (thn (h.run pos pins s σ H _ I hq) fun us s1 ⟨xs, H1, I1, r, z, q⟩ => ⟨by rw [← r.length]; exact z, newT (tk := s1.toks) I1 r z q⟩)⟩
def rCatP (K : PySem.W.Frag) : R2 := fun x y H Q => ∃ a b xs ys, x = .ref a ∧ y = .ref b ∧ SqT K H a xs ∧ SqT K H b ys ∧ xs.length + ys.length ≤ sizeLine ∧ (xs = [] → Q (.ref b) H) ∧ (xs ≠ [] → ys = [] → Q (.ref a) H) ∧ (xs ≠ [] → ys ≠ [] → NewT Q H (xs ++ ys))
theorem op_catP : OpR X (binaryOp .Add) (rCatP X.K) := fun pins s σ H x y v u Q I rx ry ⟨a, b, xs, ys, ex, ey, ha, hb, hz, q0, q1, q2⟩ => by
  subst ex; subst ey
  by_cases hx : xs = []
  · exact op_catA pins s σ H _ _ v u Q I rx ry ⟨a, b, xs, ys, rfl, rfl, ha, hb, hz, q0, fun h => absurd hx h, fun h => absurd hx h⟩
  · by_cases hy : ys = []
    · exact op_catA pins s σ H _ _ v u Q I rx ry ⟨a, b, xs, ys, rfl, rfl, ha, hb, hz, q0, q1, fun _ h => absurd hy h⟩
    · cases rx; cases ry
      obtain ⟨vs, r1, p1, _⟩ := I.tuple ha
      obtain ⟨ws, r2, p2, _⟩ := I.tuple hb
      exact HT.cat_tup p1 p2 (fun z => hx (r1.nil_iff.mp z)) (fun z => absurd (r2.nil_iff.mp z) hy) (fun _ => newT (tk := s.toks) I (r1.append r2) (by rw [List.length_append]; exact hz) (q2 hx hy)) (by rw [← r1.length, ← r2.length]; exact hz)
def rSlP (K : PySem.W.Frag) : V → Option Int → Option Int → Hp → VK → Prop := fun x lo hi H Q => ∃ a xs, x = .ref a ∧ SqT K H a xs ∧
  (HT.sIx xs.length 0 lo = 0 ∧ HT.sIx xs.length xs.length hi = xs.length → Q (.ref a) H) ∧ (¬ (HT.sIx xs.length 0 lo = 0 ∧ HT.sIx xs.length xs.length hi = xs.length) → NewT Q H (cutV xs lo hi))
theorem sl_tupP : SlR X (rSlP X.K) := fun pins s σ H x v vl vu lo hi sl Q I rx hs pl pu ⟨a, xs, ex, hx, q1, q2⟩ => by
  subst ex
  by_cases hw : HT.sIx xs.length 0 lo = 0 ∧ HT.sIx xs.length xs.length hi = xs.length
  · exact sl_tupA pins s σ H _ v vl vu lo hi sl Q I rx hs pl pu ⟨a, xs, rfl, hx, q1, fun h => absurd hw h⟩
  · cases rx
    obtain ⟨vs, r, ht, hz⟩ := I.tuple hx
    have hn : vs.toArray.size = xs.length := by rw [List.size_toArray]; exact r.length.symm
    refine ⟨"tuple", _, PyProof.Rows.slot_tuple_getitem.lookup, ht.typeIs, HT.getItem_tuple_cut ht hs pl pu (by rw [hn]; exact hw) ?_ (by rw [hn]; exact hz)⟩
    rw [hn]
    exact newT (tk := s.toks) I ((r.drop _).take _) (Nat.le_trans (cutV_length xs lo hi) hz) (q2 hw)
theorem call_tupleP : CallR X (.type "tuple") (fun xs H Q => ∃ p ys, xs = [.ref p] ∧ ((SqL X.K H p ys ∧ ∀ H1, H1 = H → NewT Q H1 ys) ∨ (SqT X.K H p ys ∧ Q (.ref p) H))) := fun pins s σ H xs us Q I r ⟨p, ys, ex, h⟩ => by
  rcases h with ⟨hq, q⟩ | h
  · subst ex
    obtain ⟨u, rfl, rx⟩ := vals1 r
    cases rx
    obtain ⟨vs, r', pl, hz⟩ := I.list hq
    have hn : vs.toArray.size ≤ sizeLine := by rw [List.size_toArray, ← r'.length]; exact hz
    exact call_tuple_list pl.isList (fun h' kp => newT (tk := s.toks) (I.kept (t' := s.toks) kp) r' hz (q H rfl)) hn
  · exact call_tupleT pins s σ H xs us Q I r ⟨p, ys, ex, h.1, h.2⟩
end
end Sw

/-! Rules: each combinator is what the construct does. -/
set_option Elab.async false
set_option linter.all false
set_option maxRecDepth 100000
set_option maxHeartbeats 4000000
namespace Sw
open PySem PySem.Spec PyProof.Rows L2
variable [LamT]

theorem eq_of_beq_D {x y : Str} : (x == y) = decide (x = y) := by
  by_cases h : x = y <;> simp [h]
/-! ### data as PyData -/
mutual
def toP : D → PyData
  | .non => .none | .bl b => .bool b | .int i => .int i | .str x => .str x
  | .tup xs => .tuple (toPs xs) | .lst xs => .list (toPs xs) | .loc _ => .none | .scr _ => .none | .par _ => .none
def toPs : List D → List PyData
  | [] => [] | x :: xs => toP x :: toPs xs
end
theorem toPs_map : ∀ xs : List D, toPs xs = xs.map toP
  | [] => by simp [toPs]
  | x :: xs => by simp [toPs, toPs_map xs]
theorem depthAll_le {n : Nat} : ∀ {xs : List PyData}, (∀ x ∈ xs, x.depth ≤ n) → PyData.depthAll xs ≤ n
  | [], _ => by simp [PyData.depthAll]
  | x :: xs, h => by
    simp only [PyData.depthAll]
    exact Nat.max_le.mpr ⟨h x (by simp), depthAll_le fun y hy => h y (by simp [hy])⟩
theorem depth_toP : ∀ (n : Nat) (d : D), okd n d = true → (toP d).depth ≤ n
  | _, .non, _ => by simp [toP, PyData.depth]
  | _, .bl _, _ => by simp [toP, PyData.depth]
  | _, .int _, _ => by simp [toP, PyData.depth]
  | _, .str _, _ => by simp [toP, PyData.depth]
  | _, .loc _, h => by simp [okd] at h
  | _, .scr _, h => by simp [okd] at h
  | _, .par _, h => by simp [okd] at h
  | 0, .tup _, h => by simp [okd] at h
  | 0, .lst _, h => by simp [okd] at h
  | n + 1, .tup xs, h => by
    simp only [okd, List.all_eq_true] at h
    simp only [toP, PyData.depth, toPs_map]
    refine Nat.succ_le_succ (depthAll_le fun x hx => ?_)
    obtain ⟨y, hy, rfl⟩ := List.mem_map.mp hx
    exact depth_toP n y (h y hy)
  | n + 1, .lst xs, h => by
    simp only [okd, List.all_eq_true] at h
    simp only [toP, PyData.depth, toPs_map]
    refine Nat.succ_le_succ (depthAll_le fun x hx => ?_)
    obtain ⟨y, hy, rfl⟩ := List.mem_map.mp hx
    exact depth_toP n y (h y hy)
theorem eqvAll_zip {n : Nat} : ∀ (xs ys : List D), (∀ x ∈ xs, ∀ y ∈ ys, PyData.eqv (toP x) (toP y) = eqn n x y) →
    PyData.eqvAll (toPs xs) (toPs ys) = (xs.length == ys.length && (xs.zip ys).all fun p => eqn n p.1 p.2)
  | [], [], _ => by simp [toPs, PyData.eqvAll]
  | [], _ :: _, _ => by simp [toPs, PyData.eqvAll]
  | _ :: _, [], _ => by simp [toPs, PyData.eqvAll]
  | x :: xs, y :: ys, h => by
    have ih := eqvAll_zip xs ys fun a ha b hb => h a (by simp [ha]) b (by simp [hb])
    simp only [toPs, PyData.eqvAll, h x (by simp) y (by simp), ih, List.zip_cons_cons, List.all_cons, List.length_cons]
    have e : (xs.length + 1 == ys.length + 1) = (xs.length == ys.length) := by
      by_cases q : xs.length = ys.length
      · simp [q]
      · have : ¬ xs.length + 1 = ys.length + 1 := by omega
        simp [q, this]
    rw [e]
    cases eqn n x y <;> cases (xs.length == ys.length) <;> simp
theorem eqv_toP : ∀ (n : Nat) (d e : D), okd n d = true → okd n e = true → PyData.eqv (toP d) (toP e) = eqn n d e := by
  intro n
  induction n with
  | zero =>
    intro d e hd he
    cases d <;> first | (simp [okd] at hd; done) | skip
    all_goals cases e <;> first | (simp [okd] at he; done) | simp [toP, PyData.eqv, eqn]
  | succ n ih =>
    intro d e hd he
    cases d <;> first | (simp [okd] at hd; done) | skip
    all_goals cases e <;> first | (simp [okd] at he; done) | skip
    all_goals first | (simp only [toP, PyData.eqv, eqn]; done) | skip
    all_goals
      simp only [okd, List.all_eq_true] at hd he
      simp only [toP, PyData.eqv, eqn]
      exact eqvAll_zip _ _ fun x hx y hy => ih x y (hd x hx) (he y hy)
section
variable {K : Frag} {mg : Str → Option Value} {B : Addr → Prop} {φ : List Addr} {H : Hp} {st : Store}
mutual
theorem RD.dp : ∀ {n : Nat} {v : V} {d : D}, RD K B φ H v d → okd n d = true → Dp K H v (toP d) ∧ (toP d).canLay0 = true
  | _, _, _, .non, _ => by simp only [toP, PyData.canLay0]; exact ⟨.non, trivial⟩
  | _, _, _, .bl b, _ => by simp only [toP, PyData.canLay0]; exact ⟨.bl b, trivial⟩
  | _, _, _, .int i, _ => by simp only [toP, PyData.canLay0]; exact ⟨.int i, trivial⟩
  | _, _, _, .str x h, _ => by simp only [toP, PyData.canLay0]; exact ⟨.str x, h.1⟩
  | 0, _, _, .tup _ _, h => by simp [okd] at h
  | 0, _, _, .lst _ _ _, h => by simp [okd] at h
  | n + 1, _, _, .tup s r, h => by
    simp only [okd] at h
    have q := RDs.dp (n := n) r h
    simp only [toP, PyData.canLay0]
    exact ⟨.tup s.t q.1, q.2⟩
  | n + 1, _, _, .lst s _ r, h => by
    simp only [okd] at h
    have q := RDs.dp (n := n) r h
    simp only [toP, PyData.canLay0]
    exact ⟨.lst (SqL.of s) q.1, q.2⟩
  | _, _, _, .loc _, h => by simp [okd] at h
  | _, _, _, .scr _, h => by simp [okd] at h
  | _, _, _, .par _ _, h => by simp [okd] at h
theorem RDs.dp : ∀ {n : Nat} {vs : List V} {ds : List D}, RDs K B φ H vs ds → ds.all (okd n) = true → DpAll K H vs (toPs ds) ∧ PyData.canLayAll0 (toPs ds) = true
  | _, _, _, .nil, _ => by simp only [toPs, PyData.canLayAll0]; exact ⟨.nil, trivial⟩
  | n, _, _, .cons r t, h => by
    simp only [List.all_cons, Bool.and_eq_true] at h
    have q := RD.dp r h.1
    have q2 := RDs.dp t h.2
    simp only [toPs, PyData.canLayAll0]
    exact ⟨.cons q.1 q2.1, by rw [q.2, q2.2]; rfl⟩
end
theorem shaped_toP {n : Nat} {d : D} (hn : n ≤ 64) (h : okd n d = true) (c : (toP d).canLay0 = true) : SeqAt.shaped (toP d) = true := by
  unfold SeqAt.shaped
  rw [c, Bool.true_and]
  exact decide_eq_true (Nat.le_trans (depth_toP n d h) hn)
/-- a list that stands in a cell read as data -/
theorem see_dp (rs : RS K mg B φ H st) {v : V} {d : D} (r : RD K B φ H v d) (h : (see st d).ok = true) : Dp K H v (toP (see st d)) ∧ (toP (see st d)).canLay0 = true := by
  cases r with
  | loc e =>
    rename_i a n
    cases hs : st[n]? with
    | none => simp [see, hs, okd] at h
    | some c =>
      cases c with
      | lst xs =>
        simp only [see, hs] at h ⊢
        obtain ⟨b, e', vs, hv, rv⟩ := rs.at_ n _ hs
        rw [e] at e'
        cases e'
        simp only [D.ok, okd] at h
        have q := RDs.dp rv h
        simp only [toP, PyData.canLay0]
        exact ⟨.lst (SqL.of hv) q.1, q.2⟩
      | dct _ => simp [see, hs, okd] at h
      | dtt _ => simp [see, hs, okd] at h
      | ins _ _ => simp [see, hs, okd] at h
      | dlk _ => simp [see, hs, okd] at h
      | llk _ => simp [see, hs, okd] at h
  | non => exact RD.dp (n := 60) (B := B) (φ := φ) .non h
  | bl b => exact RD.dp (n := 60) (B := B) (φ := φ) (.bl b) h
  | int i => exact RD.dp (n := 60) (B := B) (φ := φ) (.int i) h
  | str x q => exact RD.dp (n := 60) (B := B) (φ := φ) (.str x q) h
  | tup s q => exact RD.dp (n := 60) (.tup s q) h
  | lst s n q => exact RD.dp (n := 60) (.lst s n q) h
  | scr e => simp [see, D.ok, okd] at h
  | par _ _ => simp [see, D.ok, okd] at h
end

/-! ### operators -/
section
variable {X : Cx}
theorem fin0 {K : Frag} {mg : Str → Option Value} {B : Addr → Prop} {φ : List Addr} {H : Hp} {st : Store} {z : D} {Q : VK} {v : V} (rs : RS K mg B φ H st)
    (fin : ∀ v B' φ' H', Go φ B H φ' B' H' → RS K mg B' φ' H' st → RD K B' φ' H' v z → Q v H') (r : RD K B φ H v z) : Q v H := fin v B φ H (.refl rs) rs r
theorem finT {K : Frag} {mg : Str → Option Value} {B : Addr → Prop} {φ : List Addr} {H : Hp} {st : Store} {vs : List V} {ds : List D} {Q : VK} (rs : RS K mg B φ H st)
    (fin : ∀ v B' φ' H', Go φ B H φ' B' H' → RS K mg B' φ' H' st → RD K B' φ' H' v (.tup ds) → Q v H') (r : RDs K B φ H vs ds) : NewT Q H vs := fun p its hp => by
  obtain ⟨rs', g⟩ := rs.newThing (o := frT its vs) hp
  exact fin _ _ _ _ g rs' (.tup (.inl ⟨_, upd_same, rfl, rfl⟩) (RDs.go rs g r))
theorem finL {K : Frag} {mg : Str → Option Value} {B : Addr → Prop} {φ : List Addr} {H : Hp} {st : Store} {vs : List V} {ds : List D} {Q : VK} {p : Addr} (rs : RS K mg B φ H st)
    (fin : ∀ v B' φ' H', Go φ B H φ' B' H' → RS K mg B' φ' H' st → RD K B' φ' H' v (.lst ds) → Q v H') (r : RDs K B φ H vs ds) (hp : H p = none) : Q (.ref p) (upd H p (.lst vs)) := by
  obtain ⟨rs', g⟩ := rs.newThing (o := .lst vs) hp
  exact fin _ _ _ _ g rs' (.lst upd_same (fun hb => rs.there p hb hp) (RDs.go rs g r))
theorem RDs.nil_iff {K : Frag} {B : Addr → Prop} {φ : List Addr} {H : Hp} {vs : List V} {ds : List D} (r : RDs K B φ H vs ds) : vs = [] ↔ ds = [] := by
  cases r <;> simp
theorem strOk_append {a b : Str} (ha : strOk a) (hb : strOk b) (h : a.length + b.length ≤ sizeLine) : strOk (a ++ b) := by
  refine ⟨?_, ?_⟩
  · show (a.cps ++ b.cps).all _ = true
    rw [Array.all_append, ha.1, hb.1]; rfl
  · show (a.cps ++ b.cps).size ≤ _
    rw [Array.size_append]; exact h
theorem lst_cases {K : Frag} {mg : Str → Option Value} {B : Addr → Prop} {φ : List Addr} {H : Hp} {st : Store} (rs : RS K mg B φ H st) {v : V} {d : D} {xs : List D} (r : RD K B φ H v d) (h : lstOf st d = some xs) :
    ∃ a vs, v = .ref a ∧ RDs K B φ H vs xs ∧ H a = some (.lst vs) := by
  cases r with
  | lst s n q => simp only [lstOf, Option.some.injEq] at h; subst h; exact ⟨_, _, rfl, q, s⟩
  | loc e =>
    rename_i a n
    cases hs : st[n]? with
    | none => simp [lstOf, hs] at h
    | some c =>
      cases c with
      | lst ys =>
        simp only [lstOf, hs, Option.some.injEq] at h
        subst h
        obtain ⟨b, e', vs, hv, rv⟩ := rs.at_ n _ hs
        rw [e] at e'
        cases e'
        exact ⟨_, _, rfl, rv, hv⟩
      | dct _ => simp [lstOf, hs] at h
      | dtt _ => simp [lstOf, hs] at h
      | ins _ _ => simp [lstOf, hs] at h
      | dlk _ => simp [lstOf, hs] at h
      | llk _ => simp [lstOf, hs] at h
  | _ => simp [lstOf] at h
theorem o_add : OpR X (binaryOp .Add) (V2 X.K X.mg vAdd) := by
  intro pins s σ H x y v u Q I rv ru ⟨B, φ, st, d, e, z, rs, r1, r2, hz, fin⟩
  have lists : addL st d e = some z → wpAny (model X.prog X.w) X.A (binaryOp .Add v u) (EP X pins σ Q) X.xe s := fun hz => by
    unfold addL at hz
    cases h1 : lstOf st d with
    | none => rw [h1] at hz; cases hz
    | some xs =>
      rw [h1, Option.bind_some] at hz
      cases h2 : lstOf st e with
      | none => rw [h2] at hz; cases hz
      | some ys =>
        rw [h2, Option.bind_some] at hz
        split at hz
        · rename_i hl
          cases hz
          obtain ⟨a, vs, rfl, q1, s1⟩ := lst_cases rs r1 h1
          obtain ⟨b, ws, rfl, q2, s2⟩ := lst_cases rs r2 h2
          exact op_cat pins s σ H _ _ v u Q I rv ru ⟨_, _, _, _, rfl, rfl, s1, s2, by rw [q1.length, q2.length]; exact hl, fun p hp => finL rs fin (q1.append q2) hp⟩
        · cases hz
  cases d <;> cases e <;> simp only [vAdd] at hz <;> first | (cases hz; done) | exact lists hz | skip
  · cases hz; cases r1; cases r2
    exact op_add pins s σ H _ _ v u Q I rv ru ⟨_, _, rfl, rfl, fin0 rs fin (.int _)⟩
  · split at hz
    · cases hz; cases r1 with | str _ h1 => cases r2 with | str _ h2 =>
      rename_i hl
      exact op_add_str pins s σ H _ _ v u Q I rv ru ⟨_, _, rfl, rfl, hl, fin0 rs fin (.str _ (strOk_append h1 h2 hl))⟩
    · cases hz
  · split at hz
    · cases hz; cases r1 with | tup s1 q1 => cases r2 with | tup s2 q2 =>
      rename_i hl _ _ _ _
      refine op_catP pins s σ H _ _ v u Q I rv ru ⟨_, _, _, _, rfl, rfl, s1.t, s2.t, by rw [q1.length, q2.length]; exact hl, fun e1 => ?_, fun n1 e2 => ?_, fun n1 n2 => finT rs fin (q1.append q2)⟩
      · refine fin0 rs fin ?_
        rw [q1.nil_iff.mp e1]; exact .tup s2 q2
      · refine fin0 rs fin ?_
        rw [q2.nil_iff.mp e2, List.append_nil]; exact .tup s1 q1
    · cases hz
/-- an operation of ints alone -/
theorem o_ints {f : Value → Value → Sem Value} {g : Store → D → D → Option D} {C : Int → Int → Prop} {h : Int → Int → V} {hD : Int → Int → D} (ho : OpR X f (rI C h))
    (hg : ∀ st d e z, g st d e = some z → ∃ i j, d = .int i ∧ e = .int j ∧ C i j ∧ z = hD i j) (hr : ∀ i j B φ H, RD X.K B φ H (h i j) (hD i j)) : OpR X f (V2 X.K X.mg g) := by
  intro pins s σ H x y v u Q I rv ru ⟨B, φ, st, d, e, z, rs, r1, r2, hz, fin⟩
  obtain ⟨i, j, rfl, rfl, c, rfl⟩ := hg _ _ _ _ hz
  cases r1; cases r2
  exact ho pins s σ H _ _ v u Q I rv ru ⟨i, j, rfl, rfl, c, fin0 rs fin (hr _ _ _ _ _)⟩
theorem o_ints0 {f : Value → Value → Sem Value} {g : Store → D → D → Option D} {h : Int → Int → V} {hD : Int → Int → D} (ho : OpR X f (rI0 h))
    (hg : ∀ st d e z, g st d e = some z → ∃ i j, d = .int i ∧ e = .int j ∧ z = hD i j) (hr : ∀ i j B φ H, RD X.K B φ H (h i j) (hD i j)) : OpR X f (V2 X.K X.mg g) := by
  intro pins s σ H x y v u Q I rv ru ⟨B, φ, st, d, e, z, rs, r1, r2, hz, fin⟩
  obtain ⟨i, j, rfl, rfl, rfl⟩ := hg _ _ _ _ hz
  cases r1; cases r2
  exact ho pins s σ H _ _ v u Q I rv ru ⟨i, j, rfl, rfl, fin0 rs fin (hr _ _ _ _ _)⟩
theorem o_sub : OpR X (binaryOp .Sub) (V2 X.K X.mg vSub) := o_ints0 op_sub (fun st d e z h => by
  cases d <;> cases e <;> simp only [vSub] at h <;> first | (cases h; done) | exact ⟨_, _, rfl, rfl, (Option.some.inj h).symm⟩) fun _ _ _ _ _ => .int _
theorem o_lt : OpR X (compareOp .Lt) (V2 X.K X.mg vLt) := o_ints0 op_lt (fun st d e z h => by
  cases d <;> cases e <;> simp only [vLt] at h <;> first | (cases h; done) | exact ⟨_, _, rfl, rfl, (Option.some.inj h).symm⟩) fun _ _ _ _ _ => .bl _
theorem o_le : OpR X (compareOp .LtE) (V2 X.K X.mg vLe) := o_ints0 op_le (fun st d e z h => by
  cases d <;> cases e <;> simp only [vLe] at h <;> first | (cases h; done) | exact ⟨_, _, rfl, rfl, (Option.some.inj h).symm⟩) fun _ _ _ _ _ => .bl _
theorem o_gt : OpR X (compareOp .Gt) (V2 X.K X.mg vGt) := o_ints0 op_gt (fun st d e z h => by
  cases d <;> cases e <;> simp only [vGt] at h <;> first | (cases h; done) | exact ⟨_, _, rfl, rfl, (Option.some.inj h).symm⟩) fun _ _ _ _ _ => .bl _
theorem o_ge : OpR X (compareOp .GtE) (V2 X.K X.mg vGe) := o_ints0 op_ge (fun st d e z h => by
  cases d <;> cases e <;> simp only [vGe] at h <;> first | (cases h; done) | exact ⟨_, _, rfl, rfl, (Option.some.inj h).symm⟩) fun _ _ _ _ _ => .bl _
theorem o_div : OpR X (binaryOp .FloorDiv) (V2 X.K X.mg vDiv) := o_ints op_fdiv (fun st d e z h => by
  cases d <;> cases e <;> simp only [vDiv] at h <;> try (cases h; done)
  split at h
  · rename_i hc; exact ⟨_, _, rfl, rfl, hc, (Option.some.inj h).symm⟩
  · cases h) fun _ _ _ _ _ => .int _
theorem o_mod : OpR X (binaryOp .Mod) (V2 X.K X.mg vMod) := o_ints op_mod (fun st d e z h => by
  cases d <;> cases e <;> simp only [vMod] at h <;> try (cases h; done)
  split at h
  · rename_i hc; exact ⟨_, _, rfl, rfl, hc, (Option.some.inj h).symm⟩
  · cases h) fun _ _ _ _ _ => .int _
theorem o_pow : OpR X (binaryOp .Pow) (V2 X.K X.mg vPow) := o_ints op_pow (fun st d e z h => by
  cases d <;> cases e <;> simp only [vPow] at h <;> try (cases h; done)
  split at h
  · rename_i hc
    refine ⟨_, _, rfl, rfl, ⟨hc.1, by omega, ?_⟩, (Option.some.inj h).symm⟩
    have q := hc.2.2
    simp only [isSmall, Bool.and_eq_true, decide_eq_true_eq] at q
    omega
  · cases h) fun _ _ _ _ _ => .int _
theorem o_mul : OpR X (binaryOp .Mult) (V2 X.K X.mg vMul) := by
  intro pins s σ H x y v u Q I rv ru ⟨B, φ, st, d, e, z, rs, r1, r2, hz, fin⟩
  cases d <;> cases e <;> simp only [vMul] at hz <;> try (cases hz; done)
  · split at hz
    · rename_i hc
      cases hz; cases r1; cases r2
      refine op_mul pins s σ H _ _ v u Q I rv ru ⟨_, _, rfl, rfl, ?_, fin0 rs fin (.int _)⟩
      simp only [isSmall, Bool.or_eq_true, Bool.and_eq_true, decide_eq_true_eq] at hc
      exact hc
    · cases hz
  · split at hz
    · rename_i hc
      cases hz; cases r2; cases r1 with | lst s1 n1 q1 =>
      exact op_rep pins s σ H _ _ v u Q I rv ru ⟨_, _, _, rfl, rfl, s1, by omega, by omega, by rw [q1.length]; exact hc.2.2, fun p hp => finL rs fin (q1.rep _) hp⟩
    · cases hz
theorem u_neg : UnR X (unaryOp .USub) (V1 X.K X.mg vNeg) := by
  intro pins s σ H x v Q I rv ⟨B, φ, st, d, z, rs, r1, hz, fin⟩
  cases d <;> simp only [vNeg] at hz <;> try (cases hz; done)
  cases hz; cases r1
  exact un_neg pins s σ H _ v Q I rv ⟨_, rfl, fin0 rs fin (.int _)⟩
theorem o_eq (hu : X.A.units + 66 < cLine) : OpR X (compareOp .Eq) (V2 X.K X.mg vEq) := by
  intro pins s σ H x y v u Q I rv ru ⟨B, φ, st, d, e, z, rs, r1, r2, hz, fin⟩
  unfold vEq at hz
  split at hz
  · rename_i hc
    rw [Bool.and_eq_true] at hc
    cases hz
    have q1 := see_dp rs r1 hc.1
    have q2 := see_dp rs r2 hc.2
    refine op_eqD (by omega) pins s σ H _ _ v u Q I rv ru ⟨_, _, q1.1, q2.1, shaped_toP (by decide) hc.1 q1.2, shaped_toP (by decide) hc.2 q2.2, ?_⟩
    rw [eqv_toP 60 _ _ hc.1 hc.2]
    exact fin0 rs fin (.bl _)
  · cases hz
theorem o_ne (hu : X.A.units + 66 < cLine) : OpR X (compareOp .NotEq) (V2 X.K X.mg vNe) := by
  intro pins s σ H x y v u Q I rv ru ⟨B, φ, st, d, e, z, rs, r1, r2, hz, fin⟩
  unfold vNe at hz
  split at hz
  · rename_i hc
    rw [Bool.and_eq_true] at hc
    cases hz
    have q1 := see_dp rs r1 hc.1
    have q2 := see_dp rs r2 hc.2
    refine op_neD (by omega) pins s σ H _ _ v u Q I rv ru ⟨_, _, q1.1, q2.1, shaped_toP (by decide) hc.1 q1.2, shaped_toP (by decide) hc.2 q2.2, ?_⟩
    rw [eqv_toP 60 _ _ hc.1 hc.2]
    exact fin0 rs fin (.bl _)
  · cases hz
end
end Sw

/-! Rules2: more operators, expressions, calls of built-ins. -/
set_option Elab.async false
set_option linter.all false
set_option maxRecDepth 100000
set_option maxHeartbeats 4000000
namespace Sw
open PySem PySem.Spec PyProof.Rows L2
variable [LamT]
section
variable {X : Cx} {a b c o : Expr} {ca cb cc : Ex} {ta tb : Tx} {pos : Pos} {es : List Expr} {cs : Ax}
theorem o_isN : OpR X (compareOp .Is) (fun x y H Q => y = .non ∧ V1 X.K X.mg vIsN x H Q) := by
  intro pins s σ H x y v u Q I rv ru ⟨e, B, φ, st, d, z, rs, r1, hz, fin⟩
  subst e
  refine op_isN pins s σ H _ _ v u Q I rv ru ⟨rfl, ?_⟩
  cases r1 <;> (simp only [vIsN] at hz; cases hz; exact fin0 rs fin (.bl _))
theorem o_notN : OpR X (compareOp .IsNot) (fun x y H Q => y = .non ∧ V1 X.K X.mg vNotN x H Q) := by
  intro pins s σ H x y v u Q I rv ru ⟨e, B, φ, st, d, z, rs, r1, hz, fin⟩
  subst e
  refine op_notN pins s σ H _ _ v u Q I rv ru ⟨rfl, ?_⟩
  cases r1 <;> (simp only [vNotN] at hz; cases hz; exact fin0 rs fin (.bl _))
/-- data among data -/
theorem toPs_any (n : Nat) (d : D) (hd : okd n d = true) : ∀ xs : List D, xs.all (okd n) = true → ((toPs xs).any fun z => PyData.eqv z (toP d)) = xs.any fun y => eqn n y d
  | [], _ => by simp [toPs]
  | x :: xs, h => by
    simp only [List.all_cons, Bool.and_eq_true] at h
    simp only [toPs, List.any_cons, eqv_toP n x d h.1 hd, toPs_any n d hd xs h.2]
theorem depth_all {n : Nat} : ∀ {xs : List D}, xs.all (okd n) = true → PyData.depthAll (toPs xs) ≤ n := fun {xs} h => by
  rw [toPs_map]
  refine depthAll_le fun x hx => ?_
  obtain ⟨y, hy, rfl⟩ := List.mem_map.mp hx
  exact depth_toP n y (List.all_eq_true.mp h y hy)
theorem seq_cases {K : Frag} {mg : Str → Option Value} {B : Addr → Prop} {φ : List Addr} {H : Hp} {st : Store} (rs : RS K mg B φ H st) {v : V} {d : D} {xs : List D} (r : RD K B φ H v d) (h : seq? st d = some xs) :
    ∃ a vs, v = .ref a ∧ RDs K B φ H vs xs ∧ (SqP K H a vs ∧ d = .tup xs ∨ H a = some (.lst vs) ∧ (d = .lst xs ∨ ∃ n, d = .loc n ∧ st[n]? = some (.lst xs) ∧ φ[n]? = some a)) := by
  cases r with
  | tup s q => simp only [seq?, Option.some.injEq] at h; subst h; exact ⟨_, _, rfl, q, .inl ⟨s, rfl⟩⟩
  | lst s n q => simp only [seq?, Option.some.injEq] at h; subst h; exact ⟨_, _, rfl, q, .inr ⟨s, .inl rfl⟩⟩
  | loc e =>
    rename_i a n
    cases hs : st[n]? with
    | none => simp [seq?, hs] at h
    | some c =>
      cases c with
      | lst ys =>
        simp only [seq?, hs, Option.some.injEq] at h
        subst h
        obtain ⟨b, e', vs, hv, rv⟩ := rs.at_ n _ hs
        rw [e] at e'
        cases e'
        exact ⟨_, _, rfl, rv, .inr ⟨hv, .inr ⟨n, rfl, hs, e⟩⟩⟩
      | dct _ => simp [seq?, hs] at h
      | dtt _ => simp [seq?, hs] at h
      | ins _ _ => simp [seq?, hs] at h
      | dlk _ => simp [seq?, hs] at h
      | llk _ => simp [seq?, hs] at h
  | non => simp [seq?] at h
  | bl _ => simp [seq?] at h
  | int _ => simp [seq?] at h
  | str _ _ => simp [seq?] at h
  | scr _ => simp [seq?] at h
  | par _ _ => simp [seq?] at h
theorem mem_reads {pins : List (Addr × Obj)} {s : Shared} {σ : L2.St} {H : Hp} {B : Addr → Prop} {φ : List Addr} {st : Store} {E : Value → Shared → Prop} {x y : V} {v u : Value} {d e : D} {xs : List D} {Q : Value → Shared → Prop} {k : Bool}
    (hu : X.A.units + 66 < cLine) (I : Inv X pins σ H s) (rs : RS X.K X.mg B φ H st) (rv : RelV x v) (ru : RelV y u) (r1 : RD X.K B φ H x d) (r2 : RD X.K B φ H y e) (hs : seq? st e = some xs) (hm : mem? d xs = some k) :
    (Q (.bool k) s → wpAny (model X.prog X.w) X.A (compareOp .In v u) Q E s) ∧ (Q (.bool !k) s → wpAny (model X.prog X.w) X.A (compareOp .NotIn v u) Q E s) := by
  unfold mem? at hm
  split at hm
  · rename_i hc
    rw [Bool.and_eq_true] at hc
    cases hm
    obtain ⟨hd, hx⟩ := hc
    obtain ⟨p, vs, rfl, q, alt⟩ := seq_cases rs r2 hs
    cases ru
    have q1 := RD.dp r1 hd
    have q2 := RDs.dp q hx
    obtain ⟨as, rd⟩ := Dp.reads I _ _ _ q1.1 rv
    have room : X.A.units + 1 + min (PyData.depthAll (toPs xs)) (toP d).depth < cLine := by
      have := depth_toP 60 d hd
      have : min (PyData.depthAll (toPs xs)) (toP d).depth ≤ 60 := Nat.le_trans (Nat.min_le_right _ _) this
      omega
    rcases alt with ⟨sq, _⟩ | ⟨sq, _⟩
    · obtain ⟨bs, rl⟩ := Dp.reads I _ _ _ (Dp.tup sq.t q2.1) (rfl : RelV (.ref p) (.ref p))
      exact ⟨fun h => SeqAt.in_tuple_reads rl rd q2.2 q1.2 room (by rw [toPs_any 60 d hd xs hx]; exact h), fun h => SeqAt.notIn_tuple_reads rl rd q2.2 q1.2 room (by rw [toPs_any 60 d hd xs hx]; exact h)⟩
    · obtain ⟨bs, rl⟩ := Dp.reads I _ _ _ (Dp.lst (SqL.of sq) q2.1) (rfl : RelV (.ref p) (.ref p))
      exact ⟨fun h => SeqAt.in_list_reads rl rd q2.2 q1.2 room (by rw [toPs_any 60 d hd xs hx]; exact h), fun h => SeqAt.notIn_list_reads rl rd q2.2 q1.2 room (by rw [toPs_any 60 d hd xs hx]; exact h)⟩
  · cases hm
theorem one_sign {x : Str} {c : Nat} (h : x.cps.toList = [c]) : x = ⟨#[c]⟩ := by
  obtain ⟨a⟩ := x
  simp only [Str.mk.injEq]
  exact Array.toList_inj.mp h
theorem vIn0_cases {st : Store} {d e z : D} (h : vIn0 st d e = some z) : (∃ c t, d = .str ⟨#[c]⟩ ∧ e = .str t ∧ z = .bl (decide (c ∈ t.cps.toList))) ∨ (∃ xs k, seq? st e = some xs ∧ mem? d xs = some k ∧ z = .bl k) := by
  cases e with
  | str t =>
    cases d <;> simp only [vIn0] at h <;> try (cases h; done)
    split at h
    · rename_i c hc
      cases h
      exact .inl ⟨_, _, congrArg D.str (one_sign hc), rfl, rfl⟩
    · cases h
  | _ =>
    simp only [vIn0] at h
    split at h
    · rename_i xs hx
      cases hm : mem? d xs with
      | none => rw [hm] at h; cases h
      | some k => rw [hm] at h; cases h; exact .inr ⟨xs, k, hx, hm, rfl⟩
    · cases h
theorem o_in0 (hu : X.A.units + 66 < cLine) : OpR X (compareOp .In) (V2 X.K X.mg vIn0) := by
  intro pins s σ H x y v u Q I rv ru ⟨B, φ, st, d, e, z, rs, r1, r2, hz, fin⟩
  rcases vIn0_cases hz with ⟨c, t, rfl, rfl, rfl⟩ | ⟨xs, k, hs, hm, rfl⟩
  · cases r1; cases r2
    exact op_in_sign pins s σ H _ _ v u Q I rv ru ⟨c, t, rfl, rfl, fin0 rs fin (.bl _)⟩
  · exact (mem_reads hu I rs rv ru r1 r2 hs hm).1 ⟨.bl k, H, I, rfl, fin0 rs fin (.bl _)⟩
theorem o_nin0 (hu : X.A.units + 66 < cLine) : OpR X (compareOp .NotIn) (V2 X.K X.mg vNin0) := by
  intro pins s σ H x y v u Q I rv ru ⟨B, φ, st, d, e, z, rs, r1, r2, hz, fin⟩
  unfold vNin0 at hz
  split at hz
  · rename_i b hb
    cases hz
    rcases vIn0_cases hb with ⟨c, t, rfl, rfl, e1⟩ | ⟨xs, k, hs, hm, e1⟩
    · cases e1; cases r1; cases r2
      exact op_notIn_sign pins s σ H _ _ v u Q I rv ru ⟨c, t, rfl, rfl, fin0 rs fin (.bl _)⟩
    · cases e1
      exact (mem_reads hu I rs rv ru r1 r2 hs hm).2 ⟨.bl (!b), H, I, rfl, fin0 rs fin (.bl _)⟩
  · cases hz
/-! ### expressions -/
theorem re_cmp {op : CmpOp} {g : Store → D → D → Option D} (ho : OpR X (compareOp op) (V2 X.K X.mg g)) (ha : RE X a ca) (hb : RE X b cb) (hm : behindInMarks op b = false := by first | exact nomark _ | rfl) : RE X (.Compare a [op] [b] pos) (op2 g ca cb) := fun W tk =>
  (pe_cmpR ho (ha W tk) (hb W tk) hm).imp fun σ H Q h => (Tr.bind h).mono fun x H1 h1 => (TrK.bind mono_d h1).mono fun y H2 h2 => h2.v2
theorem re_isN {j p} (ha : RE X a ca) : RE X (.Compare a [.Is] [.Constant .none j p] pos) (op1 vIsN ca) := fun W tk =>
  (pe_cmpR o_isN (ha W tk) pe_non (nomark _)).imp fun σ H Q h => (Tr.bind h).mono fun x H1 h1 => ⟨rfl, h1.v1⟩
theorem re_notN {j p} (ha : RE X a ca) : RE X (.Compare a [.IsNot] [.Constant .none j p] pos) (op1 vNotN ca) := fun W tk =>
  (pe_cmpR o_notN (ha W tk) pe_non (nomark _)).imp fun σ H Q h => (Tr.bind h).mono fun x H1 h1 => ⟨rfl, h1.v1⟩
theorem re_un {op : UnaryOp} {g : Store → D → Option D} (ho : UnR X (unaryOp op) (V1 X.K X.mg g)) (ha : RE X a ca) : RE X (.UnaryOp op a pos) (op1 g ca) := fun W tk =>
  (pe_un ho (ha W tk)).imp fun σ H Q h => (Tr.bind h).mono fun x H1 h1 => h1.v1
theorem isEmpty_len {vs : List V} {xs : List D} (h : vs.length = xs.length) : (!vs.isEmpty) = !xs.isEmpty := by
  cases vs <;> cases xs <;> simp at h ⊢
theorem tru_of {K : Frag} {mg : Str → Option Value} {B : Addr → Prop} {φ : List Addr} {H : Hp} {st : Store} (rs : RS K mg B φ H st) {v : V} {d : D} {k : Bool} (r : RD K B φ H v d) (h : truth st d = some k) :
    TruV K v H k := by
  cases r with
  | non => simp only [truth, Option.some.injEq] at h; exact h.symm
  | bl b => simp only [truth, Option.some.injEq] at h; exact h.symm
  | int i => simp only [truth, Option.some.injEq] at h; exact h.symm
  | str x q =>
    simp only [truth, Option.some.injEq] at h
    refine ⟨q.2, ?_⟩
    rw [← h]
    cases hx : x.length with
    | zero => rfl
    | succ n =>
      show (n + 1 != 0) = (((n + 1 : Nat) : Int) != 0)
      have : ¬ (((n + 1 : Nat) : Int) = 0) := by omega
      simp
      omega
  | tup s q => simp only [truth, Option.some.injEq] at h; exact .inr (.inl ⟨_, s.t, by rw [← h]; exact (isEmpty_len q.length).symm⟩)
  | lst s n q => simp only [truth, Option.some.injEq] at h; exact .inl ⟨_, SqL.of s, by rw [← h]; exact (isEmpty_len q.length).symm⟩
  | loc e =>
    rename_i a n
    cases hs : st[n]? with
    | none => simp [truth, hs] at h
    | some c =>
      obtain ⟨b, e', rc⟩ := rs.at_ n _ hs
      rw [e] at e'
      cases e'
      cases c with
      | lst ys =>
        simp only [truth, hs, Option.some.injEq] at h
        obtain ⟨vs, hv, rv⟩ := rc
        exact .inl ⟨_, SqL.of hv, by rw [← h]; exact (isEmpty_len rv.length).symm⟩
      | dct _ => simp [truth, hs] at h
      | dtt _ => simp [truth, hs] at h
      | ins _ _ => simp [truth, hs] at h
      | dlk _ => simp [truth, hs] at h
      | llk _ => simp [truth, hs] at h
  | scr _ => simp [truth] at h
  | par _ _ => simp [truth] at h
/-! ### tests -/
def IsB (g : Store → D → D → Option D) : Prop := ∀ st d e z, g st d e = some z → ∃ k, z = .bl k
theorem isB_lt : IsB vLt := fun st d e z h => by cases d <;> cases e <;> simp only [vLt] at h <;> first | (cases h; done) | exact ⟨_, (Option.some.inj h).symm⟩
theorem isB_le : IsB vLe := fun st d e z h => by cases d <;> cases e <;> simp only [vLe] at h <;> first | (cases h; done) | exact ⟨_, (Option.some.inj h).symm⟩
theorem isB_gt : IsB vGt := fun st d e z h => by cases d <;> cases e <;> simp only [vGt] at h <;> first | (cases h; done) | exact ⟨_, (Option.some.inj h).symm⟩
theorem isB_ge : IsB vGe := fun st d e z h => by cases d <;> cases e <;> simp only [vGe] at h <;> first | (cases h; done) | exact ⟨_, (Option.some.inj h).symm⟩
theorem isB_eq : IsB vEq := fun st d e z h => by unfold vEq at h; split at h <;> cases h; exact ⟨_, rfl⟩
theorem isB_ne : IsB vNe := fun st d e z h => by unfold vNe at h; split at h <;> cases h; exact ⟨_, rfl⟩
theorem isB_in0 : IsB vIn0 := fun st d e z h => by rcases vIn0_cases h with ⟨_, _, _, _, rfl⟩ | ⟨_, _, _, _, rfl⟩ <;> exact ⟨_, rfl⟩
theorem isB_nin0 : IsB vNin0 := fun st d e z h => by unfold vNin0 at h; split at h <;> cases h; exact ⟨_, rfl⟩
theorem TrK.vTb {K : Frag} {mg : Str → Option Value} {σ : L2.St} {H : Hp} {W : WX} {x : V} {Q : Bool → Hp → Prop} (h : TrK K mg (RD K) rB (fun d => look fun st => truth st d) W x σ H Q) : ∃ k, TruV K x H k ∧ Q k H := by
  obtain ⟨B, φ, st, d, k, rs, r, hz, q⟩ := h.vT
  exact ⟨k, tru_of rs r hz, q⟩
theorem TrK.vB {K : Frag} {mg : Str → Option Value} {σ : L2.St} {H : Hp} {W : WX} {x : V} {Q : Bool → Hp → Prop} {b : Bool} (h : TrK K mg (RD K) rB (fun d => look fun st => truth st d) W x σ H Q) (e : x = .bl b) : Q b H := by
  obtain ⟨B, φ, st, d, k, rs, r, hz, q⟩ := h.vT
  subst e
  cases r
  simp only [truth, Option.some.injEq] at hz
  subst hz
  exact q
/-- a plain expression's truth -/
theorem rt_val (ha : RE X a ca) (he : ∀ whole, isTrue a X.env whole = (do let v ← whole; standAt a.pos; holding [v] (truthy v)) := by intro _; rfl) : RT X a (tV ca) := fun W tk =>
  (pt_truth (ha W tk) he).imp fun σ H Q h => (Tr.bind h).mono fun x H1 h1 => h1.vTb
theorem V2.bl {K : Frag} {mg : Str → Option Value} {g : Store → D → D → Option D} {x y : V} {H : Hp} {Q : VK} (hb : IsB g) (h : V2 K mg g x y H Q) : V2 K mg g x y H fun v H' => (∃ k, v = .bl k) ∧ Q v H' := by
  obtain ⟨B, φ, st, d, e, z, rs, r1, r2, hz, fin⟩ := h
  obtain ⟨k, rfl⟩ := hb _ _ _ _ hz
  exact ⟨B, φ, st, d, e, _, rs, r1, r2, hz, fun v B' φ' H' g' rs' r => ⟨by cases r; exact ⟨_, rfl⟩, fin v B' φ' H' g' rs' r⟩⟩
theorem V2.mono {K : Frag} {mg : Str → Option Value} {g : Store → D → D → Option D} {x y : V} {H : Hp} {Q Q' : VK} (h : V2 K mg g x y H Q) (f : ∀ v H', Q v H' → Q' v H') : V2 K mg g x y H Q' := by
  obtain ⟨B, φ, st, d, e, z, rs, r1, r2, hz, fin⟩ := h
  exact ⟨B, φ, st, d, e, _, rs, r1, r2, hz, fun v B' φ' H' g' rs' r => f _ _ (fin v B' φ' H' g' rs' r)⟩
theorem bind_assoc {α β γ : Type} (a : Act α) (f : α → Act β) (g : β → Act γ) : (a.bind f).bind g = a.bind fun x => (f x).bind g := by
  funext e st
  unfold Act.bind
  cases a e st with
  | none => rfl
  | some p => obtain ⟨q, st1⟩ := p; cases q <;> rfl
theorem rt_cmp {op : CmpOp} {g : Store → D → D → Option D} (ho : OpR X (compareOp op) (V2 X.K X.mg g)) (hb' : IsB g) (ha : RE X a ca) (hb : RE X b cb) (hm : behindInMarks op b = false := by first | exact nomark _ | rfl) : RT X (.Compare a [op] [b] pos) (tV (op2 g ca cb)) := fun W tk =>
  (pt_cmpR ho (ha W tk) (hb W tk) hm).imp fun σ H Q h => by
    unfold tV op2 at h
    simp only [bind_assoc] at h
    refine (Tr.bind h).mono fun x H1 h1 => (TrK.bind mono_d h1).mono fun y H2 h2 => ?_
    obtain ⟨B, φ, e, st, d, r, st', re, rs, r1, hc, fin⟩ := h2
    unfold Act.bind at hc
    dsimp only at hc
    cases hl : look (fun st => g st d.1 d.2) e st with
    | none => rw [hl] at hc; cases hc
    | some p =>
      obtain ⟨q, st1⟩ := p
      rw [hl] at hc
      obtain ⟨z, rfl, rfl, hz⟩ := look_eq hl
      obtain ⟨k, rfl⟩ := hb' _ _ _ _ hz
      obtain ⟨k', rfl, rfl, hk⟩ := look_eq hc
      simp only [truth, Option.some.injEq] at hk
      subst hk
      exact ⟨B, φ, _, d.1, d.2, _, rs, r1.1, r1.2, hz, fun v B' φ' H' g' rs' rv => by cases rv; exact ⟨k, rfl, fin k _ _ _ g' rs' rfl⟩⟩
theorem rt_isN {j p} (ha : RE X a ca) : RT X (.Compare a [.Is] [.Constant .none j p] pos) (tV (op1 vIsN ca)) := fun W tk =>
  (pt_cmpR o_isN (ha W tk) pe_non (nomark _)).imp fun σ H Q h => by
    unfold tV op1 at h
    simp only [bind_assoc] at h
    refine (Tr.bind h).mono fun x H1 h1 => ⟨rfl, ?_⟩
    obtain ⟨B, φ, e, st, d, r, st', re, rs, r1, hc, fin⟩ := h1
    have hz : ∃ k, vIsN st d = some (.bl k) := by cases d <;> exact ⟨_, rfl⟩
    obtain ⟨k, hz⟩ := hz
    simp only [Act.bind, look, hz, truth, Option.map_some, Option.some.injEq, Prod.mk.injEq] at hc
    obtain ⟨rfl, rfl⟩ := hc
    exact ⟨B, φ, _, d, _, rs, r1, hz, fun v B' φ' H' g' rs' rv => by cases rv; exact ⟨k, rfl, fin k _ _ _ g' rs' rfl⟩⟩
theorem rt_notN {j p} (ha : RE X a ca) : RT X (.Compare a [.IsNot] [.Constant .none j p] pos) (tV (op1 vNotN ca)) := fun W tk =>
  (pt_cmpR o_notN (ha W tk) pe_non (nomark _)).imp fun σ H Q h => by
    unfold tV op1 at h
    simp only [bind_assoc] at h
    refine (Tr.bind h).mono fun x H1 h1 => ⟨rfl, ?_⟩
    obtain ⟨B, φ, e, st, d, r, st', re, rs, r1, hc, fin⟩ := h1
    have hz : ∃ k, vNotN st d = some (.bl k) := by cases d <;> exact ⟨_, rfl⟩
    obtain ⟨k, hz⟩ := hz
    simp only [Act.bind, look, hz, truth, Option.map_some, Option.some.injEq, Prod.mk.injEq] at hc
    obtain ⟨rfl, rfl⟩ := hc
    exact ⟨B, φ, _, d, _, rs, r1, hz, fun v B' φ' H' g' rs' rv => by cases rv; exact ⟨k, rfl, fin k _ _ _ g' rs' rfl⟩⟩
theorem TrK.pureB {K : Frag} {mg : Str → Option Value} {σ : L2.St} {H : Hp} {W : WX} {α β α₁ β₁ : Type} {R₁ : Rl α₁ β₁} {R : Rl α β} {f : α₁ → α} {x : β₁} {y : β} {Q : β → Hp → Prop} (h : TrK K mg R₁ R (fun d => Act.pure (f d)) W x σ H Q)
    (hr : ∀ {B φ H d}, R₁ B φ H x d → R B φ H y (f d)) : Q y H := by
  obtain ⟨B, φ, e, st, d, r, st', re, rs, r1, hc, fin⟩ := h
  unfold Act.pure at hc
  cases hc
  exact fin _ _ _ _ (.refl rs) rs (hr r1)
theorem rt_not (ha : RT X a ta) : RT X (.UnaryOp .Not a pos) (tNot ta) := fun W tk => (pt_not (ha W tk)).imp fun σ H Q h => (Tr.bind h).mono fun x H1 h1 => h1.pureB fun r => congrArg (!·) r
/-- behind a first test: its truth is known -/
theorem TrK.then {K : Frag} {mg : Str → Option Value} {σ : L2.St} {H : Hp} {W : WX} {α β : Type} {R : Rl α β} {f g : Act α} {x : Bool} {Q : β → Hp → Prop} (h : TrK K mg rB R (fun b => if b = true then f else g) W x σ H Q) :
    (x = true → Tr K mg R f W σ H Q) ∧ (x = false → Tr K mg R g W σ H Q) := by
  obtain ⟨B, φ, e, st, d, r, st', re, rs, r1, hc, fin⟩ := h
  have r1 : x = d := r1
  subst r1
  refine ⟨fun q => ?_, fun q => ?_⟩ <;> (subst q; exact ⟨B, φ, e, st, r, st', re, rs, hc, fin⟩)
theorem Tr.pure {K : Frag} {mg : Str → Option Value} {σ : L2.St} {H : Hp} {W : WX} {α β : Type} {R : Rl α β} {d : α} {y : β} {Q : β → Hp → Prop} (h : Tr K mg R (Act.pure d) W σ H Q) (hr : ∀ B φ H, R B φ H y d) : Q y H := by
  obtain ⟨B, φ, e, st, r, st', re, rs, hc, fin⟩ := h
  unfold Act.pure at hc
  cases hc
  exact fin _ _ _ _ (.refl rs) rs (hr _ _ _)
def RW (X : Cx) (e : Expr) (c : Tx) : Prop := ∀ W, Takes X W → PW X e (Tr X.K X.mg rB c W)
theorem _root_.L2.PW.imp {X : Cx} {e : Expr} {t t' : TT} (h : PW X e t) (f : ∀ σ H Q, t' σ H Q → t σ H Q) : PW X e t' := ⟨fun wh pins s σ H Q I q => h.run wh pins s σ H Q I (f σ H Q q)⟩
theorem rt_w (h : RW X a ta) : RT X a ta := fun W tk => (h W tk).pt
theorem rw_and1 (ha : RT X a ta) : RW X (.BoolOp .And [a] pos) ta := fun W tk => pw_and1 (ha W tk)
theorem rw_or1 (ha : RT X a ta) : RW X (.BoolOp .Or [a] pos) ta := fun W tk => pw_or1 (ha W tk)
theorem rw_and {rest : List Expr} (ha : RT X a ta) (hb : RW X (.BoolOp .And (b :: rest) pos) tb) : RW X (.BoolOp .And (a :: b :: rest) pos) (tAnd ta tb) := fun W tk => (pw_and (ha W tk) (hb W tk)).imp fun σ H Q h => (Tr.bind h).mono fun x H1 h1 => by
  cases x with
  | true => exact iteT (h1.then.1 rfl)
  | false => exact iteF ((h1.then.2 rfl).pure fun _ _ _ => rfl)
theorem rw_or {rest : List Expr} (ha : RT X a ta) (hb : RW X (.BoolOp .Or (b :: rest) pos) tb) : RW X (.BoolOp .Or (a :: b :: rest) pos) (tOr ta tb) := fun W tk => (pw_or (ha W tk) (hb W tk)).imp fun σ H Q h => (Tr.bind h).mono fun x H1 h1 => by
  cases x with
  | true => exact iteT ((h1.then.1 rfl).pure fun _ _ _ => rfl)
  | false => exact iteF (h1.then.2 rfl)
theorem re_if {c : Expr} {tc : Tx} (hc : RT X c tc) (ha : RE X a ca) (hb : RE X b cb) : RE X (.IfExp c a b pos) (eIf tc ca cb) := fun W tk => (pe_ifExp (hc W tk) (ha W tk) (hb W tk)).imp fun σ H Q h => (Tr.bind h).mono fun x H1 h1 => by
  cases x with
  | true => exact iteT (h1.then.1 rfl)
  | false => exact iteF (h1.then.2 rfl)
theorem TrK.andor {K : Frag} {mg : Str → Option Value} {σ : L2.St} {H : Hp} {W : WX} {x : V} {Q : VK} {f : Bool → D → Ex} (h : TrK K mg (RD K) (RD K) (fun d => (look fun st => truth st d : Tx).bind fun k => f k d) W x σ H Q) :
    ∃ k, TruV K x H k ∧ TrK K mg (RD K) (RD K) (f k) W x σ H Q := by
  obtain ⟨B, φ, e, st, d, r, st', re, rs, r1, hc, fin⟩ := h
  unfold Act.bind at hc
  dsimp only at hc
  cases hl : (look fun st => truth st d : Tx) e st with
  | none => rw [hl] at hc; cases hc
  | some p =>
    obtain ⟨q, st1⟩ := p
    rw [hl] at hc
    obtain ⟨k, rfl, rfl, hk⟩ := look_eq hl
    exact ⟨k, tru_of rs r1 hk, B, φ, e, _, d, r, st', re, rs, r1, hc, fin⟩
theorem TrK.same {K : Frag} {mg : Str → Option Value} {σ : L2.St} {H : Hp} {W : WX} {x : V} {Q : VK} (h : TrK K mg (RD K) (RD K) eC W x σ H Q) : Q x H := by
  obtain ⟨B, φ, e, st, d, r, st', re, rs, r1, hc, fin⟩ := h
  unfold eC at hc
  cases hc
  exact fin _ _ _ _ (.refl rs) rs r1
theorem TrK.drop {K : Frag} {mg : Str → Option Value} {σ : L2.St} {H : Hp} {W : WX} {α β α₁ β₁ : Type} {R₁ : Rl α₁ β₁} {R : Rl α β} {f : Act α} {x : β₁} {Q : β → Hp → Prop} (h : TrK K mg R₁ R (fun _ => f) W x σ H Q) : Tr K mg R f W σ H Q := by
  obtain ⟨B, φ, e, st, d, r, st', re, rs, r1, hc, fin⟩ := h
  exact ⟨B, φ, e, st, r, st', re, rs, hc, fin⟩
theorem re_one {op} (ha : RE X a ca) : RE X (.BoolOp op [a] pos) ca := fun W tk => pe_one (ha W tk)
theorem re_and {rest : List Expr} (ha : RE X a ca) (hb : RE X (.BoolOp .And (b :: rest) pos) cb) : RE X (.BoolOp .And (a :: b :: rest) pos) (eAnd ca cb) := fun W tk => (pe_andT (ha W tk) (hb W tk)).imp fun σ H Q h => (Tr.bind h).mono fun x H1 h1 => by
  obtain ⟨k, t, h2⟩ := TrK.andor (f := fun k d => if k = true then cb else eC d) h1
  refine ⟨k, t, ?_⟩
  cases k with
  | true => exact iteT h2.drop
  | false => exact iteF h2.same
theorem re_or {rest : List Expr} (ha : RE X a ca) (hb : RE X (.BoolOp .Or (b :: rest) pos) cb) : RE X (.BoolOp .Or (a :: b :: rest) pos) (eOr ca cb) := fun W tk => (pe_orT (ha W tk) (hb W tk)).imp fun σ H Q h => (Tr.bind h).mono fun x H1 h1 => by
  obtain ⟨k, t, h2⟩ := TrK.andor (f := fun k d => if k = true then eC d else cb) h1
  refine ⟨k, t, ?_⟩
  cases k with
  | true => exact iteT h2.same
  | false => exact iteF h2.drop
theorem re_not (ha : RE X a ca) : RE X (.UnaryOp .Not a pos) (eNotT ca) := fun W tk => (pe_notT (ha W tk)).imp fun σ H Q h => (Tr.bind h).mono fun x H1 h1 => by
  obtain ⟨B, φ, st, d, z, rs, r, hz, fin⟩ := h1.v1
  unfold vNot at hz
  cases ht : truth st d with
  | none => rw [ht] at hz; cases hz
  | some k => rw [ht] at hz; cases hz; exact ⟨k, tru_of rs r ht, fin0 rs fin (.bl _)⟩
end
end Sw

/-! Rules3: chains, places, slices, displays, arguments, built-ins by name. -/
set_option Elab.async false
set_option linter.all false
set_option maxRecDepth 100000
set_option maxHeartbeats 4000000
namespace Sw
open PySem PySem.Spec PyProof.Rows L2
variable [LamT]
section
variable {X : Cx} {a b c o : Expr} {ca cb cc : Ex} {ta tb : Tx} {pos : Pos} {es : List Expr} {cs : Ax}
theorem TrK.chain {K : Frag} {mg : Str → Option Value} {σ : L2.St} {H : Hp} {W : WX} {x y : V} {Q : VK} {g g' : Store → D → D → Option D} {cc : Ex} (hg : IsB g)
    (h : TrK K mg (R2x (RD K) (RD K)) (RD K) (fun p => (look fun st => g st p.1 p.2 : Ex).bind fun k => match k with
      | .bl true => cc.bind fun z => look fun st => g' st p.2 z
      | .bl false => eC (.bl false)
      | _ => fun _ _ => none) W (x, y) σ H Q) :
    V2 K mg g x y H fun z H3 => ∃ k, z = .bl k ∧ if k = true then Tr K mg (RD K) cc W σ H3 (fun w' H4 => V2 K mg g' y w' H4 Q) else Q (.bl false) H3 := by
  obtain ⟨B, φ, e, st, d, r, st', re, rs, r1, hc, fin⟩ := h
  unfold Act.bind at hc
  dsimp only at hc
  cases hl : (look fun st => g st d.1 d.2 : Ex) e st with
  | none => rw [hl] at hc; cases hc
  | some p =>
    obtain ⟨q, st1⟩ := p
    rw [hl] at hc
    obtain ⟨z, rfl, rfl, hz⟩ := look_eq hl
    obtain ⟨k, rfl⟩ := hg _ _ _ _ hz
    refine ⟨B, φ, _, d.1, d.2, _, rs, r1.1, r1.2, hz, fun v B' φ' H' g0 rs' rv => ?_⟩
    cases rv
    refine ⟨k, rfl, ?_⟩
    cases k with
    | false =>
      dsimp only at hc
      unfold eC at hc
      cases hc
      exact iteF (fin _ _ _ _ g0 rs' (.bl false))
    | true =>
      refine iteT ?_
      dsimp only at hc
      have t : TrK K mg (RD K) (RD K) (fun d2 => cc.bind fun z => look fun st => g' st d2 z) W y σ H' Q := ⟨B', φ', e, _, d.2, r, st', REnv.go rs g0 re, rs', RD.go rs g0 r1.2, hc, fin.go g0⟩
      exact (TrK.bind mono_d t).mono fun w' H4 h4 => h4.v2
theorem Tr.boolOf {K : Frag} {mg : Str → Option Value} {σ : L2.St} {H : Hp} {W : WX} {cE : Ex} {Q : Bool → Hp → Prop} (hb : ∀ e st d st', cE e st = some (.ok d, st') → ∃ k, d = .bl k) (h : Tr K mg rB (tV cE) W σ H Q) :
    Tr K mg (RD K) cE W σ H fun v H' => ∃ k, v = .bl k ∧ Q k H' := by
  obtain ⟨B, φ, e, st, r, st', re, rs, hc, fin⟩ := h
  unfold tV Act.bind at hc
  cases ha : cE e st with
  | none => rw [ha] at hc; cases hc
  | some p =>
    obtain ⟨q, st1⟩ := p
    rw [ha] at hc
    cases q with
    | error x =>
      simp only [Option.some.injEq, Prod.mk.injEq] at hc
      obtain ⟨rfl, rfl⟩ := hc
      exact ⟨B, φ, e, st, _, _, re, rs, ha, fin⟩
    | ok d =>
      obtain ⟨k, rfl⟩ := hb _ _ _ _ ha
      obtain ⟨k', rfl, rfl, hk⟩ := look_eq hc
      simp only [truth, Option.some.injEq] at hk
      subst hk
      exact ⟨B, φ, e, st, _, _, re, rs, ha, fun v B' φ' H' g rs' rv => by cases rv; exact ⟨k, rfl, fin k _ _ _ g rs' rfl⟩⟩
theorem bind_ok {α β : Type} {a : Act α} {f : α → Act β} {e : Env} {st st' : Store} {d : β} (h : (a.bind f) e st = some (.ok d, st')) : ∃ x st1, a e st = some (.ok x, st1) ∧ f x e st1 = some (.ok d, st') := by
  unfold Act.bind at h
  split at h
  · exact ⟨_, _, by assumption, h⟩
  · cases h
  · cases h
theorem chain_b {g g' : Store → D → D → Option D} {ca cb cc : Ex} (hg : IsB g) (hg' : IsB g') (e : Env) (st : Store) (d : D) (st' : Store) (h : eChain g g' ca cb cc e st = some (.ok d, st')) : ∃ k, d = .bl k := by
  unfold eChain at h
  obtain ⟨x, st1, h1, h⟩ := bind_ok h
  obtain ⟨y, st2, h2, h⟩ := bind_ok h
  obtain ⟨z, st3, h3, h⟩ := bind_ok h
  obtain ⟨z', e1, rfl, hz⟩ := look_eq h3
  cases e1
  obtain ⟨k, rfl⟩ := hg _ _ _ _ hz
  cases k with
  | false => unfold eC at h; cases h; exact ⟨_, rfl⟩
  | true =>
    obtain ⟨w, st4, h4, h⟩ := bind_ok h
    obtain ⟨w', e2, rfl, hw⟩ := look_eq h
    cases e2
    exact hg' _ _ _ _ hw
theorem RDs.map {K : Frag} {B B' : Addr → Prop} {φ φ' : List Addr} {H H' : Hp} (f : ∀ {v d}, RD K B φ H v d → RD K B' φ' H' v d) : ∀ {vs ds}, RDs K B φ H vs ds → RDs K B' φ' H' vs ds
  | _, _, .nil => .nil
  | _, _, .cons r t => .cons (f r) (RDs.map f t)
theorem re_chain {op op' : CmpOp} {g g' : Store → D → D → Option D} (ho : OpR X (compareOp op) (V2 X.K X.mg g)) (ho' : OpR X (compareOp op') (V2 X.K X.mg g')) (hg : IsB g) (ha : RE X a ca) (hb : RE X b cb) (hc : RE X c cc)
    (hm : lastMarks [op, op'] [b, c] = false := by with_unfolding_all rfl) : RE X (.Compare a [op, op'] [b, c] pos) (eChain g g' ca cb cc) := fun W tk =>
  (pe_chain ho ho' (ha W tk) (hb W tk) (hc W tk) hm).imp fun σ H Q h => (Tr.bind h).mono fun x H1 h1 => (TrK.bind mono_d h1).mono fun y H2 h2 => h2.chain hg
theorem rt_chain {op op' : CmpOp} {g g' : Store → D → D → Option D} (ho : OpR X (compareOp op) (V2 X.K X.mg g)) (ho' : OpR X (compareOp op') (V2 X.K X.mg g')) (hg : IsB g) (hg' : IsB g') (ha : RE X a ca) (hb : RE X b cb) (hc : RE X c cc)
    (hm : lastMarks [op, op'] [b, c] = false := by with_unfolding_all rfl) : RT X (.Compare a [op, op'] [b, c] pos) (tV (eChain g g' ca cb cc)) := fun W tk =>
  (pt_chain ho ho' (ha W tk) (hb W tk) (hc W tk) hm).imp fun σ H Q h =>
    (Tr.bind (Tr.boolOf (chain_b hg hg') h)).mono fun x H1 h1 => (TrK.bind mono_d h1).mono fun y H2 h2 => h2.chain hg
/-! ### places and slices -/
theorem ix_eq (n : Nat) (i : Int) : ixN n i = ix? n i := rfl
theorem i_ix (x y : V) (H : Hp) (Q : VK) (h : V2 X.K X.mg vIx0 x y H Q) : rIx X.K x y H Q := by
  obtain ⟨B, φ, st, d, e, z, rs, r1, r2, hz, fin⟩ := h
  cases e with
  | int k =>
    cases r2
    have seqc : ∀ xs, seq? st d = some xs → (ix? xs.length k).bind (fun j => xs[j]?) = some z → rIx X.K x (.int k) H Q := fun xs hs hj => by
      obtain ⟨p, vs, rfl, q, alt⟩ := seq_cases rs r1 hs
      cases hj' : ix? xs.length k with
      | none => rw [hj'] at hj; cases hj
      | some j =>
        rw [hj', Option.bind_some] at hj
        obtain ⟨v, hv, rv⟩ := q.get hj
        have hat : atI vs k = some v := by
          unfold atI
          rw [ix_eq, q.length, hj', Option.bind_some, hv]
        rcases alt with ⟨sq, _⟩ | ⟨sq, _⟩
        · exact .inr (.inl ⟨p, vs, k, v, rfl, rfl, sq.t, hat, fin0 rs fin rv⟩)
        · exact .inl ⟨p, vs, k, v, rfl, rfl, SqL.of sq, hat, fin0 rs fin rv⟩
    cases d with
    | str t =>
      simp only [vIx0] at hz
      cases hj' : ix? t.cps.toList.length k with
      | none => rw [hj'] at hz; cases hz
      | some j =>
        rw [hj', Option.bind_some] at hz
        cases hc : t.cps.toList[j]? with
        | none => rw [hc] at hz; cases hz
        | some c =>
          rw [hc, Option.map_some] at hz
          cases hz
          cases r1 with | str _ ok =>
          refine .inr (.inr ⟨t, k, c, rfl, rfl, ok.2, by unfold atI; rw [ix_eq, hj', Option.bind_some, hc], fin0 rs fin (.str _ ⟨?_, by show 1 ≤ sizeLine; decide⟩)⟩)
          have hm : c ∈ t.cps.toList := List.mem_of_getElem? hc
          have := ok.1
          rw [Array.all_eq_true'] at this
          simp only [List.all_toArray, List.all_cons, List.all_nil, Bool.and_true]
          exact this c (Array.mem_toList_iff.mp hm)
    | tup xs => exact seqc xs rfl (by simpa [vIx0, seq?] using hz)
    | lst xs => exact seqc xs rfl (by simpa [vIx0, seq?] using hz)
    | loc n =>
      simp only [vIx0] at hz
      cases hs : seq? st (.loc n) with
      | none => rw [hs] at hz; cases hz
      | some xs => rw [hs, Option.bind_some] at hz; exact seqc xs hs hz
    | non => simp [vIx0, seq?] at hz
    | bl _ => simp [vIx0, seq?] at hz
    | int _ => simp [vIx0, seq?] at hz
    | scr _ => simp [vIx0, seq?] at hz
    | par _ => simp [vIx0, seq?] at hz
  | _ => simp [vIx0] at hz
theorem re_ix0 (ha : RE X a ca) (hb : RE X b cb) (hs : PlainIx b := by intro _ _; rfl) : RE X (.Subscript a b pos) (op2 vIx0 ca cb) := fun W tk =>
  (pe_ix ix_seq (ha W tk) (hb W tk) hs).imp fun σ H Q h => (Tr.bind h).mono fun x H1 h1 => (TrK.bind mono_d h1).mono fun y H2 h2 => i_ix x y H2 Q h2.v2
theorem ro_none : RO X none pNone := fun W tk => po_none.imp fun σ H Q ⟨B, φ, e, st, r, st', re, rs, hc, fin⟩ => by
  unfold pNone at hc
  cases hc
  exact fin _ _ _ _ (.refl rs) rs rfl
theorem ro_some (ha : RE X a ca) : RO X (some a) (pSome ca) := fun W tk => (po_some (ha W tk)).imp fun σ H Q h => (Tr.bind h).mono fun x H1 ⟨B, φ, e, st, d, r, st', re, rs, r1, hc, fin⟩ => by
  cases d <;> dsimp only at hc <;> try (cases hc; done)
  cases r1
  unfold Act.pure at hc
  cases hc
  exact ⟨_, rfl, fin _ _ _ _ (.refl rs) rs rfl⟩
theorem cutAt_eq (n d : Nat) (o : Option Int) : HT.sIx n d o = cutAt n d o := by cases o <;> rfl
theorem RDs.cut {K : Frag} {B : Addr → Prop} {φ : List Addr} {H : Hp} {vs : List V} {ds : List D} (r : RDs K B φ H vs ds) (lo hi : Option Int) : RDs K B φ H (cutV vs lo hi) (cut ds lo hi) := by
  unfold cutV Sw.cut
  simp only [cutAt_eq, r.length]
  exact (r.drop _).take _
theorem cut_whole {α : Type} (xs : List α) (lo hi : Option Int) (h : cutAt xs.length 0 lo = 0 ∧ cutAt xs.length xs.length hi = xs.length) : cut xs lo hi = xs := by
  unfold cut
  rw [h.1, h.2]
  simp
theorem rds_ints {K : Frag} {B : Addr → Prop} {φ : List Addr} {H : Hp} : ∀ ns : List Int, RDs K B φ H (ns.map V.int) (ns.map D.int)
  | [] => .nil
  | n :: ns => .cons (.int n) (rds_ints ns)
def rSlAny (K : Frag) : V → Option Int → Option Int → Hp → VK → Prop := fun x lo hi H Q => rSlP K x lo hi H Q ∨ rSlL K x lo hi H Q ∨ rSlS x lo hi H Q
theorem sl_any : SlR X (rSlAny X.K) := SlR.or sl_tupP (SlR.or sl_list sl_str)
theorem strOk_sub {x : Str} {l : List Nat} (h : strOk x) (hs : ∀ c ∈ l, c ∈ x.cps.toList) (hl : l.length ≤ x.length) : strOk ⟨l.toArray⟩ := by
  refine ⟨?_, Nat.le_trans (by show l.toArray.size ≤ _; simpa using hl) h.2⟩
  have h1 := h.1
  rw [Array.all_eq_true'] at h1
  rw [List.all_toArray, List.all_eq_true]
  exact fun c hc => h1 c (Array.mem_toList_iff.mp (hs c hc))
theorem s_slice (x : V) (lo hi : Option Int) (H : Hp) (Q : VK) {B : Addr → Prop} {φ : List Addr} {st : Store} {d z : D} (rs : RS X.K X.mg B φ H st) (r1 : RD X.K B φ H x d) (hz : vSlice st d lo hi = some z)
    (fin : ∀ v B' φ' H', Go φ B H φ' B' H' → RS X.K X.mg B' φ' H' st → RD X.K B' φ' H' v z → Q v H') : rSlAny X.K x lo hi H Q := by
  cases d with
  | tup xs =>
    simp only [vSlice, Option.some.injEq] at hz
    subst hz
    cases r1 with | tup sq q =>
    refine .inl ⟨_, _, rfl, sq.t, fun hw => ?_, fun hw => finT rs fin (q.cut lo hi)⟩
    simp only [cutAt_eq, q.length] at hw
    rw [cut_whole xs lo hi hw] at fin
    exact fin0 rs fin (.tup sq q)
  | lst xs =>
    simp only [vSlice, seq?, Option.map_some, Option.some.injEq] at hz
    subst hz
    cases r1 with | lst sq n q =>
    exact .inr (.inl ⟨_, _, rfl, SqL.of sq, fun p hp => finL rs fin (q.cut lo hi) hp⟩)
  | loc n =>
    simp only [vSlice] at hz
    cases hs : seq? st (.loc n) with
    | none => rw [hs] at hz; cases hz
    | some xs =>
      rw [hs] at hz
      cases hz
      obtain ⟨p, vs, rfl, q, alt⟩ := seq_cases rs r1 hs
      rcases alt with ⟨_, e⟩ | ⟨sq, _⟩
      · cases e
      · exact .inr (.inl ⟨p, vs, rfl, SqL.of sq, fun p hp => finL rs fin (q.cut lo hi) hp⟩)
  | scr ns =>
    simp only [vSlice, Option.some.injEq] at hz
    subst hz
    cases r1 with | scr e =>
    exact .inr (.inl ⟨_, _, rfl, e.sq, fun p hp => finL rs fin ((rds_ints ns).cut lo hi) hp⟩)
  | str t =>
    simp only [vSlice, Option.some.injEq] at hz
    subst hz
    cases r1 with | str _ ok =>
    refine .inr (.inr ⟨t, rfl, ok.2, ?_⟩)
    have e : cutS t lo hi = ⟨(cut t.cps.toList lo hi).toArray⟩ := by
      have hl : t.length = t.cps.toList.length := by show t.cps.size = _; simp
      unfold cutS Sw.cut
      simp only [cutAt_eq, hl]
    rw [e]
    refine fin0 rs fin (.str _ (strOk_sub ok (fun c hc => ?_) ?_))
    · exact List.mem_of_mem_drop (List.mem_of_mem_take hc)
    · show (cut t.cps.toList lo hi).length ≤ t.cps.size
      unfold Sw.cut
      rw [List.length_take, List.length_drop, ← Array.length_toList]
      omega
  | _ => simp [vSlice, seq?] at hz
theorem re_slice {lo hi : Option Expr} {cl ch : Px} {p2 : Pos} (ha : RE X a ca) (hl : RO X lo cl) (hh : RO X hi ch) : RE X (.Subscript a (.Slice lo hi none p2) pos) (eSlice ca cl ch) := fun W tk =>
  (pe_slice sl_any (ha W tk) (hl W tk) (hh W tk)).imp fun σ H Q h => (Tr.bind h).mono fun x H1 h1 => (TrK.bind mono_d h1).mono fun l H2 h2 => (TrK.bind (f := fun p hi => look fun st => vSlice st p.1 p.2 hi) (mono_2 mono_d mono_o) h2).mono fun u H3 h3 => by
    obtain ⟨B, φ, e, st, d, r, st', re, rs, r1, hc, fin⟩ := h3
    obtain ⟨⟨d1, d2⟩, d3⟩ := d
    obtain ⟨⟨r11, r12⟩, r13⟩ := r1
    have e2 : l = d2 := r12
    have e3 : u = d3 := r13
    subst e2 e3
    obtain ⟨z, rfl, rfl, hz⟩ := look_eq hc
    exact s_slice x l u H3 Q rs r11 hz fin
/-- xs[::-1] of a list -/
theorem re_revL {k : Nat} {p1 p2 p3 : Pos} (ha : RE X a ca) : RE X (.Subscript a (.Slice none none (some (.UnaryOp .USub (.Constant (.int 1) k p1) p2)) p3) pos) (op1 vRevL ca) := fun W tk =>
  (pe_revL (ha W tk)).imp fun σ H Q h => (Tr.bind h).mono fun x H1 h1 => by
    obtain ⟨B, φ, st, d, z, rs, r, hz, fin⟩ := h1.v1
    unfold vRevL at hz
    cases hs : lstOf st d with
    | none => rw [hs] at hz; cases hz
    | some xs =>
      rw [hs] at hz
      cases hz
      obtain ⟨p, vs, rfl, q, sq⟩ := lst_cases rs r hs
      exact ⟨p, vs, rfl, SqL.of sq, fun p hp => finL rs fin q.reverse hp⟩
/-! ### displays and arguments -/
theorem ra_nil : RA X [] aNil := fun W tk => pa_nil.imp fun σ H Q ⟨B, φ, e, st, r, st', re, rs, hc, fin⟩ => by
  unfold aNil at hc
  cases hc
  exact fin _ _ _ _ (.refl rs) rs .nil
theorem ra_cons (ha : RE X a ca) (hr : RA X es cs) (hs : starEach (a :: es) X.env = (false, eval a X.env) :: starEach es X.env := by rfl) : RA X (a :: es) (aCons ca cs) := fun W tk =>
  (pa_cons (ha W tk) (hr W tk) hs).imp fun σ H Q h => (Tr.bind h).mono fun x H1 h1 => (TrK.bind mono_d h1).mono fun xs H2 h2 => h2.pureB fun r => .cons r.1 r.2
theorem re_tup {k} (ha : RA X es cs) : RE X (.Tuple es k pos) (eTup cs) := fun W tk => (pe_tupP (ha W tk)).imp fun σ H Q h => (Tr.bind h).mono fun xs H1 h1 => by
  obtain ⟨B, φ, st, ds, z, rs, r, hz, fin⟩ := TrK.vA (g := fun _ xs => if xs.length ≤ PySem.sizeLine then some (.tup xs) else none) h1
  dsimp only at hz
  split at hz
  · rename_i hl
    cases hz
    exact ⟨by rw [r.length]; exact hl, finT rs fin r⟩
  · cases hz
theorem re_lst (ha : RA X es cs) : RE X (.List es pos) (eLst cs) := fun W tk => (pe_lst (ha W tk)).imp fun σ H Q h => (Tr.bind h).mono fun xs H1 h1 => by
  obtain ⟨B, φ, st, ds, z, rs, r, hz, fin⟩ := TrK.vA (g := fun _ xs => if xs.length ≤ PySem.sizeLine then some (.lst xs) else none) h1
  dsimp only at hz
  split at hz
  · rename_i hl
    cases hz
    exact ⟨by rw [r.length]; exact hl, fun p hp => finL rs fin r hp⟩
  · cases hz
/-- a list that may change -/
theorem re_lstC (ha : RA X es cs) : RE X (.List es pos) (eLstC cs) := fun W tk => (pe_lst (ha W tk)).imp fun σ H Q h => (Tr.bind h).mono fun xs H1 ⟨B, φ, e, st, d, r, st', re, rs, r1, hc, fin⟩ => by
  dsimp only at hc
  split at hc
  · rename_i hl
    unfold newCell at hc
    cases hc
    refine ⟨by rw [r1.length]; exact hl, fun p hp => ?_⟩
    obtain ⟨rs', g⟩ := rs.newCell (c := .lst d) (o := .lst xs) hp trivial fun H1 f e1 => ⟨xs, e1, RDs.map f r1⟩
    refine fin _ _ _ _ g rs' (.loc ?_)
    rw [List.getElem?_append_right (by rw [rs.len]; exact Nat.le_refl _), rs.len]
    simp
  · cases hc
theorem re_dctC : RE X (.Dict [] [] pos) eDctC := fun W tk => pe_dnewK.imp fun σ H Q ⟨B, φ, e, st, r, st', re, rs, hc, fin⟩ => fun p hp => by
  unfold eDctC newCell at hc
  cases hc
  obtain ⟨rs', g⟩ := rs.newCell (c := .dct []) (o := .dK []) hp trivial fun H1 f e1 => ⟨[], e1, .nil⟩
  refine fin _ _ _ _ g rs' (.loc ?_)
  rw [List.getElem?_append_right (by rw [rs.len]; exact Nat.le_refl _), rs.len]
  simp
/-- {} that is to have tuples as keys -/
theorem re_dctT : RE X (.Dict [] [] pos) eDctT := fun W tk => pe_dnewT.imp fun σ H Q ⟨B, φ, e, st, r, st', re, rs, hc, fin⟩ => fun p hp => by
  unfold eDctT newCell at hc
  cases hc
  obtain ⟨rs', g⟩ := rs.newCell (c := .dtt []) (o := .dT []) hp trivial fun H1 f e1 => ⟨[], e1, .nil⟩
  refine fin _ _ _ _ g rs' (.loc ?_)
  rw [List.getElem?_append_right (by rw [rs.len]; exact Nat.le_refl _), rs.len]
  simp
/-! ### built-ins by name -/
variable {x : Str} {p : Pos} {id T : String} {g : Store → List D → Option D}
theorem re_bi (hc : CallR X (.builtin id) (VA X.K X.mg g)) (hg : Gl X x) (hm : X.mg x = none) (hv : bootBuiltins x = some (.builtin id)) (ha : RA X (a :: es) cs) (hn : x ≠ "__name__" := by decide) (hdb : (x == ("__debug__" : Str)) = false := by decide)
    (he : starEach (a :: es) X.env = (false, eval a X.env) :: starEach es X.env := by rfl) (hpl : (backTo pos (starEach es X.env)).any (·.1) = false := by rfl) : RE X (.Call (.Name x p) (a :: es) [] pos) (opA g cs) := fun W tk =>
  (pe_callB hc hg hm hv (ha W tk) hn hdb he hpl).imp fun σ H Q h => (Tr.bind h).mono fun xs H1 h1 => h1.vA
theorem re_ty (hc : CallR X (.type T) (VA X.K X.mg g)) (hg : Gl X x) (hm : X.mg x = none) (hv : bootBuiltins x = some (.type T)) (ha : RA X (a :: es) cs) (hn : x ≠ "__name__" := by decide) (hdb : (x == ("__debug__" : Str)) = false := by decide)
    (he : starEach (a :: es) X.env = (false, eval a X.env) :: starEach es X.env := by rfl) (hpl : (backTo pos (starEach es X.env)).any (·.1) = false := by rfl) : RE X (.Call (.Name x p) (a :: es) [] pos) (opA g cs) := fun W tk =>
  (pe_callTy hc hg hm hv (ha W tk) hn hdb he hpl).imp fun σ H Q h => (Tr.bind h).mono fun xs H1 h1 => h1.vA
/-! ### some built-ins -/
theorem args1 {K : Frag} {B : Addr → Prop} {φ : List Addr} {H : Hp} {xs : List V} {d : D} (r : RDs K B φ H xs [d]) : ∃ v, xs = [v] ∧ RD K B φ H v d := by
  cases r with | cons r t => cases t; exact ⟨_, rfl, r⟩
theorem args2 {K : Frag} {B : Addr → Prop} {φ : List Addr} {H : Hp} {xs : List V} {d e : D} (r : RDs K B φ H xs [d, e]) : ∃ v u, xs = [v, u] ∧ RD K B φ H v d ∧ RD K B φ H u e := by
  cases r with | cons r t => cases t with | cons r2 t2 => cases t2; exact ⟨_, _, rfl, r, r2⟩
theorem c_abs : CallR X (.builtin "abs") (VA X.K X.mg gAbs) := by
  intro pins s σ H xs us Q I rv ⟨B, φ, st, ds, z, rs, r, hz, fin⟩
  unfold gAbs at hz
  split at hz
  · cases hz
    obtain ⟨v, rfl, rd⟩ := args1 r
    cases rd
    exact call_abs pins s σ H _ us Q I rv ⟨_, rfl, fin0 rs fin (.int _)⟩
  · cases hz
theorem c_int : CallR X (.type "int") (VA X.K X.mg gInt) := by
  intro pins s σ H xs us Q I rv ⟨B, φ, st, ds, z, rs, r, hz, fin⟩
  unfold gInt at hz
  split at hz
  · cases hz
    obtain ⟨v, rfl, rd⟩ := args1 r
    cases rd
    exact call_int1 pins s σ H _ us Q I rv (.inl ⟨_, rfl, fin0 rs fin (.int _)⟩)
  · cases hz
    obtain ⟨v, rfl, rd⟩ := args1 r
    cases rd
    exact call_int1 pins s σ H _ us Q I rv (.inr ⟨_, rfl, fin0 rs fin (.int _)⟩)
  · cases hz
theorem c_max2 (hc : X.calm = true) : CallR X (.builtin "max") (VA X.K X.mg gMax2) := by
  intro pins s σ H xs us Q I rv ⟨B, φ, st, ds, z, rs, r, hz, fin⟩
  unfold gMax2 at hz
  split at hz
  · cases hz
    obtain ⟨v, u, rfl, rd, rd2⟩ := args2 r
    cases rd; cases rd2
    exact call_max2 hc pins s σ H _ us Q I rv ⟨_, _, rfl, fin0 rs fin (.int _)⟩
  · cases hz
theorem c_min2 (hc : X.calm = true) : CallR X (.builtin "min") (VA X.K X.mg gMin2) := by
  intro pins s σ H xs us Q I rv ⟨B, φ, st, ds, z, rs, r, hz, fin⟩
  unfold gMin2 at hz
  split at hz
  · cases hz
    obtain ⟨v, u, rfl, rd, rd2⟩ := args2 r
    cases rd; cases rd2
    exact call_min2 hc pins s σ H _ us Q I rv ⟨_, _, rfl, fin0 rs fin (.int _)⟩
  · cases hz
theorem bls_eq : ∀ {xs : List D} {bs : List Bool}, bls? xs = some bs → xs = bs.map D.bl
  | [], bs, h => by simp [bls?] at h; subst h; rfl
  | x :: xs, bs, h => by
    cases x <;> simp only [bls?] at h <;> try (cases h; done)
    cases hq : bls? xs with
    | none => rw [hq] at h; cases h
    | some cs => rw [hq] at h; cases h; rw [bls_eq hq]; rfl
theorem ints_eq : ∀ {xs : List D} {bs : List Int}, ints? xs = some bs → xs = bs.map D.int
  | [], bs, h => by simp [ints?] at h; subst h; rfl
  | x :: xs, bs, h => by
    cases x <;> simp only [ints?] at h <;> try (cases h; done)
    cases hq : ints? xs with
    | none => rw [hq] at h; cases h
    | some cs => rw [hq] at h; cases h; rw [ints_eq hq]; rfl
theorem strs_eq : ∀ {xs : List D} {bs : List Str}, strs? xs = some bs → xs = bs.map D.str
  | [], bs, h => by simp [strs?] at h; subst h; rfl
  | x :: xs, bs, h => by
    cases x <;> simp only [strs?] at h <;> try (cases h; done)
    cases hq : strs? xs with
    | none => rw [hq] at h; cases h
    | some cs => rw [hq] at h; cases h; rw [strs_eq hq]; rfl
theorem c_all (hc : X.calm = true) : CallR X (.builtin "all") (VA X.K X.mg gAll) := by
  intro pins s σ H xs us Q I rv ⟨B, φ, st, ds, z, rs, r, hz, fin⟩
  unfold gAll at hz
  split at hz
  · obtain ⟨v, rfl, rd⟩ := args1 r
    rename_i d
    cases hs : lstOf st d with
    | none => rw [hs] at hz; cases hz
    | some ys =>
      rw [hs, Option.bind_some] at hz
      cases hb : bls? ys with
      | none => rw [hb] at hz; cases hz
      | some bs =>
        rw [hb] at hz
        cases hz
        obtain ⟨p, vs, rfl, q, sq⟩ := lst_cases rs rd hs
        rw [bls_eq hb] at q
        have := q.bls
        subst this
        exact cr_all hc pins s σ H _ us Q I rv ⟨_, _, rfl, SqL.of sq, fin0 rs fin (.bl _)⟩
  · cases hz
theorem c_any (hc : X.calm = true) : CallR X (.builtin "any") (VA X.K X.mg gAny) := by
  intro pins s σ H xs us Q I rv ⟨B, φ, st, ds, z, rs, r, hz, fin⟩
  unfold gAny at hz
  split at hz
  · obtain ⟨v, rfl, rd⟩ := args1 r
    rename_i d
    cases hs : lstOf st d with
    | none => rw [hs] at hz; cases hz
    | some ys =>
      rw [hs, Option.bind_some] at hz
      cases hb : bls? ys with
      | none => rw [hb] at hz; cases hz
      | some bs =>
        rw [hb] at hz
        cases hz
        obtain ⟨p, vs, rfl, q, sq⟩ := lst_cases rs rd hs
        rw [bls_eq hb] at q
        have := q.bls
        subst this
        exact cr_any hc pins s σ H _ us Q I rv ⟨_, _, rfl, SqL.of sq, fin0 rs fin (.bl _)⟩
  · cases hz
theorem c_sum (hc : X.calm = true) : CallR X (.builtin "sum") (VA X.K X.mg gSum) := by
  intro pins s σ H xs us Q I rv ⟨B, φ, st, ds, z, rs, r, hz, fin⟩
  unfold gSum at hz
  split at hz
  · obtain ⟨v, rfl, rd⟩ := args1 r
    rename_i d
    cases hs : lstOf st d with
    | none => rw [hs] at hz; cases hz
    | some ys =>
      rw [hs, Option.bind_some] at hz
      cases hb : ints? ys with
      | none => rw [hb] at hz; cases hz
      | some bs =>
        rw [hb] at hz
        cases hz
        obtain ⟨p, vs, rfl, q, sq⟩ := lst_cases rs rd hs
        rw [ints_eq hb] at q
        have := q.ints
        subst this
        exact cr_sum hc pins s σ H _ us Q I rv ⟨_, _, rfl, SqL.of sq, fin0 rs fin (.int _)⟩
  · cases hz
theorem c_list : CallR X (.type "list") (VA X.K X.mg gList) := by
  intro pins s σ H xs us Q I rv ⟨B, φ, st, ds, z, rs, r, hz, fin⟩
  unfold gList at hz
  split at hz
  · obtain ⟨v, rfl, rd⟩ := args1 r
    rename_i d
    cases hs : seq? st d with
    | none => rw [hs] at hz; cases hz
    | some ys =>
      rw [hs] at hz
      cases hz
      obtain ⟨p, vs, rfl, q, alt⟩ := seq_cases rs rd hs
      refine call_list_of pins s σ H _ us Q I rv ⟨p, vs, rfl, ?_, fun l hl => finL rs fin q hl⟩
      rcases alt with ⟨sq, _⟩ | ⟨sq, _⟩
      · exact .inr sq.t
      · exact .inl (SqL.of sq)
  · cases hz
theorem c_tuple : CallR X (.type "tuple") (VA X.K X.mg gTuple) := by
  intro pins s σ H xs us Q I rv ⟨B, φ, st, ds, z, rs, r, hz, fin⟩
  unfold gTuple at hz
  split at hz
  · obtain ⟨v, rfl, rd⟩ := args1 r
    rename_i d
    cases hs : seq? st d with
    | none => rw [hs] at hz; cases hz
    | some ys =>
      rw [hs] at hz
      cases hz
      obtain ⟨p, vs, rfl, q, alt⟩ := seq_cases rs rd hs
      refine call_tupleP pins s σ H _ us Q I rv ⟨p, vs, rfl, ?_⟩
      rcases alt with ⟨sq, e⟩ | ⟨sq, _⟩
      · exact .inr ⟨sq.t, fin0 rs fin (.tup sq q)⟩
      · exact .inl ⟨SqL.of sq, fun H1 eH => eH ▸ finT rs fin q⟩
  · cases hz
theorem RKv.length {K : Frag} {B : Addr → Prop} {φ : List Addr} {H : Hp} {κ : Type} {kd : κ → D} : ∀ {vs : List (κ × V)} {ds : List (D × D)}, RKv K B φ H kd vs ds → vs.length = ds.length
  | _, _, .nil => rfl
  | _, _, .cons _ _ t => congrArg (· + 1) (RKv.length t)
theorem dct_cases {K : Frag} {mg : Str → Option Value} {B : Addr → Prop} {φ : List Addr} {H : Hp} {st : Store} (rs : RS K mg B φ H st) {v : V} {d : D} {kvs : List (D × D)} (r : RD K B φ H v d) (h : dct? st d = some kvs) :
    ∃ a, v = .ref a ∧ ((∃ ks, H a = some (.dK ks) ∧ RKv K B φ H keyD ks kvs) ∨ (∃ ks, H a = some (.dT ks) ∧ RKv K B φ H tupKey ks kvs)) := by
  cases r with
  | loc e =>
    rename_i a n
    cases hs : st[n]? with
    | none => simp [dct?, hs] at h
    | some c =>
      cases c with
      | dct ys =>
        simp only [dct?, hs, Option.some.injEq] at h
        subst h
        obtain ⟨b, e', rc⟩ := rs.at_ n _ hs
        rw [e] at e'
        cases e'
        exact ⟨_, rfl, .inl rc⟩
      | dtt ys =>
        simp only [dct?, hs, Option.some.injEq] at h
        subst h
        obtain ⟨b, e', rc⟩ := rs.at_ n _ hs
        rw [e] at e'
        cases e'
        exact ⟨_, rfl, .inr rc⟩
      | lst _ => simp [dct?, hs] at h
      | ins _ _ => simp [dct?, hs] at h
      | dlk _ => simp [dct?, hs] at h
      | llk _ => simp [dct?, hs] at h
  | _ => simp [dct?] at h
theorem c_len : CallR X (.builtin "len") (VA X.K X.mg gLen) := by
  intro pins s σ H xs us Q I rv ⟨B, φ, st, ds, z, rs, r, hz, fin⟩
  unfold gLen at hz
  split at hz
  · cases hz
    obtain ⟨v, rfl, rd⟩ := args1 r
    cases rd with | str _ ok =>
    exact call_len_str pins s σ H _ us Q I rv ⟨_, rfl, ok.2, fin0 rs fin (.int _)⟩
  · obtain ⟨v, rfl, rd⟩ := args1 r
    rename_i d _
    cases hs : seq? st d with
    | some ys =>
      rw [hs] at hz
      cases hz
      obtain ⟨p, vs, rfl, q, alt⟩ := seq_cases rs rd hs
      refine call_len_seq pins s σ H _ us Q I rv ⟨p, vs, rfl, ?_, by rw [q.length]; exact fin0 rs fin (.int _)⟩
      rcases alt with ⟨sq, e⟩ | ⟨sq, _⟩
      · exact .inr sq.t
      · exact .inl (SqL.of sq)
    | none =>
      rw [hs] at hz
      dsimp only at hz
      cases hd : dct? st d with
      | none => rw [hd] at hz; cases hz
      | some kvs =>
        rw [hd] at hz
        cases hz
        obtain ⟨a, rfl, alt⟩ := dct_cases rs rd hd
        rcases alt with ⟨ks, e, r⟩ | ⟨ks, e, r⟩
        · exact call_lenD pins s σ H _ us Q I rv ⟨a, ks, rfl, e, by rw [r.length]; exact fin0 rs fin (.int _)⟩
        · exact call_len_dT pins s σ H _ us Q I rv ⟨a, ks, rfl, e, by rw [r.length]; exact fin0 rs fin (.int _)⟩
  · cases hz
end
end Sw

/-! Rules4: statements, targets, loops, comprehensions. -/
set_option Elab.async false
set_option linter.all false
set_option maxRecDepth 100000
set_option maxHeartbeats 4000000
namespace Sw
open PySem PySem.Spec PyProof.Rows L2
variable [LamT]
/-! ### the reading of a statement -/
def FinS (K : Frag) (mg : Str → Option Value) (B : Addr → Prop) (φ : List Addr) (H : Hp) (st' : Store) (D : Ends) (W : WX) : SR → Prop
  | .nx e' => ∀ σ' B' φ' H', Go φ B H φ' B' H' → RS K mg B' φ' H' st' → REnv K B' φ' H' σ' e' → D.nx σ' H'
  | .rt d => ∀ v B' φ' H', Go φ B H φ' B' H' → RS K mg B' φ' H' st' → RD K B' φ' H' v d → D.rt v H'
  | .bk e' => ∀ σ' B' φ' H', Go φ B H φ' B' H' → RS K mg B' φ' H' st' → REnv K B' φ' H' σ' e' → D.bk σ' H'
  | .ct e' => ∀ σ' B' φ' H', Go φ B H φ' B' H' → RS K mg B' φ' H' st' → REnv K B' φ' H' σ' e' → D.ct σ' H'
  | .ex x e' => ∀ cls dx σ' B' φ' H', Go φ B H φ' B' H' → RS K mg B' φ' H' st' → REnv K B' φ' H' σ' e' → RX K mg B' φ' H' x cls dx → W cls dx σ' H'
def TrS (K : Frag) (mg : Str → Option Value) (c : Sx) (W : WX) : TS := fun D σ H =>
  ∃ B φ e st r st', REnv K B φ H σ e ∧ RS K mg B φ H st ∧ c e st = some (r, st') ∧ FinS K mg B φ H st' D W r
section
variable (X : Cx)
def RSt (s : Stmt) (c : Sx) : Prop := ∀ W, Takes X W → PS X s (TrS X.K X.mg c W)
def RSs (s : List Stmt) (c : Sx) : Prop := ∀ W, Takes X W → PSs X s (TrS X.K X.mg c W)
end
/-- the reading of a target -/
def TrG (K : Frag) (mg : Str → Option Value) (g : Tg) : TG := fun v σ H Q =>
  ∃ B φ e st d e' st', REnv K B φ H σ e ∧ RS K mg B φ H st ∧ RD K B φ H v d ∧ g d e st = some (e', st') ∧
    ∀ σ' B' φ' H', Go φ B H φ' B' H' → RS K mg B' φ' H' st' → REnv K B' φ' H' σ' e' → Q σ' H'
def TrGs (K : Frag) (mg : Str → Option Value) (g : List Tg) : TGs := fun v σ H Q =>
  ∃ B φ e st d e' st', REnv K B φ H σ e ∧ RS K mg B φ H st ∧ RDs K B φ H v d ∧ gTups g d e st = some (e', st') ∧
    ∀ σ' B' φ' H', Go φ B H φ' B' H' → RS K mg B' φ' H' st' → REnv K B' φ' H' σ' e' → Q σ' H'
def RG (X : Cx) (tg : Expr) (g : Tg) : Prop := ∀ W, Takes X W → PG X tg (TrG X.K X.mg g)
def RGs (X : Cx) (tg : List Expr) (g : List Tg) : Prop := ∀ W, Takes X W → PGs X tg (TrGs X.K X.mg g)
section
variable {K : Frag} {mg : Str → Option Value} {B B' : Addr → Prop} {φ φ' : List Addr} {H H' : Hp} {st st' : Store} {En : Ends} {W : WX} {σ : L2.St} {e : Env}
theorem FinS.go {r : SR} (g : Go φ B H φ' B' H') (h : FinS K mg B φ H st En W r) : FinS K mg B' φ' H' st En W r := by
  cases r with
  | nx e => exact fun σ B2 φ2 H2 g2 => h σ B2 φ2 H2 (g.trans g2)
  | rt d => exact fun σ B2 φ2 H2 g2 => h σ B2 φ2 H2 (g.trans g2)
  | bk e => exact fun σ B2 φ2 H2 g2 => h σ B2 φ2 H2 (g.trans g2)
  | ct e => exact fun σ B2 φ2 H2 g2 => h σ B2 φ2 H2 (g.trans g2)
  | ex x e => exact fun c d σ B2 φ2 H2 g2 => h c d σ B2 φ2 H2 (g.trans g2)
theorem REnv.set {v : V} {d : D} {i : Nat} (re : REnv K B φ H σ e) (r : RD K B φ H v d) : REnv K B φ H (σ.set i (some v)) (e.set i (some d)) := by
  refine ⟨by rw [List.length_set, List.length_set, re.1], fun j d' h => ?_⟩
  by_cases hj : j = i
  · subst hj
    by_cases hl : j < e.length
    · rw [List.getElem?_set_self hl] at h
      cases h
      exact ⟨v, List.getElem?_set_self (by rw [re.1]; exact hl), r⟩
    · rw [List.getElem?_eq_none (by rw [List.length_set]; omega)] at h; cases h
  · rw [List.getElem?_set_ne (Ne.symm hj)] at h
    obtain ⟨u, h1, h2⟩ := re.2 j d' h
    exact ⟨u, by rw [List.getElem?_set_ne (Ne.symm hj)]; exact h1, h2⟩
theorem REnv.unset {i : Nat} (re : REnv K B φ H σ e) : REnv K B φ H σ (e.set i none) := by
  refine ⟨by rw [List.length_set, re.1], fun j d' h => ?_⟩
  by_cases hj : j = i
  · subst hj
    by_cases hl : j < e.length
    · rw [List.getElem?_set_self hl] at h; cases h
    · rw [List.getElem?_eq_none (by rw [List.length_set]; omega)] at h; cases h
  · rw [List.getElem?_set_ne (Ne.symm hj)] at h
    exact re.2 j d' h
theorem REnv.wipe (re : REnv K B φ H σ e) : ∀ vs : List Nat, REnv K B φ H σ (Sw.wipe e vs)
  | [] => re
  | v :: vs => (REnv.wipe re vs).unset
theorem REnv.wipe2 (re : REnv K B φ H σ e) : ∀ vs : List Nat, REnv K B φ H (L2.wipe σ vs) (Sw.wipe e vs)
  | [] => re
  | v :: vs => by
    have q := REnv.wipe2 re vs
    unfold L2.wipe Sw.wipe
    refine ⟨by rw [List.length_set, List.length_set, q.1], fun j d' h => ?_⟩
    by_cases hj : j = v
    · subst hj
      by_cases hl : j < (Sw.wipe e vs).length
      · rw [List.getElem?_set_self hl] at h; cases h
      · rw [List.getElem?_eq_none (by rw [List.length_set]; omega)] at h; cases h
    · rw [List.getElem?_set_ne (Ne.symm hj)] at h
      obtain ⟨u, h1, h2⟩ := q.2 j d' h
      exact ⟨u, by rw [List.getElem?_set_ne (Ne.symm hj)]; exact h1, h2⟩
/-- an expression's outcome as a statement's -/
theorem Tr.intoS {α β : Type} {R : Rl α β} {a : Act α} {f : α → Env → Store → Option (SR × Store)} {c : Sx} (hc : ∀ e st, c e st = match a e st with
    | some (.ok d, st') => f d e st'
    | some (.error x, st') => some (.ex x e, st')
    | none => none) (h : TrS K mg c W En σ H) :
    Tr K mg R a W σ H fun v H1 => ∃ B φ e st d r st', REnv K B φ H1 σ e ∧ RS K mg B φ H1 st ∧ R B φ H1 v d ∧ f d e st = some (r, st') ∧ FinS K mg B φ H1 st' En W r := by
  obtain ⟨B, φ, e, st, r, st', re, rs, h1, fin⟩ := h
  rw [hc] at h1
  cases ha : a e st with
  | none => rw [ha] at h1; cases h1
  | some p =>
    obtain ⟨q, st1⟩ := p
    rw [ha] at h1
    cases q with
    | error x =>
      cases h1
      exact ⟨B, φ, e, st, _, _, re, rs, ha, fun cls dx B' φ' H' g rs' rx => fin cls dx σ B' φ' H' g rs' (REnv.go rs g re) rx⟩
    | ok d => exact ⟨B, φ, e, st, _, _, re, rs, ha, fun v B' φ' H' g rs' rd => ⟨B', φ', e, st1, d, r, st', REnv.go rs g re, rs', rd, h1, fin.go g⟩⟩
end
section
variable {X : Cx} {a b c o : Expr} {ca cb cc : Ex} {ta tb : Tx} {pos : Pos} {es : List Expr} {cs : Ax} {s1 : Stmt} {ss ss2 : List Stmt} {c1 c2 : Sx}
theorem rs_nil : RSs X [] sSkip := fun W tk => pss_nil.imp fun D σ H ⟨B, φ, e, st, r, st', re, rs, hc, fin⟩ => by
  unfold sSkip at hc
  cases hc
  exact fin σ _ _ _ (.refl rs) rs re
theorem rs_cons (h1 : RSt X s1 c1) (h2 : RSs X ss c2) : RSs X (s1 :: ss) (sSeq c1 c2) := fun W tk => (pss_cons (h1 W tk) (h2 W tk)).imp fun D σ H ⟨B, φ, e, st, r, st', re, rs, hc, fin⟩ => by
  unfold sSeq at hc
  cases ha : c1 e st with
  | none => rw [ha] at hc; cases hc
  | some p =>
    obtain ⟨q, st1⟩ := p
    rw [ha] at hc
    cases q with
    | nx e1 => exact ⟨B, φ, e, st, _, _, re, rs, ha, fun σ' B' φ' H' g rs' re' => ⟨B', φ', e1, st1, r, st', re', rs', hc, fin.go g⟩⟩
    | rt d => cases hc; exact ⟨B, φ, e, st, _, _, re, rs, ha, fin⟩
    | bk d => cases hc; exact ⟨B, φ, e, st, _, _, re, rs, ha, fin⟩
    | ct d => cases hc; exact ⟨B, φ, e, st, _, _, re, rs, ha, fin⟩
    | ex d f => cases hc; exact ⟨B, φ, e, st, _, _, re, rs, ha, fin⟩
theorem rs_one (h1 : RSt X s1 c1) : RSs X [s1] c1 := fun W tk => pss_one (h1 W tk)
theorem rs_pass : RSt X (.Pass pos) sSkip := fun W tk => ps_pass.imp fun D σ H ⟨B, φ, e, st, r, st', re, rs, hc, fin⟩ => by
  unfold sSkip at hc
  cases hc
  exact fin σ _ _ _ (.refl rs) rs re
theorem rs_break : RSt X (.Break pos) sBreak := fun W tk => ps_break.imp fun D σ H ⟨B, φ, e, st, r, st', re, rs, hc, fin⟩ => by
  unfold sBreak at hc
  cases hc
  exact fin σ _ _ _ (.refl rs) rs re
theorem rs_cont : RSt X (.Continue pos) sCont := fun W tk => ps_continue.imp fun D σ H ⟨B, φ, e, st, r, st', re, rs, hc, fin⟩ => by
  unfold sCont at hc
  cases hc
  exact fin σ _ _ _ (.refl rs) rs re
theorem rs_never : RSt X s1 sNever := fun W tk => ps_never.imp fun D σ H ⟨B, φ, e, st, r, st', re, rs, hc, fin⟩ => by cases hc
theorem rs_do (ha : RE X a ca) (hs : swapsWith a none pos.line X.env = pure false := by rfl) : RSt X (.Expr a pos) (sDo ca) := fun W tk => (ps_expr (ha W tk) hs).imp fun D σ H h =>
  (Tr.intoS (c := sDo ca) (f := fun _ e st => some (.nx e, st)) (fun e st => by unfold sDo; cases ca e st with | none => rfl | some p => obtain ⟨q, st1⟩ := p; cases q <;> rfl) h).mono fun v H1 ⟨B, φ, e, st, d, r, st', re, rs, r1, hc, fin⟩ => by
    cases hc
    exact fin σ _ _ _ (.refl rs) rs re
theorem rs_ret (ha : RE X a ca) : RSt X (.Return (some a) pos) (sRet ca) := fun W tk => (ps_ret (ha W tk)).imp fun D σ H h =>
  (Tr.intoS (c := sRet ca) (f := fun d _ st => some (.rt d, st)) (fun e st => by unfold sRet; cases ca e st with | none => rfl | some p => obtain ⟨q, st1⟩ := p; cases q <;> rfl) h).mono fun v H1 ⟨B, φ, e, st, d, r, st', re, rs, r1, hc, fin⟩ => by
    cases hc
    exact fin v _ _ _ (.refl rs) rs r1
theorem rs_retN : RSt X (.Return none pos) (sRet (eC .non)) := fun W tk => ps_retN.imp fun D σ H ⟨B, φ, e, st, r, st', re, rs, hc, fin⟩ => by
  cases hc
  exact fin _ _ _ _ (.refl rs) rs .non
theorem rs_if {tc : Tx} (hc : RT X c tc) (h1 : RSs X ss c1) (h2 : RSs X ss2 c2) : RSt X (.If c ss ss2 pos) (sIf tc c1 c2) := fun W tk => (ps_if (hc W tk) (h1 W tk) (h2 W tk)).imp fun D σ H h =>
  (Tr.intoS (R := rB) (c := sIf tc c1 c2) (f := fun b e st => if b = true then c1 e st else c2 e st) (fun e st => by unfold sIf; cases tc e st with | none => rfl | some p => obtain ⟨q, st1⟩ := p; cases q with | error x => rfl | ok b => cases b <;> rfl) h).mono fun v H1 ⟨B, φ, e, st, d, r, st', re, rs, r1, hc, fin⟩ => by
    have r1 : v = d := r1
    subst r1
    cases v with
    | true => exact iteT ⟨B, φ, e, st, r, st', re, rs, hc, fin⟩
    | false => exact iteF ⟨B, φ, e, st, r, st', re, rs, hc, fin⟩
/-! ### targets -/
theorem rg_name {i : Nat} {x : Str} (hN : X.N.Nodup) (hi : X.N[i]? = some x) (hx : Loc X.env.scope x) (hf : X.fn x = true ∨ X.env.scope.names.lookup x = some .local := by first | exact .inl rfl | exact .inr rfl | assumption) : RG X (.Name x pos) (gName i) := fun W tk =>
  (pg_name hN hi hx hf).imp fun v σ H Q ⟨B, φ, e, st, d, e', st', re, rs, rd, hc, fin⟩ => by
    unfold Sw.gName at hc
    cases hc
    exact fin _ _ _ _ (.refl rs) rs (re.set rd)
theorem _root_.L2.PGs.imp {X : Cx} {e : List Expr} {t t' : TGs} (h : PGs X e t) (f : ∀ v σ H Q, t' v σ H Q → t v σ H Q) : PGs X e t' := ⟨fun pins s σ H v u Q I r q => h.run pins s σ H v u Q I r (f v σ H Q q)⟩
theorem rgs_nil : RGs X [] [] := fun W tk => pgs_nil.imp fun v σ H Q ⟨B, φ, e, st, d, e', st', re, rs, rd, hc, fin⟩ => by
  cases d with
  | nil =>
    cases rd
    unfold gTups at hc
    cases hc
    exact ⟨rfl, fin _ _ _ _ (.refl rs) rs re⟩
  | cons _ _ => unfold gTups at hc; cases hc
theorem rgs_cons {g : Tg} {gs : List Tg} (h1 : RG X a g) (h2 : RGs X es gs) (hs : (assignEach (a :: es) X.env).map (·.2) = assign a X.env :: (assignEach es X.env).map (·.2) := by rfl) : RGs X (a :: es) (g :: gs) := fun W tk =>
  (pgs_cons (h1 W tk) (h2 W tk) hs).imp fun v σ H Q ⟨B, φ, e, st, d, e', st', re, rs, rd, hc, fin⟩ => by
    cases d with
    | nil => unfold gTups at hc; cases hc
    | cons d ds =>
      cases rd with | cons r t =>
      unfold gTups at hc
      split at hc
      · rename_i e1 st1 hg
        exact ⟨_, _, rfl, B, φ, e, st, d, e1, st1, re, rs, r, hg, fun σ' B' φ' H' g rs' re' => ⟨B', φ', e1, st1, ds, e', st', re', rs', RDs.go rs g t, hc, fun σ2 B2 φ2 H2 g2 => fin σ2 B2 φ2 H2 (g.trans g2)⟩⟩
      · cases hc
theorem _root_.L2.PG.or {X : Cx} {e : Expr} {t t' : TG} (h : PG X e t) (h' : PG X e t') : PG X e (fun v σ H Q => t v σ H Q ∨ t' v σ H Q) := ⟨fun pins s σ H v u Q I r q => by
  rcases q with q | q
  · exact h.run pins s σ H v u Q I r q
  · exact h'.run pins s σ H v u Q I r q⟩
theorem gTups_len : ∀ {gs : List Tg} {ds : List D} {e e' : Env} {st st' : Store}, gTups gs ds e st = some (e', st') → ds.length = gs.length
  | [], [], _, _, _, _, _ => rfl
  | [], _ :: _, _, _, _, _, h => by unfold gTups at h; cases h
  | _ :: _, [], _, _, _, _, h => by unfold gTups at h; cases h
  | g :: gs, d :: ds, _, _, _, _, h => by
    unfold gTups at h
    split at h
    · exact congrArg (· + 1) (gTups_len h)
    · cases h
theorem rg_tup {k : Nat} {gs : List Tg} (hc : X.calm = true) (h : RGs X es gs) (hn : (assignEach es X.env).length = gs.length := by rfl) (hst : (assignEach es X.env).findIdx? (·.1) = none := by rfl) : RG X (.Tuple es k pos) (gTup gs) := fun W tk =>
  ((pg_tup hc (h W tk) hn hst).or (pg_unl hc (h W tk) hn hst)).imp fun v σ H Q ⟨B, φ, e, st, d, e', st', re, rs, rd, hc, fin⟩ => by
    unfold Sw.gTup at hc
    cases d with
    | tup ds =>
      cases rd with | tup sq q =>
      exact .inl ⟨_, _, rfl, sq.t, by rw [q.length]; exact gTups_len hc, B, φ, e, st, ds, e', st', re, rs, q, hc, fin⟩
    | par ds =>
      cases rd with | par sq q =>
      exact .inl ⟨_, _, rfl, .inl sq, by rw [q.length]; exact gTups_len hc, B, φ, e, st, ds, e', st', re, rs, q, hc, fin⟩
    | lst ds =>
      cases rd with | lst sq nb q =>
      exact .inr ⟨_, _, rfl, SqL.of sq, by rw [q.length]; exact gTups_len hc, B, φ, e, st, ds, e', st', re, rs, q, hc, fin⟩
    | _ => cases hc
theorem rs_asg {tg : Expr} {g : Tg} (ha : RE X a ca) (hg : RG X tg g) (hs : swapsWithSole [tg] a pos.line X.env = pure false := by rfl) (hw : swappedStores [tg] a X.env = pure none := by rfl)
    (h1 : (assignEach [tg] X.env).map (·.2) = [assign tg X.env] := by rfl) : RSt X (.Assign [tg] a pos) (sAsg ca g) := fun W tk => (ps_asg (ha W tk) (hg W tk) hs hw h1).imp fun D σ H h =>
  (Tr.intoS (c := sAsg ca g) (f := fun d e st => match g d e st with | some (e', st'') => some (.nx e', st'') | none => none) (fun e st => by unfold sAsg; cases ca e st with | none => rfl | some p => obtain ⟨q, st1⟩ := p; cases q <;> rfl) h).mono fun v H1 ⟨B, φ, e, st, d, r, st', re, rs, r1, hc, fin⟩ => by
    cases hg' : g d e st with
    | none => rw [hg'] at hc; cases hc
    | some p =>
      obtain ⟨e', st1⟩ := p
      rw [hg'] at hc
      cases hc
      exact ⟨B, φ, e, st, d, e', _, re, rs, r1, hg', fin⟩
theorem rs_set {i : Nat} {x : Str} {p' : Pos} (hN : X.N.Nodup) (hi : X.N[i]? = some x) (hx : Loc X.env.scope x) (ha : RE X a ca) (hs : swapsWith a (some (.Name x p')) pos.line X.env = pure false := by rfl)
    (hf : X.fn x = true ∨ X.env.scope.names.lookup x = some .local := by first | exact .inl rfl | exact .inr rfl | assumption) : RSt X (.Assign [.Name x p'] a pos) (sSet i ca) := fun W tk => (ps_set hN hi hx (ha W tk) hs hf).imp fun D σ H h =>
  (Tr.intoS (c := sSet i ca) (f := fun d e st => some (.nx (e.set i (some d)), st)) (fun e st => by unfold sSet sAsg Sw.gName; cases ca e st with | none => rfl | some p => obtain ⟨q, st1⟩ := p; cases q <;> rfl) h).mono fun v H1 ⟨B, φ, e, st, d, r, st', re, rs, r1, hc, fin⟩ => by
    cases hc
    exact fin _ _ _ _ (.refl rs) rs (re.set r1)
theorem rs_par {i j : Nat} {x y : Str} {px py pt : Pos} {kt k2 pt2} (hc : X.calm = true) (hN : X.N.Nodup) (hi : X.N[i]? = some x) (hj : X.N[j]? = some y) (hij : i ≠ j)
    (hx : X.env.scope.names.lookup x = some .local) (hy : X.env.scope.names.lookup y = some .local) (ha : RA X [a, b] cs)
    (hw : swappedStores [.Tuple [.Name x px, .Name y py] kt pt] (.Tuple [a, b] k2 pt2) X.env = pure (some [x, y]) := by rfl)
    (hs : swapsWithSole [.Tuple [.Name x px, .Name y py] kt pt] (.Tuple [a, b] k2 pt2) pos.line X.env = pure false := by rfl) :
    RSt X (.Assign [.Tuple [.Name x px, .Name y py] kt pt] (.Tuple [a, b] k2 pt2) pos) (sPar [gName i, gName j] cs) := fun W tk => (ps_par hc hN hi hj hij hx hy (ha W tk) hw hs).imp fun D σ H h =>
  (Tr.intoS (c := sPar [gName i, gName j] cs) (f := fun ds e st => match gTups [gName i, gName j] ds e st with | some (e', st'') => some (.nx e', st'') | none => none) (fun e st => by unfold sPar; cases cs e st with | none => rfl | some p => obtain ⟨q, st1⟩ := p; cases q <;> rfl) h).mono fun v H1 ⟨B, φ, e, st, d, r, st', re, rs, r1, hc, fin⟩ => by
    match d, r1, hc with
    | [], _, hc => simp [gTups] at hc
    | [_], _, hc => simp [gTups, Sw.gName] at hc
    | [d1, d2], r1, hc =>
      obtain ⟨v, u, rfl, q1, q2⟩ := args2 r1
      simp only [gTups, Sw.gName, Option.some.injEq, Prod.mk.injEq] at hc
      obtain ⟨rfl, rfl⟩ := hc
      exact ⟨v, u, rfl, fin _ _ _ _ (.refl rs) rs ((re.set q1).set q2)⟩
    | _ :: _ :: _ :: _, _, hc => simp [gTups, Sw.gName] at hc
/-! ### loops -/
/-- what is walked: J goes over ds wherever the state goes on to -/
def ItRel (K : Frag) (mg : Str → Option Value) (J : It) (ds : List D) (B : Addr → Prop) (φ : List Addr) (H : Hp) : Prop :=
  ∀ B' φ' H' st', Go φ B H φ' B' H' → RS K mg B' φ' H' st' → ∀ i, (ds.length ≤ i → J.stop i H') ∧
    ∀ d, ds[i]? = some d → J.go i H' ∧ ∀ x H'', J.yld i H' x H'' → ∃ B'', Go φ' B' H' φ' B'' H'' ∧ RS K mg B'' φ' H'' st' ∧ RD K B'' φ' H'' x d
def TrI (K : Frag) (mg : Str → Option Value) (c : Act (List D)) (W : WX) : TI := fun σ H R =>
  ∃ B φ e st r st', REnv K B φ H σ e ∧ RS K mg B φ H st ∧ c e st = some (r, st') ∧ match r with
    | .ok ds => ∀ J B' φ' H', Go φ B H φ' B' H' → RS K mg B' φ' H' st' → ItRel K mg J ds B' φ' H' → ds.length ≤ sizeLine → R J H'
    | .error x => ∀ cls dx B' φ' H', Go φ B H φ' B' H' → RS K mg B' φ' H' st' → RX K mg B' φ' H' x cls dx → W cls dx σ H'
def RI (X : Cx) (tg it : Expr) (c : Act (List D)) : Prop := ∀ W, Takes X W → PI X tg it (TrI X.K X.mg c W)
theorem _root_.L2.PE.know {X : Cx} {e : Expr} {t : TE} (h : PE X e t) : PE X e (fun σ H Q => t σ H fun v H' => (∃ pins s, Inv X pins σ H' s) → Q v H') :=
  ⟨fun pins s σ H Q I q => thn (h.run pins s σ H _ I q) fun u s' ⟨v, H', I', r, q'⟩ => ⟨v, H', I', r, q' ⟨pins, s', I'⟩⟩⟩
theorem _root_.L2.PA.know {X : Cx} {e : List Expr} {t : TA} (h : PA X e t) : PA X e (fun σ H Q => t σ H fun v H' => (∃ pins s, Inv X pins σ H' s) → Q v H') :=
  ⟨fun pos pins s σ H Q I q => thn (h.run pos pins s σ H _ I q) fun u s' ⟨v, H', I', r, q'⟩ => ⟨v, H', I', r, q' ⟨pins, s', I'⟩⟩⟩
theorem ItRel.go {K : Frag} {mg : Str → Option Value} {J : It} {ds : List D} {B B' : Addr → Prop} {φ φ' : List Addr} {H H' : Hp} (g : Go φ B H φ' B' H') (h : ItRel K mg J ds B φ H) : ItRel K mg J ds B' φ' H' := fun B2 φ2 H2 st2 g2 => h B2 φ2 H2 st2 (g.trans g2)
theorem rs_for {tg it : Expr} {ci : Act (List D)} {g : Tg} {vs : List Nat} {cb : Sx} (hp : ∀ W, Takes X W → PassesOwn (model X.prog X.w) X.A X.env X.xe) (hc : X.calm = true) (hi : RI X tg it ci) (hg : RG X tg g) (hb : RSs X ss cb)
    (hs : ∀ x, foldedSetIterable it X.env x = pure x := by intro _; rfl) : RSt X (.For tg it ss [] pos) (sFor ci g vs cb) := fun W tk => (ps_for (hp W tk) hc (hi W tk) (hg W tk) (hb W tk) hs).imp fun D σ H ⟨B, φ, e, st, r, st', re, rs, hc, fin⟩ => by
  unfold sFor at hc
  cases ha : ci e st with
  | none => rw [ha] at hc; cases hc
  | some p =>
    obtain ⟨q, st1⟩ := p
    rw [ha] at hc
    cases q with
    | error x =>
      cases hc
      exact ⟨B, φ, e, st, _, _, re, rs, ha, fun cls dx B' φ' H' g rs' rx => fin cls dx σ B' φ' H' g rs' (REnv.go rs g re) rx⟩
    | ok ds =>
      refine ⟨B, φ, e, st, _, _, re, rs, ha, fun J B1 φ1 H1 g1 rs1 it1 _ => ?_⟩
      dsimp only at hc
      refine ⟨fun i m σ' H' => m = ds.length - i ∧ i ≤ ds.length ∧ ∃ B' φ' e' st2, Go φ B H φ' B' H' ∧ Go φ1 B1 H1 φ' B' H' ∧ RS X.K X.mg B' φ' H' st2 ∧ REnv X.K B' φ' H' σ' e' ∧ forL g vs cb (ds.drop i) e' st2 = some (r, st'),
        ⟨ds.length, by simp, Nat.zero_le _, B1, φ1, Sw.wipe e vs, st1, g1, .refl rs1, rs1, (REnv.go rs g1 re).wipe vs, hc⟩, ?_⟩
      rintro i m σ' H' ⟨rfl, hi', B', φ', e', st2, g0, g2, rs2, re2, hf⟩
      obtain ⟨hstop, hgo⟩ := it1 B' φ' H' st2 g2 rs2 i
      by_cases hlt : i < ds.length
      · have hd : ds[i]? = some ds[i] := List.getElem?_eq_getElem hlt
        rw [List.drop_eq_getElem_cons hlt] at hf
        unfold forL at hf
        obtain ⟨go, yl⟩ := hgo _ hd
        refine .inr ⟨go, fun σ3 H3 => ∃ B3 φ3 e3 st3, Go φ B H φ3 B3 H3 ∧ Go φ1 B1 H1 φ3 B3 H3 ∧ RS X.K X.mg B3 φ3 H3 st3 ∧ REnv X.K B3 φ3 H3 σ3 e3 ∧ forL g vs cb (ds.drop (i + 1)) (Sw.wipe e3 vs) st3 = some (r, st'), ?_, fun x H'' hy => ?_⟩
        · rintro σ3 H3 ⟨B3, φ3, e3, st3, g3, g4, rs3, re3, hf3⟩
          exact ⟨ds.length - (i + 1), by omega, rfl, hlt, B3, φ3, _, st3, g3, g4, rs3, re3.wipe vs, hf3⟩
        · obtain ⟨B'', gy, rsy, rdy⟩ := yl x H'' hy
          cases hg1 : g ds[i] e' st2 with
          | none => rw [hg1] at hf; cases hf
          | some p1 =>
            obtain ⟨e4, st4⟩ := p1
            rw [hg1] at hf
            refine ⟨B'', φ', e', st2, ds[i], e4, st4, REnv.go rs2 gy re2, rsy, rdy, hg1, fun σ5 B5 φ5 H5 g5 rs5 re5 => ?_⟩
            dsimp only at hf
            cases hb1 : cb e4 st4 with
            | none => rw [hb1] at hf; cases hf
            | some p2 =>
              obtain ⟨q2, st6⟩ := p2
              rw [hb1] at hf
              have gg := (g0.trans gy).trans g5
              have gg1 := (g2.trans gy).trans g5
              refine ⟨B5, φ5, e4, st4, q2, st6, re5, rs5, hb1, ?_⟩
              cases q2 with
              | nx e7 => exact fun σ7 B7 φ7 H7 g7 rs7 re7 => ⟨B7, φ7, e7, st6, gg.trans g7, gg1.trans g7, rs7, re7, hf⟩
              | ct e7 => exact fun σ7 B7 φ7 H7 g7 rs7 re7 => ⟨B7, φ7, e7, st6, gg.trans g7, gg1.trans g7, rs7, re7, hf⟩
              | bk e7 =>
                cases hf
                exact fun σ7 B7 φ7 H7 g7 rs7 re7 => fin σ7 B7 φ7 H7 (gg.trans g7) rs7 (re7.wipe vs)
              | rt d7 =>
                cases hf
                exact fun v7 B7 φ7 H7 g7 rs7 rd7 => fin v7 B7 φ7 H7 (gg.trans g7) rs7 rd7
              | ex x7 e7 =>
                cases hf
                exact fun c7 d7 σ7 B7 φ7 H7 g7 rs7 re7 rx7 => fin c7 d7 σ7 B7 φ7 H7 (gg.trans g7) rs7 re7 rx7
      · have e0 : ds.drop i = [] := List.drop_eq_nil_of_le (by omega)
        rw [e0] at hf
        unfold forL sSkip at hf
        cases hf
        exact .inl ⟨hstop (by omega), fin σ' B' φ' H' g0 rs2 re2⟩
theorem rs_while {tc : Tx} {vs : List Nat} {cb : Sx} (hp : ∀ W, Takes X W → PassesOwn (model X.prog X.w) X.A X.env X.xe) (hc : RT X c tc) (hb : RSs X ss cb) : RSt X (.While c ss [] pos) (sWhile tc vs cb) := fun W tk => (ps_while (hp W tk) (hc W tk) (hb W tk)).imp fun D σ H ⟨B, φ, e, st, r, st', re, rs, hw, fin⟩ => by
  obtain ⟨n, hw⟩ := sWhile_iff.mp hw
  refine ⟨fun m σ' H' => ∃ B' φ' e' st2, Go φ B H φ' B' H' ∧ RS X.K X.mg B' φ' H' st2 ∧ REnv X.K B' φ' H' σ' e' ∧ whileN tc vs cb m e' st2 = some (r, st'), ⟨n, B, φ, _, st, .refl rs, rs, re.wipe vs, hw⟩, ?_⟩
  rintro m σ' H' ⟨B', φ', e', st2, g0, rs2, re2, hw⟩
  cases m with
  | zero => unfold whileN at hw; cases hw
  | succ m =>
    unfold whileN at hw
    cases hc' : tc e' st2 with
    | none => rw [hc'] at hw; cases hw
    | some p =>
      obtain ⟨q, st3⟩ := p
      rw [hc'] at hw
      refine ⟨B', φ', e', st2, q, st3, re2, rs2, hc', ?_⟩
      cases q with
      | error x =>
        cases hw
        exact fun cls dx B3 φ3 H3 g3 rs3 rx3 => fin cls dx σ' B3 φ3 H3 (g0.trans g3) rs3 (REnv.go rs2 g3 re2) rx3
      | ok b =>
        intro v B3 φ3 H3 g3 rs3 hv
        have hv : v = b := hv
        subst hv
        cases v with
        | false =>
          cases hw
          exact iteF (fin σ' B3 φ3 H3 (g0.trans g3) rs3 (REnv.go rs2 g3 re2))
        | true =>
          refine iteT ⟨fun σ4 H4 => ∃ B4 φ4 e4 st4, Go φ B H φ4 B4 H4 ∧ RS X.K X.mg B4 φ4 H4 st4 ∧ REnv X.K B4 φ4 H4 σ4 e4 ∧ whileN tc vs cb m (Sw.wipe e4 vs) st4 = some (r, st'), ?_, ?_⟩
          · rintro σ4 H4 ⟨B4, φ4, e4, st4, g4, rs4, re4, hw4⟩
            exact ⟨m, Nat.lt_succ_self m, B4, φ4, _, st4, g4, rs4, re4.wipe vs, hw4⟩
          · dsimp only at hw
            cases hb1 : cb e' st3 with
            | none => rw [hb1] at hw; cases hw
            | some p2 =>
              obtain ⟨q2, st6⟩ := p2
              rw [hb1] at hw
              have gg := g0.trans g3
              refine ⟨B3, φ3, e', st3, q2, st6, REnv.go rs2 g3 re2, rs3, hb1, ?_⟩
              cases q2 with
              | nx e7 => exact fun σ7 B7 φ7 H7 g7 rs7 re7 => ⟨B7, φ7, e7, st6, gg.trans g7, rs7, re7, hw⟩
              | ct e7 => exact fun σ7 B7 φ7 H7 g7 rs7 re7 => ⟨B7, φ7, e7, st6, gg.trans g7, rs7, re7, hw⟩
              | bk e7 =>
                cases hw
                exact fun σ7 B7 φ7 H7 g7 rs7 re7 => fin σ7 B7 φ7 H7 (gg.trans g7) rs7 (re7.wipe vs)
              | rt d7 =>
                cases hw
                exact fun v7 B7 φ7 H7 g7 rs7 rd7 => fin v7 B7 φ7 H7 (gg.trans g7) rs7 rd7
              | ex x7 e7 =>
                cases hw
                exact fun c7 d7 σ7 B7 φ7 H7 g7 rs7 re7 rx7 => fin c7 d7 σ7 B7 φ7 H7 (gg.trans g7) rs7 re7 rx7
end
end Sw

/-! Rules5: what is walked; comprehensions. -/
set_option Elab.async false
set_option linter.all false
set_option maxRecDepth 100000
set_option maxHeartbeats 4000000
namespace Sw
open PySem PySem.Spec PyProof.Rows L2
variable [LamT]
theorem _root_.L2.PI.or {X : Cx} {tg e : Expr} {t t' : TI} (h : PI X tg e t) (h' : PI X tg e t') : PI X tg e (fun σ H Q => t σ H Q ∨ t' σ H Q) := ⟨fun pins s σ H R I q => by
  rcases q with q | q
  · exact h.run pins s σ H R I q
  · exact h'.run pins s σ H R I q⟩
section
variable {K : Frag} {mg : Str → Option Value} {B B' : Addr → Prop} {φ φ' : List Addr} {H H' : Hp} {st st' : Store} {a b : Addr} {vs ws : List V} {ds es : List D}
/-- a value that the walk makes anew: a pair -/
theorem yld_pair (rs : RS K mg B φ H st) {x y : V} {d e : D} {T : Addr} (r1 : RD K B φ H x d) (r2 : RD K B φ H y e) (hT : H T = none) :
    ∃ B'', Go φ B H φ B'' (upd H T (.tup [x, y])) ∧ RS K mg B'' φ (upd H T (.tup [x, y])) st ∧ RD K B'' φ (upd H T (.tup [x, y])) (.ref T) (.par [d, e]) := by
  obtain ⟨rs', g⟩ := rs.newThing (o := .tup [x, y]) hT
  exact ⟨B, g, rs', .par (.inl upd_same) (.cons (RD.go rs g r1) (.cons (RD.go rs g r2) .nil))⟩
theorem it_tup (rs : RS K mg B φ H st) (sq : SqT K H a vs) (q : RDs K B φ H vs ds) : ItRel K mg (Itt K a) ds B φ H := fun B' φ' H' st' g rs' i => by
  have sq' : SqT K H' a vs := sq.imp (g.tupOn rs _ _) id
  refine ⟨fun hi => ⟨vs, sq', by rw [q.length]; exact hi⟩, fun d hd => ?_⟩
  obtain ⟨v, hv, rv⟩ := q.get hd
  refine ⟨⟨vs, v, sq', hv⟩, fun x H'' hy => ?_⟩
  obtain ⟨rfl, hx⟩ := hy
  have := (hx vs sq').symm.trans hv
  cases this
  exact ⟨B', .refl rs', rs', RD.go rs g rv⟩
theorem it_lst (rs : RS K mg B φ H st) (sq : H a = some (.lst vs)) (nb : ¬ B a) (q : RDs K B φ H vs ds) : ItRel K mg (Itl K a) ds B φ H := fun B' φ' H' st' g rs' i => by
  have sq' : SqL K H' a vs := SqL.of (g.lstOn rs _ _ sq nb).1
  refine ⟨fun hi => ⟨vs, sq', by rw [q.length]; exact hi⟩, fun d hd => ?_⟩
  obtain ⟨v, hv, rv⟩ := q.get hd
  refine ⟨⟨vs, v, sq', hv⟩, fun x H'' hy => ?_⟩
  obtain ⟨rfl, hx⟩ := hy
  have := (hx vs sq').symm.trans hv
  cases this
  exact ⟨B', .refl rs', rs', RD.go rs g rv⟩
theorem it_str {x : Str} (ok : strOk x) : ItRel K mg (Its x) (x.cps.toList.map fun c => .str ⟨#[c]⟩) B φ H := fun B' φ' H' st' g rs' i => by
  refine ⟨fun hi => by show x.cps.size ≤ i; simpa using hi, fun d hd => ?_⟩
  rw [List.getElem?_map] at hd
  cases hc : x.cps.toList[i]? with
  | none => rw [hc] at hd; cases hd
  | some c =>
    rw [hc] at hd
    cases hd
    have hi : i < x.cps.size := by simpa using (List.getElem?_eq_some_iff.mp hc).1
    refine ⟨hi, fun v H'' hy => ?_⟩
    obtain ⟨rfl, c', hc', rfl⟩ := hy
    have : c' = c := by
      rw [Array.getElem?_toList] at hc
      exact Option.some.inj (hc'.symm.trans hc)
    subst this
    refine ⟨B', .refl rs', rs', .str _ (strOk_sub ok (l := [c']) (fun y hy => ?_) (by show 1 ≤ x.cps.size; omega))⟩
    have : y = c' := by simpa using hy
    subst this
    exact List.mem_of_getElem? hc
theorem it_range {lo : Int} {n : Nat} : ItRel K mg (Itr lo n) ((List.range n).map fun (k : Nat) => D.int (lo + (k : Int))) B φ H := fun B' φ' H' st' g rs' i => by
  refine ⟨fun hi => by show n ≤ i; simpa using hi, fun d hd => ?_⟩
  rw [List.getElem?_map] at hd
  by_cases hi : i < n
  · rw [List.getElem?_range hi] at hd
    cases hd
    refine ⟨hi, fun v H'' hy => ?_⟩
    obtain ⟨rfl, rfl⟩ := hy
    exact ⟨B', .refl rs', rs', .int _⟩
  · rw [List.getElem?_eq_none (by simp; omega)] at hd; cases hd
theorem zipP_get {xs ys : List D} {i : Nat} {d : D} (h : (zipP xs ys)[i]? = some d) : ∃ x y, xs[i]? = some x ∧ ys[i]? = some y ∧ d = .par [x, y] := by
  unfold zipP at h
  rw [List.getElem?_map] at h
  cases hz : (xs.zip ys)[i]? with
  | none => rw [hz] at h; cases h
  | some p =>
    rw [hz] at h
    cases h
    rw [List.getElem?_zip_eq_some] at hz
    exact ⟨_, _, hz.1, hz.2, rfl⟩
theorem zipL_len (xs ys : List D) : (zipL xs ys).length = min xs.length ys.length := by simp [zipL]
theorem zipP_len (xs ys : List D) : (zipP xs ys).length = min xs.length ys.length := by simp [zipP]
theorem zipL_get {xs ys : List D} {i : Nat} {d : D} (h : (zipL xs ys)[i]? = some d) : ∃ x y, xs[i]? = some x ∧ ys[i]? = some y ∧ d = .tup [x, y] := by
  unfold zipL at h
  rw [List.getElem?_map] at h
  cases hz : (xs.zip ys)[i]? with
  | none => rw [hz] at h; cases h
  | some p =>
    rw [hz] at h
    cases h
    rw [List.getElem?_zip_eq_some] at hz
    exact ⟨_, _, hz.1, hz.2, rfl⟩
theorem it_zipL {xs ys : List D} (rs : RS K mg B φ H st) (sq : H a = some (.lst vs)) (nb : ¬ B a) (q : RDs K B φ H vs xs) (sq2 : H b = some (.lst ws)) (nb2 : ¬ B b) (q2 : RDs K B φ H ws ys) : ItRel K mg (Itz K a b) (zipP xs ys) B φ H := fun B' φ' H' st' g rs' i => by
  have s1 : SqL K H' a vs := SqL.of (g.lstOn rs _ _ sq nb).1
  have s2 : SqL K H' b ws := SqL.of (g.lstOn rs _ _ sq2 nb2).1
  refine ⟨fun hi => ⟨vs, ws, s1, s2, ?_⟩, fun d hd => ?_⟩
  · rw [zipP_len, ← q.length, ← q2.length] at hi; omega
  · obtain ⟨x, y, hx, hy, rfl⟩ := zipP_get hd
    obtain ⟨v, hv, rv⟩ := q.get hx
    obtain ⟨w, hw, rw_⟩ := q2.get hy
    refine ⟨⟨vs, ws, v, w, s1, s2, hv, hw⟩, fun z H'' hz => ?_⟩
    obtain ⟨T, x', y', rfl, hT, rfl, h1, h2⟩ := hz
    have e1 := (h1 vs s1).symm.trans hv
    have e2 := (h2 ws s2).symm.trans hw
    cases e1; cases e2
    exact yld_pair rs' (RD.go rs g rv) (RD.go rs g rw_) hT
theorem it_zipT {xs ys : List D} (rs : RS K mg B φ H st) (sq : SqT K H a vs) (q : RDs K B φ H vs xs) (sq2 : SqT K H b ws) (q2 : RDs K B φ H ws ys) : ItRel K mg (RZ.ItzT K a b) (zipP xs ys) B φ H := fun B' φ' H' st' g rs' i => by
  have s1 : SqT K H' a vs := sq.imp (g.tupOn rs _ _) id
  have s2 : SqT K H' b ws := sq2.imp (g.tupOn rs _ _) id
  refine ⟨fun hi => ⟨vs, ws, s1, s2, ?_⟩, fun d hd => ?_⟩
  · rw [zipP_len, ← q.length, ← q2.length] at hi; omega
  · obtain ⟨x, y, hx, hy, rfl⟩ := zipP_get hd
    obtain ⟨v, hv, rv⟩ := q.get hx
    obtain ⟨w, hw, rw_⟩ := q2.get hy
    refine ⟨⟨vs, ws, v, w, s1, s2, hv, hw⟩, fun z H'' hz => ?_⟩
    obtain ⟨T, x', y', rfl, hT, rfl, h1, h2⟩ := hz
    have e1 := (h1 vs s1).symm.trans hv
    have e2 := (h2 ws s2).symm.trans hw
    cases e1; cases e2
    exact yld_pair rs' (RD.go rs g rv) (RD.go rs g rw_) hT
theorem it_enumL {xs : List D} (rs : RS K mg B φ H st) (sq : H a = some (.lst vs)) (nb : ¬ B a) (q : RDs K B φ H vs xs) : ItRel K mg (Ite K a) (enumL xs) B φ H := fun B' φ' H' st' g rs' i => by
  have s1 : SqL K H' a vs := SqL.of (g.lstOn rs _ _ sq nb).1
  refine ⟨fun hi => ⟨vs, s1, ?_⟩, fun d hd => ?_⟩
  · rw [q.length]; simpa [enumL] using hi
  · unfold enumL at hd
    rw [List.getElem?_mapIdx] at hd
    cases hx : xs[i]? with
    | none => rw [hx] at hd; cases hd
    | some x =>
      rw [hx] at hd
      cases hd
      obtain ⟨v, hv, rv⟩ := q.get hx
      refine ⟨⟨vs, v, s1, hv⟩, fun z H'' hz => ?_⟩
      obtain ⟨T, x', rfl, hT, rfl, h1⟩ := hz
      have e1 := (h1 vs s1).symm.trans hv
      cases e1
      exact yld_pair rs' (.int _) (RD.go rs g rv) hT
end
/-! ### the judgement of a walk -/
section
variable {X : Cx} {a b tg : Expr} {ca cb : Ex} {ta tb : Tx} {pos p : Pos}
theorem TrI.bind {K : Frag} {mg : Str → Option Value} {α β : Type} {R₁ : Rl α β} {c : Act α} {f : α → Act (List D)} {W : WX} {σ : L2.St} {H : Hp} {R : It → Hp → Prop} (h : TrI K mg (c.bind f) W σ H R) :
    Tr K mg R₁ c W σ H fun v H1 => ∃ B φ e st d r st', REnv K B φ H1 σ e ∧ RS K mg B φ H1 st ∧ R₁ B φ H1 v d ∧ f d e st = some (r, st') ∧ match r with
      | .ok ds => ∀ J B' φ' H', Go φ B H1 φ' B' H' → RS K mg B' φ' H' st' → ItRel K mg J ds B' φ' H' → ds.length ≤ sizeLine → R J H'
      | .error x => ∀ cls dx B' φ' H', Go φ B H1 φ' B' H' → RS K mg B' φ' H' st' → RX K mg B' φ' H' x cls dx → W cls dx σ H' := by
  obtain ⟨B, φ, e, st, r, st', re, rs, hc, fin⟩ := h
  unfold Act.bind at hc
  cases ha : c e st with
  | none => rw [ha] at hc; cases hc
  | some p =>
    obtain ⟨q, st1⟩ := p
    rw [ha] at hc
    cases q with
    | error x =>
      simp only [Option.some.injEq, Prod.mk.injEq] at hc
      obtain ⟨rfl, rfl⟩ := hc
      exact ⟨B, φ, e, st, _, _, re, rs, ha, fin⟩
    | ok d =>
      refine ⟨B, φ, e, st, _, _, re, rs, ha, fun v B' φ' H' g rs' rd => ⟨B', φ', e, st1, d, r, st', REnv.go rs g re, rs', rd, hc, ?_⟩⟩
      cases r with
      | ok ds => exact fun J B2 φ2 H2 g2 => fin J B2 φ2 H2 (g.trans g2)
      | error x => exact fun cls dx B2 φ2 H2 g2 => fin cls dx B2 φ2 H2 (g.trans g2)
/-- what a plain walk asks -/
def VI (K : Frag) (mg : Str → Option Value) (g : Store → List D → Option (List D)) : List V → Hp → (It → Hp → Prop) → Prop := fun xs H R =>
  ∃ B φ st ds zs, RS K mg B φ H st ∧ RDs K B φ H xs ds ∧ g st ds = some zs ∧ ∀ J B' φ' H', Go φ B H φ' B' H' → RS K mg B' φ' H' st → ItRel K mg J zs B' φ' H' → R J H'
theorem ri_seq (ha : RE X a ca) : RI X tg a (iSeq ca) := fun W tk => ((pi_tup (ha W tk).know).or ((pi_list (ha W tk).know).or (pi_str (ha W tk).know))).imp fun σ H R ⟨B, φ, e, st, r, st', re, rs, hc, fin⟩ => by
  unfold iSeq Act.bind at hc
  cases ha' : ca e st with
  | none => rw [ha'] at hc; cases hc
  | some p =>
    obtain ⟨q, st1⟩ := p
    rw [ha'] at hc
    cases q with
    | error x =>
      simp only [Option.some.injEq, Prod.mk.injEq] at hc
      obtain ⟨rfl, rfl⟩ := hc
      exact .inl ⟨B, φ, e, st, _, _, re, rs, ha', fin⟩
    | ok d =>
      obtain ⟨ds, rfl, rfl, hd⟩ := look_eq hc
      cases d with
      | tup xs =>
        cases hd
        refine .inl ⟨B, φ, e, st, _, _, re, rs, ha', fun v B' φ' H' g rs' rd => ?_⟩
        cases rd with | tup sq q =>
        rintro ⟨pins, s, I⟩
        obtain ⟨_, _, _, hl⟩ := I.tuple sq.t
        exact ⟨_, rfl, ⟨_, sq.t⟩, fin _ _ _ _ g rs' (it_tup rs' sq.t q) (by rw [← q.length]; exact hl)⟩
      | lst xs =>
        cases hd
        refine .inr (.inl ⟨B, φ, e, st, _, _, re, rs, ha', fun v B' φ' H' g rs' rd => ?_⟩)
        cases rd with | lst sq nb q =>
        rintro ⟨pins, s, I⟩
        obtain ⟨_, _, _, hl⟩ := I.list (SqL.of sq)
        exact ⟨_, rfl, ⟨_, SqL.of sq⟩, fin _ _ _ _ g rs' (it_lst rs' sq nb q) (by rw [← q.length]; exact hl)⟩
      | str x =>
        cases hd
        refine .inr (.inr ⟨B, φ, e, st, _, _, re, rs, ha', fun v B' φ' H' g rs' rd => ?_⟩)
        cases rd with | str _ ok =>
        exact fun _ => ⟨_, rfl, fin _ _ _ _ g rs' (it_str ok) (by rw [List.length_map, Array.length_toList]; exact ok.2)⟩
      | _ => cases hd
theorem args_one {K : Frag} {mg : Str → Option Value} {f : D → Act (List D)} {W : WX} {σ : L2.St} {H : Hp} {R : It → Hp → Prop} {Q : List V → Hp → Prop} (h : TrI K mg (ca.bind f) W σ H R)
    (k : ∀ v H1, (∃ B φ e st d r st', REnv K B φ H1 σ e ∧ RS K mg B φ H1 st ∧ RD K B φ H1 v d ∧ f d e st = some (r, st') ∧ match r with
      | .ok ds => ∀ J B' φ' H', Go φ B H1 φ' B' H' → RS K mg B' φ' H' st' → ItRel K mg J ds B' φ' H' → ds.length ≤ sizeLine → R J H'
      | .error x => ∀ cls dx B' φ' H', Go φ B H1 φ' B' H' → RS K mg B' φ' H' st' → RX K mg B' φ' H' x cls dx → W cls dx σ H') → Q [v] H1) : Tr K mg (RDs K) (aCons ca aNil) W σ H Q := by
  have h1 := TrI.bind (R₁ := RD K) h
  obtain ⟨B, φ, e, st, r, st', re, rs, hc, fin⟩ := h1
  cases r with
  | error x => exact ⟨B, φ, e, st, .error x, st', re, rs, by unfold aCons Act.bind; rw [hc], fin⟩
  | ok d =>
    refine ⟨B, φ, e, st, .ok [d], st', re, rs, by unfold aCons Act.bind aNil Act.pure; rw [hc], fun vs B' φ' H' g rs' rd => ?_⟩
    obtain ⟨v, rfl, rd1⟩ := args1 rd
    exact k v H' (fin v B' φ' H' g rs' rd1)
theorem args_two {K : Frag} {mg : Str → Option Value} {f : D → D → Act (List D)} {W : WX} {σ : L2.St} {H : Hp} {R : It → Hp → Prop} {Q : List V → Hp → Prop} (h : TrI K mg (ca.bind fun d => cb.bind fun d2 => f d d2) W σ H R)
    (k : ∀ v u H1, (∃ B φ e st d d2 r st', REnv K B φ H1 σ e ∧ RS K mg B φ H1 st ∧ RD K B φ H1 v d ∧ RD K B φ H1 u d2 ∧ f d d2 e st = some (r, st') ∧ match r with
      | .ok ds => ∀ J B' φ' H', Go φ B H1 φ' B' H' → RS K mg B' φ' H' st' → ItRel K mg J ds B' φ' H' → ds.length ≤ sizeLine → R J H'
      | .error x => ∀ cls dx B' φ' H', Go φ B H1 φ' B' H' → RS K mg B' φ' H' st' → RX K mg B' φ' H' x cls dx → W cls dx σ H') → Q [v, u] H1) : Tr K mg (RDs K) (aCons ca (aCons cb aNil)) W σ H Q := by
  obtain ⟨B, φ, e, st, r, st', re, rs, hc, fin⟩ := h
  unfold Act.bind at hc
  cases ha' : ca e st with
  | none => rw [ha'] at hc; cases hc
  | some p =>
    obtain ⟨q, st1⟩ := p
    rw [ha'] at hc
    cases q with
    | error x =>
      simp only [Option.some.injEq, Prod.mk.injEq] at hc
      obtain ⟨rfl, rfl⟩ := hc
      exact ⟨B, φ, e, st, .error x, _, re, rs, by unfold aCons Act.bind; rw [ha'], fin⟩
    | ok d =>
      dsimp only at hc
      cases hb' : cb e st1 with
      | none => rw [hb'] at hc; cases hc
      | some p2 =>
        obtain ⟨q2, st2⟩ := p2
        rw [hb'] at hc
        cases q2 with
        | error x =>
          simp only [Option.some.injEq, Prod.mk.injEq] at hc
          obtain ⟨rfl, rfl⟩ := hc
          exact ⟨B, φ, e, st, .error x, _, re, rs, by unfold aCons Act.bind; rw [ha']; dsimp only; rw [hb'], fin⟩
        | ok d2 =>
          refine ⟨B, φ, e, st, .ok [d, d2], st2, re, rs, by unfold aCons Act.bind aNil Act.pure; rw [ha']; dsimp only; rw [hb'], fun v B' φ' H' g rs' rd => ?_⟩
          obtain ⟨v, u, rfl, rd, rd2⟩ := args2 rd
          refine k v u H' ⟨B', φ', e, st2, d, d2, r, st', REnv.go rs g re, rs', rd, rd2, hc, ?_⟩
          cases r with
          | ok ds => exact fun J B2 φ2 H2 g2 => fin J B2 φ2 H2 (g.trans g2)
          | error x => exact fun cls dx B2 φ2 H2 g2 => fin cls dx B2 φ2 H2 (g.trans g2)
theorem ri_range1 (hg : Gl X "range") (hm : X.mg "range" = none) (ha : RA X [a] (aCons ca aNil)) (hs : starEach [a] X.env = [(false, eval a X.env)] := by rfl) : RI X tg (.Call (.Name "range" p) [a] [] pos) (iRange1 ca) := fun W tk =>
  (pi_range1 hg hm (ha W tk) hs).imp fun σ H R h => args_one h fun v H1 ⟨B, φ, e, st, d, r, st', re, rs, rd, hc, fin⟩ => by
    obtain ⟨ds, rfl, rfl, hd⟩ := look_eq hc
    cases d with
    | int j =>
      cases rd
      dsimp only at hd
      split at hd
      · rename_i hj
        cases hd
        have hz : (sizeLine : Int) = 16777216 := by decide
        refine ⟨j, rfl, hj.2, by omega, fin _ _ _ _ (.refl rs) rs ?_ (by unfold rangeL; rw [List.length_map, List.length_range]; omega)⟩
        have := it_range (K := X.K) (mg := X.mg) (lo := 0) (n := j.toNat) (B := B) (φ := φ) (H := H1)
        unfold rangeL
        rw [Int.sub_zero]
        exact this
      · cases hd
    | _ => cases hd
theorem ri_range2 (hg : Gl X "range") (hm : X.mg "range" = none) (ha : RA X [a, b] (aCons ca (aCons cb aNil))) (hs : starEach [a, b] X.env = [(false, eval a X.env), (false, eval b X.env)] := by rfl) (hs2 : starEach [b] X.env = [(false, eval b X.env)] := by rfl) :
    RI X tg (.Call (.Name "range" p) [a, b] [] pos) (iRange2 ca cb) := fun W tk =>
  (pi_range2 hg hm (ha W tk) hs hs2).imp fun σ H R h => args_two h fun v u H1 ⟨B, φ, e, st, d, d2, r, st', re, rs, rd, rd2, hc, fin⟩ => by
    obtain ⟨ds, rfl, rfl, hd⟩ := look_eq hc
    cases d <;> try (cases hd; done)
    cases d2 <;> try (cases hd; done)
    cases rd; cases rd2
    dsimp only at hd
    split at hd
    · rename_i hj
      cases hd
      exact ⟨_, _, rfl, ⟨hj.1, hj.2.1, hj.2.2.1, hj.2.2.2.1⟩, fin _ _ _ _ (.refl rs) rs it_range (by unfold rangeL; rw [List.length_map, List.length_range]; omega)⟩
    · cases hd
/-- enumerate of a list -/
theorem ri_enumL {elts : List Expr} {kk : Nat} {tpos : Pos} (hg : Gl X "enumerate") (hm : X.mg "enumerate" = none) (ha : RA X [a] (aCons ca aNil)) (hs : starEach [a] X.env = [(false, eval a X.env)] := by rfl) :
    RI X (.Tuple elts kk tpos) (.Call (.Name "enumerate" p) [a] [] pos) (iEnumL ca) := fun W tk =>
  (pi_enum hg hm (ha W tk).know hs).imp fun σ H R h => args_one h fun v H1 ⟨B, φ, e, st, d, r, st', re, rs, rd, hc, fin⟩ => by
    obtain ⟨ds, rfl, rfl, hd⟩ := look_eq hc
    cases d with
    | lst xs =>
      cases hd
      cases rd with | lst sq nb q =>
      rintro ⟨pins, s, I⟩
      obtain ⟨_, _, _, hl⟩ := I.list (SqL.of sq)
      exact ⟨_, _, rfl, SqL.of sq, fin _ _ _ _ (.refl rs) rs (it_enumL rs sq nb q) (by unfold enumL; rw [List.length_mapIdx, ← q.length]; exact hl)⟩
    | _ => cases hd
/-- zip of two lists, of two tuples -/
theorem ri_zip {elts : List Expr} {kk : Nat} {tpos : Pos} (hg : Gl X "zip") (hm : X.mg "zip" = none) (ha : RA X [a, b] (aCons ca (aCons cb aNil)))
    (hs : starEach [a, b] X.env = (false, eval a X.env) :: starEach [b] X.env := by rfl) (hpl : (backTo pos (starEach [b] X.env)).any (·.1) = false := by rfl) :
    RI X (.Tuple elts kk tpos) (.Call (.Name "zip" p) [a, b] [] pos) (iZip2 ca cb) := fun W tk =>
  (RZ.pi_zipA hg hm (ha W tk).know hs hpl).imp fun σ H R h => args_two h fun v u H1 ⟨B, φ, e, st, d, d2, r, st', re, rs, rd, rd2, hc, fin⟩ => by
    obtain ⟨ds, rfl, rfl, hd⟩ := look_eq hc
    cases d <;> try (cases hd; done)
    all_goals cases d2 <;> try (cases hd; done)
    · cases hd
      cases rd with | tup s1 q1 => cases rd2 with | tup s2 q2 =>
      rintro ⟨pins, s, I⟩
      obtain ⟨_, _, _, hl⟩ := I.tuple s1.t
      exact ⟨_, _, _, _, rfl, .inr ⟨s1.t, s2.t, fin _ _ _ _ (.refl rs) rs (it_zipT rs s1.t q1 s2.t q2) (by rw [zipP_len, ← q1.length]; omega)⟩⟩
    · cases hd
      cases rd with | lst s1 n1 q1 => cases rd2 with | lst s2 n2 q2 =>
      rintro ⟨pins, s, I⟩
      obtain ⟨_, _, _, hl⟩ := I.list (SqL.of s1)
      exact ⟨_, _, _, _, rfl, .inl ⟨SqL.of s1, SqL.of s2, fin _ _ _ _ (.refl rs) rs (it_zipL rs s1 n1 q1 s2 n2 q2) (by rw [zipP_len, ← q1.length]; omega)⟩⟩
/-! ### list comprehensions -/
/-- the acc list is written: it is no cell -/
theorem RS.own {K : Frag} {mg : Str → Option Value} {B : Addr → Prop} {φ : List Addr} {H : Hp} {st : Store} (rs : RS K mg B φ H st) {p : Addr} {o o' : HO} (hp : H p = some o) (hb : B p) (hφ : p ∉ φ) (ht : ∀ xs, ¬ Rd H p (.tup xs)) (hz : ∀ q u, ¬ H p = some (.frz q u)) (hm : isMut o := by exact trivial) (hm' : NT o' := by exact fun _ z => by cases z) :
    RS K mg B φ (upd H p o') st ∧ ∀ {v d}, RD K B φ H v d → RD K B φ (upd H p o') v d := by
  have f : ∀ {v d}, RD K B φ H v d → RD K B φ (upd H p o') v d := fun r => RD.upd ht (.inr hb) (fun q u e => absurd e (hz q u)) r
  refine ⟨⟨rs.len, rs.nd, rs.sub, fun a ha => (rs.sd a ha).upd hm', fun n c e => ?_, rs.tabsNe hp hm⟩, f⟩
  · obtain ⟨a, e1, rc⟩ := rs.at_ n c e
    have : a ≠ p := fun z => hφ (by rw [← z]; exact List.mem_of_getElem? e1)
    exact ⟨a, e1, rc.on f (RDs.map f) (upd_ne this)⟩
end
/-- a target of a comprehension: it stores its own names alone -/
def TrGw (K : Frag) (mg : Str → Option Value) (g : Tg) (vs : List Nat) : TG := fun v σ H Q =>
  ∃ B φ e st d e' st', REnv K B φ H σ e ∧ RS K mg B φ H st ∧ RD K B φ H v d ∧ g d e st = some (e', st') ∧
    ∀ σ' B' φ' H', L2.wipe σ' vs = L2.wipe σ vs → Go φ B H φ' B' H' → RS K mg B' φ' H' st' → REnv K B' φ' H' σ' e' → Q σ' H'
def TrGws (K : Frag) (mg : Str → Option Value) (g : List Tg) (vs : List Nat) : TGs := fun v σ H Q =>
  ∃ B φ e st d e' st', REnv K B φ H σ e ∧ RS K mg B φ H st ∧ RDs K B φ H v d ∧ gTups g d e st = some (e', st') ∧
    ∀ σ' B' φ' H', L2.wipe σ' vs = L2.wipe σ vs → Go φ B H φ' B' H' → RS K mg B' φ' H' st' → REnv K B' φ' H' σ' e' → Q σ' H'
def RGw (X : Cx) (vs : List Nat) (tg : Expr) (g : Tg) : Prop := PG X tg (TrGw X.K X.mg g vs)
def RGws (X : Cx) (vs : List Nat) (tg : List Expr) (g : List Tg) : Prop := PGs X tg (TrGws X.K X.mg g vs)
theorem wipe_get (σ : L2.St) : ∀ (vs : List Nat) (j : Nat), (L2.wipe σ vs)[j]? = if j ∈ vs then (if j < σ.length then some none else none) else σ[j]?
  | [], j => by simp [L2.wipe]
  | v :: vs, j => by
    unfold L2.wipe
    by_cases h : j = v
    · subst h
      by_cases hl : j < σ.length
      · rw [List.getElem?_set_self (by rw [L2.wipe_length]; exact hl)]; simp [hl]
      · rw [List.getElem?_eq_none (by rw [List.length_set, L2.wipe_length]; omega)]; simp [hl]
    · rw [List.getElem?_set_ne (Ne.symm h), wipe_get σ vs j]
      simp [h]
theorem wipe_set {σ : L2.St} {i : Nat} {v : Option V} {vs : List Nat} (h : i ∈ vs) : L2.wipe (σ.set i v) vs = L2.wipe σ vs := by
  apply List.ext_getElem?
  intro j
  rw [wipe_get, wipe_get, List.length_set]
  by_cases hj : j ∈ vs
  · simp [hj]
  · rw [if_neg hj, if_neg hj, List.getElem?_set_ne (fun e => hj (by rw [← e]; exact h))]
theorem wipe_idem (σ : L2.St) (vs : List Nat) : L2.wipe (L2.wipe σ vs) vs = L2.wipe σ vs := by
  apply List.ext_getElem?
  intro j
  rw [wipe_get, wipe_get, L2.wipe_length]
  by_cases hj : j ∈ vs <;> simp [hj]
section
variable {X : Cx} {a b tg it el : Expr} {ca cb cy : Ex} {ct : Tx} {pos p : Pos} {es : List Expr} {vs : List Nat}
theorem rgw_name {i : Nat} {x : Str} (hm : i ∈ vs) (hN : X.N.Nodup) (hi : X.N[i]? = some x) (hx : Loc X.env.scope x) (hf : X.fn x = true ∨ X.env.scope.names.lookup x = some .local := by first | exact .inl rfl | exact .inr rfl | assumption) : RGw X vs (.Name x pos) (gName i) :=
  (pg_name hN hi hx hf).imp fun v σ H Q ⟨B, φ, e, st, d, e', st', re, rs, rd, hc, fin⟩ => by
    unfold Sw.gName at hc
    cases hc
    exact fin _ _ _ _ (wipe_set hm) (.refl rs) rs (re.set rd)
theorem rgws_nil : RGws X vs [] [] := pgs_nil.imp fun v σ H Q ⟨B, φ, e, st, d, e', st', re, rs, rd, hc, fin⟩ => by
  cases d with
  | nil =>
    cases rd
    unfold gTups at hc
    cases hc
    exact ⟨rfl, fin _ _ _ _ rfl (.refl rs) rs re⟩
  | cons _ _ => unfold gTups at hc; cases hc
theorem rgws_cons {g : Tg} {gs : List Tg} (h1 : RGw X vs a g) (h2 : RGws X vs es gs) (hs : (assignEach (a :: es) X.env).map (·.2) = assign a X.env :: (assignEach es X.env).map (·.2) := by rfl) : RGws X vs (a :: es) (g :: gs) :=
  (pgs_cons h1 h2 hs).imp fun v σ H Q ⟨B, φ, e, st, d, e', st', re, rs, rd, hc, fin⟩ => by
    cases d with
    | nil => unfold gTups at hc; cases hc
    | cons d ds =>
      cases rd with | cons r t =>
      unfold gTups at hc
      split at hc
      · rename_i e1 st1 hg
        exact ⟨_, _, rfl, B, φ, e, st, d, e1, st1, re, rs, r, hg, fun σ' B' φ' H' hw g rs' re' => ⟨B', φ', e1, st1, ds, e', st', re', rs', RDs.go rs g t, hc, fun σ2 B2 φ2 H2 hw2 g2 => fin σ2 B2 φ2 H2 (hw2.trans hw) (g.trans g2)⟩⟩
      · cases hc
theorem rgw_tup {k : Nat} {gs : List Tg} (hc : X.calm = true) (h : RGws X vs es gs) (hn : (assignEach es X.env).length = gs.length := by rfl) (hst : (assignEach es X.env).findIdx? (·.1) = none := by rfl) : RGw X vs (.Tuple es k pos) (gTup gs) :=
  ((pg_tup hc h hn hst).or (pg_unl hc h hn hst)).imp fun v σ H Q ⟨B, φ, e, st, d, e', st', re, rs, rd, hc, fin⟩ => by
    unfold Sw.gTup at hc
    cases d with
    | tup ds =>
      cases rd with | tup sq q =>
      exact .inl ⟨_, _, rfl, sq.t, by rw [q.length]; exact gTups_len hc, B, φ, e, st, ds, e', st', re, rs, q, hc, fin⟩
    | par ds =>
      cases rd with | par sq q =>
      exact .inl ⟨_, _, rfl, .inl sq, by rw [q.length]; exact gTups_len hc, B, φ, e, st, ds, e', st', re, rs, q, hc, fin⟩
    | lst ds =>
      cases rd with | lst sq nb q =>
      exact .inr ⟨_, _, rfl, SqL.of sq, by rw [q.length]; exact gTups_len hc, B, φ, e, st, ds, e', st', re, rs, q, hc, fin⟩
    | _ => cases hc
/-- the tests of a clause -/
def RTs (X : Cx) (es : List Expr) (c : Tx) : Prop := ∀ W, Takes X W → PTs X es (Tr X.K X.mg rB c W)
theorem _root_.L2.PTs.imp {X : Cx} {e : List Expr} {t t' : TT} (h : PTs X e t) (f : ∀ σ H Q, t' σ H Q → t σ H Q) : PTs X e t' := ⟨fun pins s σ H Q I q => h.run pins s σ H Q I (f σ H Q q)⟩
theorem rts_nil : RTs X [] Sw.tYes := fun W tk => pts_nil.imp fun σ H Q ⟨B, φ, e, st, r, st', re, rs, hc, fin⟩ => by
  unfold Sw.tYes at hc
  cases hc
  exact fin true _ _ _ (.refl rs) rs rfl
theorem rts_one (h : RT X a ct) : RTs X [a] ct := fun W tk => pts_one (h W tk)
theorem RD.less {K : Frag} {B B' : Addr → Prop} {φ : List Addr} {H : Hp} (hb : ∀ a, B' a → B a) {v : V} {d : D} (r : RD K B φ H v d) : RD K B' φ H v d :=
  RD.on (fun _ _ h => h) (fun _ _ h n => ⟨h, fun q => n (hb _ q)⟩) (fun _ _ _ h _ => ⟨h, fun n q => n (hb _ q)⟩) (fun _ _ h => h) r
theorem lst_notRd {H : Hp} {p : Addr} {acc : List V} (h : H p = some (.lst acc)) : (∀ xs, ¬ Rd H p (.tup xs)) ∧ ∀ q u, ¬ H p = some (.frz q u) := by
  refine ⟨fun xs z => ?_, fun q u z => ?_⟩
  · rcases z with z | ⟨q, z⟩ <;> (rw [h] at z; cases z)
  · rw [h] at z; cases z
theorem lc_imp {g : Tg} {ci : Act (List D)} {own : List (Str × Nat)} {W : WX} (σ : L2.St) (H : Hp) (Q : VK) (h : Tr X.K X.mg (RD X.K) (eLc ci g (own.map (·.2)) ct cy) W σ H Q) :
    tLc (TrI X.K X.mg ci W) (TrGw X.K X.mg g (own.map fun y : Str × Nat => y.2)) (Tr X.K X.mg rB ct fun _ _ _ _ => False) (Tr X.K X.mg (RD X.K) cy fun _ _ _ _ => False) (own.map (·.2)) σ H Q := by
  obtain ⟨B, φ, e, st, r, st', re, rs, hc', fin⟩ := h
  unfold eLc Act.bind at hc'
  cases ha : ci e st with
  | none => rw [ha] at hc'; cases hc'
  | some pr =>
    obtain ⟨q, st1⟩ := pr
    rw [ha] at hc'
    cases q with
    | error x =>
      simp only [Option.some.injEq, Prod.mk.injEq] at hc'
      obtain ⟨rfl, rfl⟩ := hc'
      exact ⟨B, φ, e, st, _, _, re, rs, ha, fin⟩
    | ok ds =>
      refine ⟨B, φ, e, st, _, _, re, rs, ha, fun J B1 φ1 H1 g1 rs1 it1 hsz p hp => ?_⟩
      dsimp only at hc'
      cases hcl : compL g ct cy ds (Sw.wipe e (own.map (·.2))) st1 with
      | none => rw [hcl] at hc'; cases hc'
      | some pr2 =>
        obtain ⟨ys, st2⟩ := pr2
        rw [hcl] at hc'
        simp only [Option.some.injEq, Prod.mk.injEq] at hc'
        obtain ⟨rfl, rfl⟩ := hc'
        have re1 := (REnv.go rs g1 re).wipe2 (own.map (·.2))
        refine ⟨fun i m H' => m = ds.length - i ∧ i ≤ ds.length ∧ ∃ Bc φc st3 acc accD rest, Go φ1 B1 H1 φc Bc H' ∧ RS X.K X.mg Bc φc H' st3 ∧ Bc p ∧ p ∉ φc ∧ H' p = some (.lst acc) ∧ RDs X.K Bc φc H' acc accD ∧ acc.length ≤ i ∧
            compL g ct cy (ds.drop i) (Sw.wipe e (own.map (·.2))) st3 = some (rest, st2) ∧ ys = accD ++ rest, ⟨ds.length, by simp, Nat.zero_le _, ?_⟩, ?_⟩
        · have npφ : p ∉ φ1 := fun hm => rs1.there p (rs1.sub p hm) hp
          obtain ⟨rs2, g2⟩ := rs1.newThing (o := .lst []) hp
          refine ⟨fun a => B1 a ∨ a = p, φ1, st1, [], [], ys, ⟨rs1.sub, g2.keep, g2.pre, fun _ h => .inl h, fun a h => h.imp id (fun e => by rw [e]; exact nSd hp), g2.inφ, g2.frz⟩, ⟨rs2.len, rs2.nd, fun a h => .inl (rs2.sub a h), fun a h => ?_, fun n c h => ?_, rs2.tabs⟩, .inr rfl, npφ, upd_same, .nil, Nat.le_refl _, hcl, rfl⟩
          · rcases h with h | h
            · exact rs2.sd a h
            · rw [h]; exact ⟨_, upd_same, fun _ z => by cases z⟩
          · obtain ⟨a, e1, rc⟩ := rs1.at_ n c h
            obtain ⟨o, ho, _⟩ := rc.mut
            have nap : a ≠ p := ne_of_none ho hp
            have f : ∀ {v d}, RD X.K B1 φ1 H1 v d → RD X.K (fun a => B1 a ∨ a = p) φ1 (upd H1 p (.lst [])) v d := fun r => by
              refine RD.on (fun b xs h => ?_) (fun b xs h nb => ?_) (fun b q u h _ => ?_) (fun _ _ h => h) r
              · exact Rd.go (fun o e => by rw [upd_ne (ne_of_none e hp)]; exact e) h
              · have nbp : b ≠ p := ne_of_none h hp
                exact ⟨by rw [upd_ne nbp]; exact h, fun z => z.elim nb nbp⟩
              · exact ⟨by rw [upd_ne (ne_of_none h hp)]; exact h, fun nb z => z.elim nb (ne_of_none h hp)⟩
            exact ⟨a, e1, rc.on f (RDs.map f) (upd_ne nap)⟩
        · rintro i m H' ⟨rfl, hi', Bc, φc, st3, acc, accD, rest, gc, rsc, bp, npφ, hacc, racc, hal, hcl', hys⟩
          obtain ⟨hstop, hgo⟩ := it1 Bc φc H' st3 gc rsc i
          by_cases hlt : i < ds.length
          · have hd : ds[i]? = some ds[i] := List.getElem?_eq_getElem hlt
            obtain ⟨go, yl⟩ := hgo _ hd
            rw [List.drop_eq_getElem_cons hlt] at hcl'
            unfold compL at hcl'
            refine .inr ⟨go, fun H3 => ∃ Bc φc st3 acc accD rest, Go φ1 B1 H1 φc Bc H3 ∧ RS X.K X.mg Bc φc H3 st3 ∧ Bc p ∧ p ∉ φc ∧ H3 p = some (.lst acc) ∧ RDs X.K Bc φc H3 acc accD ∧ acc.length ≤ i + 1 ∧
              compL g ct cy (ds.drop (i + 1)) (Sw.wipe e (own.map (·.2))) st3 = some (rest, st2) ∧ ys = accD ++ rest, ?_, fun x H'' hy => ?_⟩
            · rintro H3 ⟨Bc, φc, st3, acc, accD, rest, gc, rsc, bp, npφ, hacc, racc, hal, hcl', hys⟩
              exact ⟨ds.length - (i + 1), by omega, rfl, hlt, Bc, φc, st3, acc, accD, rest, gc, rsc, bp, npφ, hacc, racc, hal, hcl', hys⟩
            · obtain ⟨B4, g4, rs4, rd4⟩ := yl x H'' hy
              cases hg1 : g ds[i] (Sw.wipe e (own.map (·.2))) st3 with
              | none => rw [hg1] at hcl'; cases hcl'
              | some pr3 =>
                obtain ⟨e5, st5⟩ := pr3
                rw [hg1] at hcl'
                dsimp only at hcl'
                have hne : H1 p = none := hp
                refine ⟨B4, φc, _, st3, ds[i], e5, st5, REnv.go rs4 (.refl rs4) (REnv.go rsc g4 (REnv.go rs1 gc re1)), rs4, rd4, hg1, fun σ6 B6 φ6 H6 hw g6 rs6 re6 => ⟨hw.trans (wipe_idem σ _), ?_⟩⟩
                cases ht1 : ct e5 st5 with
                | none => rw [ht1] at hcl'; cases hcl'
                | some pr4 =>
                  obtain ⟨q7, st7⟩ := pr4
                  rw [ht1] at hcl'
                  cases q7 with
                  | error x7 => cases hcl'
                  | ok k =>
                    refine ⟨B6, φ6, e5, st5, _, st7, re6, rs6, ht1, fun k' B8 φ8 H8 g8 rs8 hk => ?_⟩
                    have hk : k' = k := hk
                    subst hk
                    have gs : Go φc Bc H' φ8 B8 H8 := (g4.trans g6).trans g8
                    have keepP : ∀ {φ9 : List Addr} {B9 : Addr → Prop} {H9 : Hp}, Go φc Bc H' φ9 B9 H9 → H9 p = some (.lst acc) ∧ p ∉ φ9 ∧ B9 p := fun g9 => by
                      refine ⟨g9.keep p _ hacc npφ (fun _ z => by cases z), fun hm => ?_, g9.mono p bp⟩
                      rcases g9.inφ p hm with z | z
                      · exact npφ z
                      · exact z ⟨_, hacc, fun _ z => by cases z⟩
                    cases k' with
                    | false =>
                      refine iteF ?_
                      obtain ⟨a1, a2, a3⟩ := keepP gs
                      exact ⟨B8, φ8, st7, acc, accD, rest, gc.trans gs, rs8, a3, a2, a1, RDs.go rsc gs racc, Nat.le_succ_of_le hal, hcl', hys⟩
                    | true =>
                      refine iteT ?_
                      dsimp only at hcl'
                      cases hy1 : cy e5 st7 with
                      | none => rw [hy1] at hcl'; cases hcl'
                      | some pr5 =>
                        obtain ⟨q9, st9⟩ := pr5
                        rw [hy1] at hcl'
                        cases q9 with
                        | error x9 => cases hcl'
                        | ok y9 =>
                          refine ⟨B8, φ8, e5, st7, _, st9, REnv.go rs6 g8 re6, rs8, hy1, fun v10 B10 φ10 H10 g10 rs10 rd10 => ?_⟩
                          have gt : Go φc Bc H' φ10 B10 H10 := gs.trans g10
                          obtain ⟨a1, a2, a3⟩ := keepP gt
                          refine ⟨acc, a1, ?_, ?_⟩
                          · exact Nat.lt_of_le_of_lt hal (Nat.lt_of_lt_of_le hlt hsz)
                          · dsimp only at hcl'
                            cases hcl2 : compL g ct cy (ds.drop (i + 1)) (Sw.wipe e (own.map (·.2))) st9 with
                            | none => rw [hcl2] at hcl'; cases hcl'
                            | some pr6 =>
                              obtain ⟨zs, st10⟩ := pr6
                              rw [hcl2] at hcl'
                              cases hcl'
                              obtain ⟨n1, n2⟩ := lst_notRd a1
                              obtain ⟨rs11, f11⟩ := rs10.own (o' := .lst (acc ++ [v10])) a1 a3 a2 n1 n2
                              refine ⟨B10, φ10, st9, acc ++ [v10], accD ++ [y9], zs, ?_, rs11, a3, a2, upd_same, RDs.append (RDs.map f11 (RDs.go rsc gt racc)) (.cons (f11 rd10) .nil), by simp; omega, hcl2, by rw [hys]; simp⟩
                              have gg := gc.trans gt
                              exact ⟨gg.sub, fun a o ha hn nt => by
                                have nap : a ≠ p := ne_of_none ha hp
                                rw [upd_ne nap]; exact gg.keep a o ha hn nt, gg.pre, gg.mono, gg.fresh, gg.inφ, fun a o u ha => by rw [upd_ne (ne_of_none ha hp)]; exact gg.frz a o u ha⟩
          · have e0 : ds.drop i = [] := List.drop_eq_nil_of_le (by omega)
            rw [e0] at hcl'
            unfold compL at hcl'
            cases hcl'
            refine .inl ⟨hstop (by omega), ?_⟩
            have npB : ∀ a, B1 a → a ≠ p := fun a ha z => rs1.there a ha (by rw [z]; exact hp)
            have gF : Go φ B H φc (fun a => Bc a ∧ a ≠ p) H' := g1.trans ⟨gc.sub, gc.keep, gc.pre, fun a h => ⟨gc.mono a h, npB a h⟩, fun a h => gc.fresh a h.1, gc.inφ, gc.frz⟩
            have fl : ∀ {v d}, RD X.K Bc φc H' v d → RD X.K (fun a => Bc a ∧ a ≠ p) φc H' v d := fun r => RD.less (fun _ h => h.1) r
            refine fin (.ref p) _ φc H' gF ⟨rsc.len, rsc.nd, fun a h => ⟨rsc.sub a h, fun z => npφ (by rw [← z]; exact h)⟩, fun a h => rsc.sd a h.1, fun n c h => ?_, rsc.tabs⟩ (.lst hacc (fun z => z.2 rfl) ?_)
            · obtain ⟨a, e1, rc⟩ := rsc.at_ n c h
              exact ⟨a, e1, rc.on fl (RDs.map fl) rfl⟩
            · rw [hys, List.append_nil]
              exact RDs.map fl racc
theorem re_lc {g : Tg} {ci : Act (List D)} {scope : Scope} {own : List (Str × Nat)} {ifs : List Expr} (hc : X.calm = true) (hN : X.N.Nodup) (hi : RI X tg it ci) (ok : BlkOk X.N X.env.scope scope own)
    (hg : ∀ (s : Shared) (H : Hp) (C : Addr) (cl : List (Str × Addr)) (fp : List Addr), RGw (X.blk s H scope (compEnvC scope cl C X.env) fp) (own.map (·.2)) tg g)
    (ht : ∀ (s : Shared) (H : Hp) (C : Addr) (cl : List (Str × Addr)) (fp : List Addr), RTs (X.blk s H scope (compEnvC scope cl C X.env) fp) ifs ct)
    (he : ∀ (s : Shared) (H : Hp) (C : Addr) (cl : List (Str × Addr)) (fp : List Addr), RE (X.blk s H scope (compEnvC scope cl C X.env) fp) el cy) (hs : ∀ x, foldedSetIterable it X.env x = pure x := by intro _; rfl) :
    RE X (.ListComp el [⟨tg, it, ifs, 0⟩] scope pos) (eLc ci g (own.map (·.2)) ct cy) := fun W tk =>
  (pe_lc (own := own) (g := TrGw X.K X.mg g (own.map fun y : Str × Nat => y.2)) (tt := Tr X.K X.mg rB ct fun _ _ _ _ => False) (te := Tr X.K X.mg (RD X.K) cy fun _ _ _ _ => False) hc hN (hi W tk) ok (fun s H C cl fp => hg s H C cl fp) (fun s H C cl fp => ht s H C cl fp _ takes0) (fun s H C cl fp => he s H C cl fp _ takes0) hs).imp fun σ H Q h => lc_imp σ H Q h
theorem rs_setLc {i : Nat} {y : Str} {py spos : Pos} {g : Tg} {ci : Act (List D)} {scope : Scope} {own : List (Str × Nat)} {ifs : List Expr} (hc : X.calm = true) (hN : X.N.Nodup) (hy : X.N[i]? = some y) (hyl : X.env.scope.names.lookup y = some .local) (hi : RI X tg it ci) (ok : BlkOk X.N X.env.scope scope own)
    (hg : ∀ (s : Shared) (H : Hp) (C : Addr) (cl : List (Str × Addr)) (fp : List Addr), RGw (X.blk s H scope (compEnvC scope cl C X.env) fp) (own.map (·.2)) tg g)
    (ht : ∀ (s : Shared) (H : Hp) (C : Addr) (cl : List (Str × Addr)) (fp : List Addr), RTs (X.blk s H scope (compEnvC scope cl C X.env) fp) ifs ct)
    (he : ∀ (s : Shared) (H : Hp) (C : Addr) (cl : List (Str × Addr)) (fp : List Addr), RE (X.blk s H scope (compEnvC scope cl C X.env) fp) el cy) (hsw : swapsWith (.ListComp el [⟨tg, it, ifs, 0⟩] scope pos) (some (.Name y py)) spos.line X.env = pure true := by rfl) (hs : ∀ x, foldedSetIterable it X.env x = pure x := by intro _; rfl) :
    RSt X (.Assign [.Name y py] (.ListComp el [⟨tg, it, ifs, 0⟩] scope pos) spos) (sSet i (eLc ci g (own.map (·.2)) ct cy)) := fun W tk =>
  (ps_setLc (own := own) (g := TrGw X.K X.mg g (own.map fun y : Str × Nat => y.2)) (tt := Tr X.K X.mg rB ct fun _ _ _ _ => False) (te := Tr X.K X.mg (RD X.K) cy fun _ _ _ _ => False) hc hN hy hyl hsw (hi W tk) ok (fun s H C cl fp => hg s H C cl fp) (fun s H C cl fp => ht s H C cl fp _ takes0) (fun s H C cl fp => he s H C cl fp _ takes0) hs).imp fun D σ H h =>
    lc_imp σ H _ ((Tr.intoS (c := sSet i (eLc ci g (own.map (·.2)) ct cy)) (f := fun d e st => some (.nx (e.set i (some d)), st)) (fun e st => by unfold sSet sAsg Sw.gName; cases eLc ci g (own.map (·.2)) ct cy e st with | none => rfl | some p => obtain ⟨q, st1⟩ := p; cases q <;> rfl) h).mono fun v H1 ⟨B, φ, e, st, d, r, st', re, rs, r1, hc, fin⟩ => by
      cases hc
      exact fin _ _ _ _ (.refl rs) rs (re.set r1))
end
end Sw

/-! Rules6: defs and calls. -/
set_option Elab.async false
set_option linter.all false
set_option maxRecDepth 100000
set_option maxHeartbeats 4000000
namespace Sw
open PySem PySem.Spec PyProof.Rows L2
variable [LamT]
/-- the promise of a def that does what F does -/
def spF (K : Frag) (mg : Str → Option Value) (F : Fn) (n : Nat) : Sp := fun vs H Q E =>
  ∃ B φ ds st r st', vs.length = n ∧ RDs K B φ H vs ds ∧ RS K mg B φ H st ∧ F ds st = some (r, st') ∧ Fin K mg B φ H (RD K) st' Q E r
/-! ### data without cells lie the same wherever cells lie -/
mutual
theorem RD.closed {K : Frag} {B : Addr → Prop} {φ φ2 : List Addr} {H : Hp} : ∀ {n : Nat} {v : V} {d : D}, RD K B φ H v d → okd n d = true → RD K B φ2 H v d
  | _, _, _, .non, _ => .non
  | _, _, _, .bl b, _ => .bl b
  | _, _, _, .int i, _ => .int i
  | _, _, _, .str x h, _ => .str x h
  | 0, _, _, .tup _ _, h => by simp [okd] at h
  | 0, _, _, .lst _ _ _, h => by simp [okd] at h
  | n + 1, _, _, .tup s r, h => by
    simp only [okd] at h
    exact .tup s (RDs.closed (n := n) r h)
  | n + 1, _, _, .lst s nb r, h => by
    simp only [okd] at h
    exact .lst s nb (RDs.closed (n := n) r h)
  | _, _, _, .loc _, h => by simp [okd] at h
  | _, _, _, .scr _, h => by simp [okd] at h
  | _, _, _, .par _ _, h => by simp [okd] at h
theorem RDs.closed {K : Frag} {B : Addr → Prop} {φ φ2 : List Addr} {H : Hp} : ∀ {n : Nat} {vs : List V} {ds : List D}, RDs K B φ H vs ds → ds.all (okd n) = true → RDs K B φ2 H vs ds
  | _, _, _, .nil, _ => .nil
  | n, _, _, .cons r t, h => by
    simp only [List.all_cons, Bool.and_eq_true] at h
    exact .cons (RD.closed r h.1) (RDs.closed t h.2)
end
section
variable {K : Frag} {mg : Str → Option Value} {B B' : Addr → Prop} {φ φ' φ2 : List Addr} {H H' : Hp} {st st' : Store}
theorem RKv.closed {κ : Type} {kd : κ → D} : ∀ {vs : List (κ × V)} {ds : List (D × D)}, RKv K B φ H kd vs ds → (ds.all fun p => p.1.ok && p.2.ok) = true → RKv K B φ2 H kd vs ds
  | _, _, .nil, _ => .nil
  | _, _, .cons o r t, h => by
    simp only [List.all_cons, Bool.and_eq_true] at h
    exact .cons o (RD.closed r h.1.2) (RKv.closed t (by simpa [List.all_eq_true] using h.2))
theorem RFs.closed : ∀ {vs : List (Str × V)} {ds : List (Str × D)}, RFs K B φ H vs ds → (ds.all fun p => p.2.ok) = true → RFs K B φ2 H vs ds
  | _, _, .nil, _ => .nil
  | _, _, .cons r t, h => by
    simp only [List.all_cons, Bool.and_eq_true] at h
    exact .cons (RD.closed r h.1) (RFs.closed t h.2)
theorem RC.closed {a : Addr} {c : Cell} (h : RC K mg B φ H a c) (ok : c.ok = true) : RC K mg B φ2 H a c := by
  cases c with
  | lst ds => obtain ⟨xs, e, r⟩ := h; exact ⟨xs, e, RDs.closed r ok⟩
  | dct kvs => obtain ⟨ks, e, r⟩ := h; exact ⟨ks, e, r.closed ok⟩
  | dtt kvs => obtain ⟨ks, e, r⟩ := h; exact ⟨ks, e, r.closed ok⟩
  | ins c fs => obtain ⟨C, dx, vs, m, e, r⟩ := h; exact ⟨C, dx, vs, m, e, r.closed ok⟩
  | dlk kvs => cases ok
  | llk kvs => cases ok
theorem RX.closed {x : Exc} {cls : Value} {dx : Option Addr} (h : RX K mg B φ H x cls dx) (ok : x.ok = true) : RX K mg B φ2 H x cls dx := by
  obtain ⟨C, h1, h2, h3⟩ := h
  refine ⟨C, h1, h2, ?_⟩
  rcases h3 with h3 | ⟨d, vs, e1, e2, r⟩
  · exact .inl h3
  · exact .inr ⟨d, vs, e1, e2, r.closed ok⟩
theorem prefix_take (p : φ <+: φ') : φ'.take φ.length = φ := by
  obtain ⟨t, rfl⟩ := p
  simp
/-- the cells made since are let go -/
theorem RS.cutOff (rs0 : RS K mg B φ H st) (g : Go φ B H φ' B' H') (rs : RS K mg B' φ' H' st') (ok : (st'.take st.length).all Cell.ok = true) : RS K mg B' φ H' (st'.take st.length) ∧ Go φ B H φ B' H' := by
  have hl : φ.length = st.length := rs0.len
  have hp := g.pre.length_le
  refine ⟨⟨by rw [List.length_take, ← rs.len]; omega, rs0.nd, fun a h => g.mono a (rs0.sub a h), rs.sd, fun n c e => ?_, rs.tabs⟩, ⟨g.sub, g.keep, List.prefix_refl _, g.mono, g.fresh, fun a h => .inl h, g.frz⟩⟩
  have hn : n < st.length := by
    have := (List.getElem?_eq_some_iff.mp e).1
    rw [List.length_take] at this
    omega
  rw [List.getElem?_take_of_lt hn] at e
  obtain ⟨a, e1, rc⟩ := rs.at_ n c e
  have cok : c.ok = true := List.all_eq_true.mp ok c (by
    rw [List.mem_iff_getElem?]
    exact ⟨n, by rw [List.getElem?_take_of_lt hn]; exact e⟩)
  refine ⟨a, ?_, rc.closed cok⟩
  have : φ[n]? = φ'[n]? := by
    obtain ⟨t, rfl⟩ := g.pre
    rw [List.getElem?_append_left (by omega)]
  rw [this]; exact e1
/-- all but one -/
theorem RS.cutOff1 (rs0 : RS K mg B φ H st) (g : Go φ B H φ' B' H') (rs : RS K mg B' φ' H' st') (ok : (st'.take st.length).all Cell.ok = true) {m : Nat} {c : Cell} {a : Addr} (hm : st.length ≤ m) (hc : st'[m]? = some c) (ha : φ'[m]? = some a) (cok : c.ok = true) :
    RS K mg B' (φ ++ [a]) H' (st'.take st.length ++ [c]) ∧ Go φ B H (φ ++ [a]) B' H' := by
  have hl : φ.length = st.length := rs0.len
  have hp := g.pre.length_le
  obtain ⟨r1, g1⟩ := rs0.cutOff g rs ok
  have ma : a ∈ φ' := List.mem_of_getElem? ha
  have na : a ∉ φ := fun h => by
    obtain ⟨j, hj⟩ := List.mem_iff_getElem?.mp h
    have hj' : j < φ.length := (List.getElem?_eq_some_iff.mp hj).1
    have := nodupIx rs.nd (pre_get g.pre hj) ha
    omega
  refine ⟨⟨by rw [List.length_append, List.length_append, r1.len]; rfl, ?_, fun b h => ?_, rs.sd, fun n d e => ?_, rs.tabs⟩, ⟨g.sub, g.keep, List.prefix_append _ _, g.mono, g.fresh, fun b h => ?_, g.frz⟩⟩
  · rw [List.nodup_append]
    exact ⟨rs0.nd, by simp, fun x hx y hy e => by
      have : y = a := by simpa using hy
      exact na (by rw [← this, ← e]; exact hx)⟩
  · rcases List.mem_append.mp h with h | h
    · exact g.mono b (rs0.sub b h)
    · have : b = a := by simpa using h
      rw [this]; exact rs.sub a ma
  · by_cases hn : n < (st'.take st.length).length
    · rw [List.getElem?_append_left hn] at e
      obtain ⟨b, e1, rc⟩ := r1.at_ n d e
      have dok : d.ok = true := List.all_eq_true.mp ok d (List.mem_of_getElem? e)
      exact ⟨b, by rw [List.getElem?_append_left (by rw [r1.len]; exact hn)]; exact e1, rc.closed dok⟩
    · rw [List.getElem?_append_right (by omega)] at e
      have hz : n - (st'.take st.length).length = 0 := by
        rcases Nat.eq_zero_or_pos (n - (st'.take st.length).length) with z | z
        · exact z
        · rw [List.getElem?_eq_none (by rw [List.length_singleton]; exact z)] at e; cases e
      rw [hz] at e
      simp at e
      subst e
      obtain ⟨b, e1, rc⟩ := rs.at_ m _ hc
      have : b = a := Option.some.inj (e1.symm.trans ha)
      subst this
      refine ⟨b, ?_, rc.closed cok⟩
      rw [List.getElem?_append_right (by rw [r1.len]; omega), r1.len, hz]
      rfl
  · rcases List.mem_append.mp h with h | h
    · exact .inl h
    · have : b = a := by simpa using h
      subst this
      rcases g.inφ b ma with z | z
      · exact absurd z na
      · exact .inr z
/-- what a def leaves, cleaned -/
theorem clean_fin {r0 r : Except Exc D} {st1 : Store} {Q : VK} {E : XK} (rs0 : RS K mg B φ H st) (hcl : clean st.length r0 st1 = some (r, st')) (fin : Fin K mg B φ H (RD K) st' Q E r) : Fin K mg B φ H (RD K) st1 Q E r0 := by
  unfold clean at hcl
  split at hcl
  · rename_i ok
    cases r0 with
    | error x =>
      dsimp only at hcl
      split at hcl
      · rename_i xok
        cases hcl
        exact fun cls dx B' φ' H' g rs rx => by
          obtain ⟨r1, g1⟩ := rs0.cutOff g rs ok
          exact fin cls dx B' φ H' g1 r1 (rx.closed xok)
      · cases hcl
    | ok d =>
      have plain : ∀ {d : D}, (if d.ok then some ((.ok d : Except Exc D), st1.take st.length) else none) = some (r, st') → Fin K mg B φ H (RD K) st1 Q E (.ok d) := fun {d} hcl => by
        split at hcl
        · rename_i dok
          cases hcl
          exact fun v B' φ' H' g rs rd => by
            obtain ⟨r1, g1⟩ := rs0.cutOff g rs ok
            exact fin v B' φ H' g1 r1 (RD.closed rd dok)
        · cases hcl
      cases d with
      | loc m =>
        dsimp only at hcl
        split at hcl
        · rename_i hm
          cases hcl
          exact fun v B' φ' H' g rs rd => by
            obtain ⟨r1, g1⟩ := rs0.cutOff g rs ok
            cases rd with | loc e =>
            refine fin _ B' φ H' g1 r1 (.loc ?_)
            obtain ⟨t, rfl⟩ := g.pre
            rw [List.getElem?_append_left (by rw [rs0.len]; exact hm)] at e
            exact e
        · rename_i hm
          cases hc : st1[m]? with
          | none => rw [hc] at hcl; cases hcl
          | some c =>
            rw [hc] at hcl
            dsimp only at hcl
            split at hcl
            · rename_i cok
              cases hcl
              exact fun v B' φ' H' g rs rd => by
                cases rd with | loc e =>
                obtain ⟨r1, g1⟩ := rs0.cutOff1 g rs ok (by omega) hc e cok
                refine fin _ B' _ H' g1 r1 (.loc ?_)
                rw [List.getElem?_append_right (by rw [rs0.len]; exact Nat.le_refl _), rs0.len]
                simp
            · cases hcl
      | non => exact plain hcl
      | bl _ => exact plain hcl
      | int _ => exact plain hcl
      | str _ => exact plain hcl
      | tup _ => exact plain hcl
      | lst _ => exact plain hcl
      | scr _ => exact plain hcl
      | par _ => exact plain hcl
  · cases hcl
theorem REnv.start {N : List Str} {vs : List V} {ds : List D} (r : RDs K B φ H vs ds) (hl : ds.length ≤ N.length) : REnv K B φ H (L2.start N vs) (startE N.length ds) := by
  refine ⟨by simp [L2.start, startE, r.length], fun i d h => ?_⟩
  unfold startE at h
  by_cases hi : i < ds.length
  · rw [List.getElem?_append_left (by simpa using hi), List.getElem?_map] at h
    cases hd : ds[i]? with
    | none => rw [hd] at h; cases h
    | some d' =>
      rw [hd] at h
      cases h
      obtain ⟨v, hv, rv⟩ := r.get hd
      refine ⟨v, ?_, rv⟩
      unfold L2.start
      rw [List.getElem?_append_left (by simp [r.length]; exact hi), List.getElem?_map, hv]
      rfl
  · rw [List.getElem?_append_right (by simpa using hi)] at h
    rw [List.getElem?_replicate] at h
    split at h <;> cases h
end
/-- THE RULE for a def -/
theorem fn_ok {P : Program} {w : World} {K : Frag} {mg : Str → Option Value} {base : Heap} {x qual : Str} {st : Stmt} {f : Addr} {fd : FuncData} {N ps : List Str} {k : Nat} {c : Sx} (F : Fun K x qual st f fd) (S : FnScope N ps (defScope st)) (hn : ps.length ≤ N.length)
    (hb : ∀ (cdv : Value) (A : Around) (outer : List PySem.Env) (s : Shared) (H : Hp) (E : XK), Room k (A.deeper (envOfC qual (defScope st) s.heap.objs.size f cdv)) → RSs (cxOf (L2.CX P w) P w K mg base N qual (defScope st) f cdv A outer s H E) (defBody st) c) :
    FnOk P w K mg base (L2.CX P w) (k + 1) f fd ps (spF K mg (fn ps.length N.length c) ps.length) := by
  refine F.okX S (fun vs H Q E h => ?_) (fun cdv A outer s H vs Q E hr h => ?_)
  · obtain ⟨_, _, _, _, _, _, h, _⟩ := h
    exact h
  · obtain ⟨B, φ, ds, st0, r, st', hl, rd, rs, hF, fin⟩ := h
    refine ⟨_, hb cdv A outer s H E hr _ (takes_of rfl rfl rfl rfl), ?_⟩
    unfold fn at hF
    have hds : ds.length = ps.length := rd.length.symm.trans hl
    rw [if_pos hds] at hF
    refine ⟨B, φ, startE N.length ds, st0, ?_⟩
    cases hc : c (startE N.length ds) st0 with
    | none => rw [hc] at hF; cases hF
    | some p =>
      obtain ⟨q, st1⟩ := p
      rw [hc] at hF
      refine ⟨q, st1, REnv.start rd (by omega), rs, rfl, ?_⟩
      cases q with
      | nx e1 =>
        have cf := clean_fin rs hF fin
        exact fun σ' B' φ' H' g rs' re' => cf .non B' φ' H' g rs' .non
      | rt d => exact clean_fin rs hF fin
      | bk _ => cases hF
      | ct _ => cases hF
      | ex x1 e1 =>
        have cf := clean_fin rs hF fin
        exact fun cls dx σ' B' φ' H' g rs' re' rx => cf cls dx B' φ' H' g rs' rx
/-! ### calls -/
section
variable {K : Frag} {mg : Str → Option Value} {B B' : Addr → Prop} {φ φ' φ2 : List Addr} {H H' : Hp} {st st' : Store}
theorem locIds_mem : ∀ {ds : List D} {n : Nat}, n ∈ locIds ds ↔ D.loc n ∈ ds
  | [], n => by simp [locIds]
  | d :: r, n => by
    cases d with
    | loc m =>
      unfold locIds
      split
      · rename_i h
        rw [locIds_mem]
        constructor
        · exact fun q => List.mem_cons_of_mem _ q
        · intro q
          rcases List.mem_cons.mp q with q | q
          · cases q
            exact locIds_mem.mp (by simpa using h)
          · exact q
      · rw [List.mem_cons, List.mem_cons, locIds_mem]
        constructor
        · rintro (rfl | q)
          · exact .inl rfl
          · exact .inr q
        · rintro (q | q)
          · cases q; exact .inl rfl
          · exact .inr q
    | _ => unfold locIds; rw [locIds_mem]; simp
theorem locIds_nodup : ∀ ds : List D, (locIds ds).Nodup
  | [] => by simp [locIds]
  | d :: r => by
    cases d with
    | loc m =>
      unfold locIds
      split
      · exact locIds_nodup r
      · rename_i h
        exact List.nodup_cons.mpr ⟨by simpa using h, locIds_nodup r⟩
    | _ => unfold locIds; exact locIds_nodup r
theorem mapM_get {st : Store} : ∀ {ids : List Nat} {cs : List Cell}, ids.mapM (fun n => st[n]?) = some cs → cs.length = ids.length ∧ ∀ (j n : Nat), ids[j]? = some n → st[n]? = cs[j]? ∧ n < st.length
  | [], cs, h => by
    simp at h
    subst h
    simp
  | i :: ids, cs, h => by
    rw [List.mapM_cons] at h
    cases h1 : st[i]? with
    | none => rw [h1] at h; cases h
    | some c =>
      rw [h1] at h
      cases h2 : ids.mapM (fun n => st[n]?) with
      | none => rw [h2] at h; cases h
      | some cs' =>
        rw [h2] at h
        cases h
        obtain ⟨e1, e2⟩ := mapM_get h2
        refine ⟨by simp [e1], fun j n hj => ?_⟩
        cases j with
        | zero => simp at hj; subst hj; exact ⟨by simp [h1], (List.getElem?_eq_some_iff.mp h1).1⟩
        | succ j => simpa using e2 j n (by simpa using hj)
theorem putBack_len : ∀ (ids : List Nat) (cs : List Cell) (st : Store), (putBack ids cs st).length = st.length
  | [], _, _ => by simp [putBack]
  | _ :: _, [], _ => by simp [putBack]
  | n :: ids, c :: cs, st => by unfold putBack; rw [putBack_len, List.length_set]
theorem putBack_get : ∀ (ids : List Nat) (cs : List Cell) (st : Store) (n : Nat), ids.Nodup → ids.length ≤ cs.length → n < st.length →
    (putBack ids cs st)[n]? = if n ∈ ids then cs[ids.idxOf n]? else st[n]?
  | [], _, _, _, _, _, _ => by simp [putBack]
  | _ :: _, [], _, _, _, h, _ => by simp at h
  | i :: ids, c :: cs, st, n, nd, hl, hn => by
    unfold putBack
    rw [putBack_get ids cs _ n (List.nodup_cons.mp nd).2 (by simpa using hl) (by rw [List.length_set]; exact hn)]
    by_cases hi : n = i
    · subst hi
      rw [if_neg (List.nodup_cons.mp nd).1, List.getElem?_set_self hn]
      simp
    · by_cases hm : n ∈ ids
      · have : n ∈ i :: ids := List.mem_cons_of_mem _ hm
        rw [if_pos hm, if_pos this, List.idxOf_cons]
        have hb : (i == n) = false := by simpa using Ne.symm hi
        rw [hb]
        simp
      · have : n ∉ i :: ids := fun z => (List.mem_cons.mp z).elim hi hm
        rw [if_neg hm, if_neg this, List.getElem?_set_ne (Ne.symm hi)]
/-- the callee's view: the addresses of the cells handed in -/
def viewAt (φ : List Addr) (ids : List Nat) : List Addr := ids.map fun n => φ.getD n 0
theorem viewAt_get {ids : List Nat} (h : ∀ n ∈ ids, n < φ.length) {j n : Nat} (hj : ids[j]? = some n) : (viewAt φ ids)[j]? = φ[n]? := by
  unfold viewAt
  rw [List.getElem?_map, hj, Option.map_some]
  have := h n (List.mem_of_getElem? hj)
  simp [List.getD, List.getElem?_eq_getElem this]
theorem idx_get {ids : List Nat} {n : Nat} (h : n ∈ ids) : ids[ids.idxOf n]? = some n := by
  have := List.idxOf_lt_length_of_mem h
  rw [List.getElem?_eq_getElem this]
  congr 1
  exact List.getElem_idxOf this
theorem RDs.view {ids : List Nat} {vs : List V} {ds : List D} (hv : ∀ n ∈ ids, n < φ.length) : RDs K B φ H vs ds → (∀ n, D.loc n ∈ ds → n ∈ ids) → ds.all isTop = true → RDs K B (viewAt φ ids) H vs (ds.map (inView ids))
  | .nil, _, _ => .nil
  | .cons r t, hm, ht => by
    simp only [List.all_cons, Bool.and_eq_true] at ht
    refine .cons ?_ (RDs.view hv t (fun n h => hm n (List.mem_cons_of_mem _ h)) ht.2)
    cases r with
    | loc e =>
      rename_i a n
      have hn := hm n (by simp)
      exact .loc ((viewAt_get hv (idx_get hn)).trans e)
    | scr e => exact .scr e
    | par _ _ => exact absurd ht.1 (by simp [isTop, D.ok, okd])
    | non => exact .non
    | bl b => exact .bl b
    | int i => exact .int i
    | str x h => exact .str x h
    | tup s q => exact RD.closed (n := 60) (.tup s q) ht.1
    | lst s n q => exact RD.closed (n := 60) (.lst s n q) ht.1
theorem outOf_old {ids : List Nat} {n m k : Nat} (h : ids[m]? = some k) : outOf ids n (.loc m) = .loc k := by
  show (match ids[m]? with | some n => D.loc n | none => _) = _
  rw [h]
theorem outOf_new {ids : List Nat} {n m : Nat} (h : ids[m]? = none) : outOf ids n (.loc m) = .loc (n + (m - ids.length)) := by
  show (match ids[m]? with | some n => D.loc n | none => _) = _
  rw [h]
/-- a call, from the caller's side -/
theorem view_call {F : Fn} {vs : List V} {ds : List D} {r : Except Exc D} {Q : VK} {E : XK} (rs : RS K mg B φ H st) (rd : RDs K B φ H vs ds) (hc : viewCall F ds st = some (r, st')) (fin : Fin K mg B φ H (RD K) st' Q E r) : spF K mg F vs.length vs H Q E := by
  unfold viewCall at hc
  dsimp only at hc
  cases hm : (locIds ds).mapM (fun n => st[n]?) with
  | none => rw [hm] at hc; cases hc
  | some cs =>
    rw [hm] at hc
    dsimp only at hc
    split at hc
    · rename_i ok1
      rw [Bool.and_eq_true] at ok1
      cases hF : F (ds.map (inView (locIds ds))) cs with
      | none => rw [hF] at hc; cases hc
      | some p =>
        obtain ⟨r0, cs'⟩ := p
        rw [hF] at hc
        dsimp only at hc
        split at hc
        · rename_i ok2
          rw [Bool.and_eq_true, decide_eq_true_eq] at ok2
          obtain ⟨hl, hg⟩ := mapM_get hm
          have hids : ∀ n ∈ locIds ds, n < st.length := fun n hn => (hg _ n (idx_get hn)).2
          have hv : ∀ n ∈ locIds ds, n < φ.length := fun n hn => by rw [rs.len]; exact hids n hn
          have nd := locIds_nodup ds
          have vlen : (viewAt φ (locIds ds)).length = (locIds ds).length := by simp [viewAt]
          have vsub : ∀ a, a ∈ viewAt φ (locIds ds) → a ∈ φ := fun a ha => by
            obtain ⟨j, hj⟩ := List.mem_iff_getElem?.mp ha
            have hj' : j < (locIds ds).length := by rw [← vlen]; exact (List.getElem?_eq_some_iff.mp hj).1
            rw [viewAt_get hv (List.getElem?_eq_getElem hj')] at hj
            exact List.mem_of_getElem? hj
          have vnd : (viewAt φ (locIds ds)).Nodup := by
            unfold viewAt
            rw [List.Nodup, List.pairwise_map]
            refine List.Pairwise.imp_of_mem (fun {x y} hx hy hne e => hne ?_) nd
            have h1 := hv x hx
            have h2 := hv y hy
            simp only [List.getD, List.getElem?_eq_getElem h1, List.getElem?_eq_getElem h2, Option.getD_some] at e
            exact nodupIx rs.nd (List.getElem?_eq_getElem h1) (by rw [e]; exact List.getElem?_eq_getElem h2)
          have rsv : RS K mg B (viewAt φ (locIds ds)) H cs := by
            refine ⟨by rw [vlen, hl], vnd, fun a h => rs.sub a (vsub a h), rs.sd, fun j c hj => ?_, rs.tabs⟩
            have hj' : j < (locIds ds).length := by rw [← hl]; exact (List.getElem?_eq_some_iff.mp hj).1
            have e := List.getElem?_eq_getElem hj'
            obtain ⟨a, e1, rc⟩ := rs.at_ _ c ((hg j _ e).1.trans hj)
            exact ⟨a, (viewAt_get hv e).trans e1, rc.closed (List.all_eq_true.mp ok1.2 c (List.mem_of_getElem? hj))⟩
          refine ⟨B, viewAt φ (locIds ds), ds.map (inView (locIds ds)), cs, r0, cs', rfl, RDs.view hv rd (fun n h => locIds_mem.mpr h) ok1.1, rsv, hF, ?_⟩
          -- behind the call
          have back : ∀ {B' : Addr → Prop} {φ' : List Addr} {H' : Hp}, Go (viewAt φ (locIds ds)) B H φ' B' H' → RS K mg B' φ' H' cs' →
              Go φ B H (φ ++ φ'.drop (locIds ds).length) B' H' ∧ RS K mg B' (φ ++ φ'.drop (locIds ds).length) H' (putBack (locIds ds) cs' st ++ cs'.drop (locIds ds).length) := fun {B' φ' H'} g rs' => by
            have newφ : ∀ a, a ∈ φ'.drop (locIds ds).length → a ∈ φ' ∧ a ∉ viewAt φ (locIds ds) ∧ ¬ Sd H a := fun a ha => by
              have h1 := List.mem_of_mem_drop ha
              have h2 : a ∉ viewAt φ (locIds ds) := fun hv' => by
                obtain ⟨i, hi⟩ := List.mem_iff_getElem?.mp hv'
                obtain ⟨j, hj⟩ := List.mem_iff_getElem?.mp ha
                rw [List.getElem?_drop] at hj
                have := nodupIx rs'.nd (pre_get g.pre hi) hj
                have hi' := (List.getElem?_eq_some_iff.mp hi).1
                rw [vlen] at hi'
                omega
              exact ⟨h1, h2, (g.inφ a h1).resolve_left h2⟩
            refine ⟨⟨rs.sub, fun a o h na nt => g.keep a o h (fun hv' => na (vsub a hv')) nt, List.prefix_append _ _, g.mono, g.fresh, fun a h => ?_, g.frz⟩, ⟨?_, ?_, fun a h => ?_, rs'.sd, fun n c e => ?_, rs'.tabs⟩⟩
            · rcases List.mem_append.mp h with h | h
              · exact .inl h
              · exact .inr (newφ a h).2.2
            · rw [List.length_append, List.length_append, putBack_len, List.length_drop, List.length_drop, rs.len, rs'.len]
            · rw [List.nodup_append]
              refine ⟨rs.nd, rs'.nd.sublist (List.drop_sublist _ _), fun a ha b hb e => ?_⟩
              subst e
              exact (newφ a hb).2.2 (rs.sd a (rs.sub a ha))
            · rcases List.mem_append.mp h with h | h
              · exact g.mono a (rs.sub a h)
              · exact rs'.sub a (newφ a h).1
            · by_cases hn : n < st.length
              · rw [List.getElem?_append_left (by rw [putBack_len]; exact hn), putBack_get _ _ _ _ nd ok2.1 hn] at e
                split at e
                · rename_i hmem
                  obtain ⟨a, e1, rc⟩ := rs'.at_ _ c e
                  have hix := idx_get hmem
                  have e2 : φ'[(locIds ds).idxOf n]? = φ[n]? := by
                    have hlt : (locIds ds).idxOf n < (viewAt φ (locIds ds)).length := by rw [vlen]; exact List.idxOf_lt_length_of_mem hmem
                    obtain ⟨t, ht⟩ := g.pre
                    rw [← ht, List.getElem?_append_left hlt, viewAt_get hv hix]
                  refine ⟨a, ?_, rc.closed (List.all_eq_true.mp ok2.2 c (List.mem_of_getElem? e))⟩
                  rw [List.getElem?_append_left (by rw [rs.len]; exact hn), ← e2]; exact e1
                · rename_i hmem
                  obtain ⟨a, e1, rc⟩ := rs.at_ n c e
                  have nav : a ∉ viewAt φ (locIds ds) := fun hv' => by
                    obtain ⟨j, hj⟩ := List.mem_iff_getElem?.mp hv'
                    have hj' : j < (locIds ds).length := by rw [← vlen]; exact (List.getElem?_eq_some_iff.mp hj).1
                    have ej := List.getElem?_eq_getElem hj'
                    rw [viewAt_get hv ej] at hj
                    have := nodupIx rs.nd hj e1
                    exact hmem (by rw [← this]; exact List.getElem_mem hj')
                  obtain ⟨o, ho, mo⟩ := rc.mut
                  have f : ∀ {v d}, RD K B φ H v d → RD K B' (φ ++ φ'.drop (locIds ds).length) H' v d := fun r =>
                    RD.on (g.tupOn rsv) (g.lstOn rsv) g.frzOn (fun _ _ h => pre_get (List.prefix_append _ _) h) r
                  exact ⟨a, pre_get (List.prefix_append _ _) e1, rc.on f (RDs.map f) ((g.keep a o ho nav mo.nt).trans ho.symm)⟩
              · rw [List.getElem?_append_right (by rw [putBack_len]; omega), putBack_len, List.getElem?_drop] at e
                obtain ⟨a, e1, rc⟩ := rs'.at_ _ c e
                refine ⟨a, ?_, rc.closed (List.all_eq_true.mp ok2.2 c (List.mem_of_getElem? e))⟩
                rw [List.getElem?_append_right (by rw [rs.len]; omega), rs.len, List.getElem?_drop]
                exact e1
          cases r0 with
          | error x =>
            dsimp only at hc
            split at hc
            · rename_i xok
              cases hc
              exact fun cls dx B' φ' H' g rs' rx => by
                obtain ⟨g', rs2⟩ := back g rs'
                exact fin cls dx B' _ H' g' rs2 (rx.closed xok)
            · cases hc
          | ok d =>
            dsimp only at hc
            split at hc
            · rename_i dok
              cases hc
              intro v B' φ' H' g rs' rd'
              obtain ⟨g', rs2⟩ := back g rs'
              refine fin v B' _ H' g' rs2 ?_
              cases rd' with
              | loc e =>
                rename_i a m
                by_cases hm' : m < (locIds ds).length
                · have ej := List.getElem?_eq_getElem hm'
                  rw [outOf_old ej]
                  refine .loc ?_
                  have e2 : φ'[m]? = φ[(locIds ds)[m]]? := by
                    obtain ⟨t, ht⟩ := g.pre
                    rw [← ht, List.getElem?_append_left (by rw [vlen]; exact hm'), viewAt_get hv ej]
                  exact pre_get (List.prefix_append _ _) (e2.symm.trans e)
                · rw [outOf_new (List.getElem?_eq_none (Nat.le_of_not_lt hm'))]
                  refine .loc ?_
                  rw [List.getElem?_append_right (by rw [rs.len]; omega), rs.len, List.getElem?_drop]
                  have : (locIds ds).length + (st.length + (m - (locIds ds).length) - st.length) = m := by omega
                  rw [this]; exact e
              | scr e => exact .scr e
              | par _ _ => exact absurd dok (by simp [isTop, D.ok, okd])
              | non => exact .non
              | bl b => exact .bl b
              | int i => exact .int i
              | str x h => exact .str x h
              | tup s q => exact RD.closed (n := 60) (.tup s q) dok
              | lst s n q => exact RD.closed (n := 60) (.lst s n q) dok
            · cases hc
        · cases hc
    · cases hc
end
section
variable {X : Cx} {a o : Expr} {ca co : Ex} {pos p apos : Pos} {es : List Expr} {cs : Ax} {F : Fn} {n k : Nat} {f : Addr} {fd : FuncData} {ps : List Str} {x m : Str}
theorem TrK.call {K : Frag} {mg : Str → Option Value} {W : WX} {σ : L2.St} {H : Hp} {xs : List V} {Q : VK} (h : TrK K mg (RDs K) (RD K) (fun ds => fun _ st => viewCall F ds st) W xs σ H Q) : spF K mg F xs.length xs H Q (fun cls dx H' => W cls dx σ H') := by
  obtain ⟨B, φ, e, st, d, r, st', re, rs, r1, hc, fin⟩ := h
  exact view_call rs r1 hc fin
theorem spF_len {K : Frag} {mg : Str → Option Value} {vs : List V} {H : Hp} {Q : VK} {E : XK} (h : spF K mg F vs.length vs H Q E) (hn : ∀ ds st r, F ds st = some r → ds.length = n) : spF K mg F n vs H Q E := by
  obtain ⟨B, φ, ds, st, r, st', hl, rd, rs, hF, fin⟩ := h
  exact ⟨B, φ, ds, st, r, st', by rw [rd.length]; exact hn _ _ _ hF, rd, rs, hF, fin⟩
/-- F takes n arguments -/
def Takes_ (F : Fn) (n : Nat) : Prop := ∀ ds st r, F ds st = some r → ds.length = n
theorem fn_takes {n N : Nat} {b : Sx} : Takes_ (fn n N b) n := fun ds st r h => by
  unfold fn at h
  split at h
  · assumption
  · cases h
theorem re_call (G : FnOk X.prog X.w X.K X.mg X.base (L2.CX X.prog X.w) k f fd ps (spF X.K X.mg F n)) (hn : Takes_ F n) (hr : Room k X.A) (hg : Gl X x) (hm : X.mg x = some (.ref f)) (hk : PySem.W.keepIn X.K (.ref f) = true) (hb : Binds X.K fd ps []) (ha : RA X (a :: es) cs)
    (hdb : (x == ("__debug__" : Str)) = false := by decide) (he : starEach (a :: es) X.env = (false, eval a X.env) :: starEach es X.env := by rfl) (hpl : (backTo pos (starEach es X.env)).any (·.1) = false := by rfl) :
    RE X (.Call (.Name x p) (a :: es) [] pos) (eCall F cs) := fun W tk =>
  (pe_callSD (dvs := []) (ds := []) (E := fun σ cls d H' => W cls d σ H') G hr hg hm hk hb .nil (fun σ => passAt tk σ) (ha W tk) hdb he hpl).imp fun σ H Q h => (Tr.bind h).mono fun xs H1 h1 => by
    rw [List.append_nil]
    exact spF_len h1.call hn
end
end Sw

/-! Rules7: isinstance, names of the module, places written, methods of lists and dicts. -/
set_option Elab.async false
set_option linter.all false
set_option maxRecDepth 100000
set_option maxHeartbeats 4000000
namespace Sw
open PySem PySem.Spec PyProof.Rows L2
variable [LamT]
/-! ### isinstance -/
theorem kitB_of : (["NoneType", "bool", "int", "str", "tuple", "list", "dict"].all fun a => ["bool", "int", "str", "tuple", "list", "dict"].all fun b => kitB a b == some (subTy a b)) = true := by decide +kernel
def goodTs (ts : List String) : Bool := ts.all fun b => (["bool", "int", "str", "tuple", "list", "dict"] : List String).contains b
theorem tyN_mem {st : Store} {d : D} {t : String} (h : tyN st d = some t) : t ∈ ["NoneType", "bool", "int", "str", "tuple", "list", "dict"] := by
  unfold tyN at h
  split at h <;> first | (cases h; decide) | skip
  · split at h <;> first | (cases h; decide) | cases h
  all_goals cases h
section
variable {K : Frag} {mg : Str → Option Value} {B : Addr → Prop} {φ : List Addr} {H : Hp} {st : Store}
theorem kit_sub {st : Store} {d : D} {t b : String} (h : tyN st d = some t) (hb : b ∈ ["bool", "int", "str", "tuple", "list", "dict"]) : PySem.W.kitOne K (.type t) (.type b) = some (subTy t b) := by
  refine kit_ty ?_
  have h1 := List.all_eq_true.mp kitB_of t (tyN_mem h)
  have h2 := List.all_eq_true.mp h1 b hb
  exact eq_of_beq h2
theorem kit_any {st : Store} {d : D} {t : String} (h : tyN st d = some t) : ∀ {ts : List String}, goodTs ts = true → PySem.W.kitAny K (.type t) (ts.map Value.type) = some (ts.any fun b => subTy t b)
  | [], _ => kitAny_nil
  | b :: ts, hg => by
    unfold goodTs at hg
    rw [List.all_cons, Bool.and_eq_true] at hg
    rw [List.map_cons, List.any_cons]
    refine kitAny_cons (kit_sub h (by simpa using hg.1)) (fun e => ?_) (fun e => by rw [e, Bool.true_or])
    rw [e, Bool.false_or]
    exact kit_any h hg.2
theorem tyx_of (rs : RS K mg B φ H st) {v : V} {d : D} {t : String} (r : RD K B φ H v d) (h : tyN st d = some t) : TyX K H v (.type t) := by
  cases r with
  | non => cases h; exact .base .non
  | bl b => cases h; exact .base (.bl b)
  | int i => cases h; exact .base (.int i)
  | str x _ => cases h; exact .base (.str x)
  | tup sq q =>
    cases h
    rcases sq with ⟨o, e, _⟩ | ⟨o, its, n, e, c, _⟩
    · exact .fTuple e
    · exact .kTuple e c
  | lst e _ _ => cases h; exact .base (.lst e)
  | scr _ => cases h
  | par _ _ => cases h
  | loc e =>
    rename_i a n
    cases hs : st[n]? with
    | none => simp [tyN, hs] at h
    | some c =>
      obtain ⟨b, e', rc⟩ := rs.at_ n _ hs
      rw [e] at e'
      cases e'
      cases c with
      | lst _ => simp only [tyN, hs] at h; cases h; obtain ⟨_, e2, _⟩ := rc; exact .base (.lst e2)
      | dct _ => simp only [tyN, hs] at h; cases h; obtain ⟨_, e2, _⟩ := rc; exact .base (.dK e2)
      | dtt _ => simp only [tyN, hs] at h; cases h; obtain ⟨_, e2, _⟩ := rc; exact .base (.dT e2)
      | ins _ _ => simp [tyN, hs] at h
      | dlk _ => simp [tyN, hs] at h
      | llk _ => simp [tyN, hs] at h
end
section
variable {X : Cx} {a o i e : Expr} {ca co ci ce : Ex} {pos p p2 p3 p4 : Pos} {es : List Expr} {cs : Ax} {x : Str}
theorem re_isi {b : String} {y : Str} (ha : RE X a ca) (hg : Gl X "isinstance") (hm : X.mg "isinstance" = none) (hg2 : Gl X y) (hm2 : X.mg y = none) (hv : bootBuiltins y = some (.type b)) (hb : b ∈ ["bool", "int", "str", "tuple", "list", "dict"] := by decide)
    (hn : y ≠ "__name__" := by decide) (hdb : (y == ("__debug__" : Str)) = false := by decide)
    (he : starEach [a, .Name y p2] X.env = (false, eval a X.env) :: starEach [.Name y p2] X.env := by rfl) (he2 : starEach [.Name y p2] X.env = (false, eval (.Name y p2) X.env) :: starEach [] X.env := by rfl) (hpl : (backTo pos (starEach [.Name y p2] X.env)).any (·.1) = false := by rfl) :
    RE X (.Call (.Name "isinstance" p) [a, .Name y p2] [] pos) (op1 (vIsi [b]) ca) := fun W tk =>
  (pe_callB call_isi hg hm rfl (pa_cons (ha W tk) (pa_cons (pe_bltn (v := .ty b) hg2 hm2 hv rfl hn hdb) pa_nil he2) he) (by decide) (by decide) he hpl).imp fun σ H Q h => (Tr.bind h).mono fun v H1 h1 => by
    obtain ⟨B, φ, st, d, z, rs, r, hz, fin⟩ := h1.v1
    unfold vIsi at hz
    cases ht : tyN st d with
    | none => rw [ht] at hz; cases hz
    | some t =>
      rw [ht] at hz
      cases hz
      have e1 : ([b].any fun b => subTy t b) = subTy t b := by simp
      have fin1 := fin0 rs fin (.bl _)
      rw [e1] at fin1
      exact ⟨v, .ty b, .type t, .type b, _, rfl, .ty b, tyx_of rs r ht, kit_sub ht hb, fin1⟩
theorem re_isi2 {b c : String} {y z : Str} {k : Nat} (ha : RE X a ca) (hg : Gl X "isinstance") (hm : X.mg "isinstance" = none) (hg2 : Gl X y) (hm2 : X.mg y = none) (hv : bootBuiltins y = some (.type b)) (hg3 : Gl X z) (hm3 : X.mg z = none) (hv3 : bootBuiltins z = some (.type c))
    (hb : goodTs [b, c] = true := by decide) (hn : y ≠ "__name__" := by decide) (hdb : (y == ("__debug__" : Str)) = false := by decide) (hn3 : z ≠ "__name__" := by decide) (hdb3 : (z == ("__debug__" : Str)) = false := by decide)
    (he : starEach [a, .Tuple [.Name y p2, .Name z p3] k p4] X.env = (false, eval a X.env) :: starEach [.Tuple [.Name y p2, .Name z p3] k p4] X.env := by rfl)
    (he2 : starEach [.Tuple [.Name y p2, .Name z p3] k p4] X.env = (false, eval (.Tuple [.Name y p2, .Name z p3] k p4) X.env) :: starEach [] X.env := by rfl)
    (he3 : starEach [.Name y p2, .Name z p3] X.env = (false, eval (.Name y p2) X.env) :: starEach [.Name z p3] X.env := by rfl) (he4 : starEach [.Name z p3] X.env = (false, eval (.Name z p3) X.env) :: starEach [] X.env := by rfl)
    (hpl : (backTo pos (starEach [.Tuple [.Name y p2, .Name z p3] k p4] X.env)).any (·.1) = false := by rfl) :
    RE X (.Call (.Name "isinstance" p) [a, .Tuple [.Name y p2, .Name z p3] k p4] [] pos) (op1 (vIsi [b, c]) ca) := fun W tk =>
  (pe_callB call_isiT hg hm rfl (pa_cons (ha W tk) (pa_cons (pe_tup (pa_cons (pe_bltn (v := .ty b) hg2 hm2 hv rfl hn hdb) (pa_cons (pe_bltn (v := .ty c) hg3 hm3 hv3 rfl hn3 hdb3) pa_nil he4) he3)) pa_nil he2) he) (by decide) (by decide) he hpl).imp fun σ H Q h => (Tr.bind h).mono fun v H1 h1 => by
    obtain ⟨B, φ, st, d, z, rs, r, hz, fin⟩ := h1.v1
    unfold vIsi at hz
    cases ht : tyN st d with
    | none => rw [ht] at hz; cases hz
    | some t =>
      rw [ht] at hz
      cases hz
      refine ⟨by show 2 ≤ sizeLine; decide, fun q hq => ?_⟩
      obtain ⟨rs', g⟩ := rs.newThing (o := .tup [.ty b, .ty c]) hq
      refine ⟨v, q, [.ty b, .ty c], .type t, [.type b, .type c], _, rfl, upd_same, .cons (.ty b) (.cons (.ty c) .nil), tyx_of rs' (RD.go rs g r) ht, kit_any ht hb, fin _ _ _ _ g rs' (.bl _)⟩
/-! ### names of the module -/
def strB (x : Str) : Bool := x.cps.toList.all (fun c => Nat.ble (c + 1) 0x110000) && Nat.ble x.cps.toList.length 1000
theorem strB_ok {x : Str} (h : strB x = true) : strOk x := by
  unfold strB at h
  rw [Bool.and_eq_true] at h
  refine ⟨?_, ?_⟩
  · rw [← Array.all_toList, List.all_eq_true]
    intro c hc
    have := List.all_eq_true.mp h.1 c hc
    have := Nat.le_of_ble_eq_true this
    exact decide_eq_true (by omega)
  · have h2 := Nat.le_of_ble_eq_true h.2
    show x.cps.size ≤ sizeLine
    rw [← Array.length_toList]
    have := line63
    rw [sizeLine_eq]; omega
def kD (K : Frag) : Nat → Value → Option D
  | _, .none => some .non
  | _, .bool b => some (.bl b)
  | _, .int i _ => some (.int i)
  | _, .str x _ => if strB x = true then some (.str x) else none
  | n + 1, .ref a => match K.lookup a with
    | some ⟨.type "tuple", none, .seq its _, _⟩ => if Nat.ble its.toList.length 1000 = true then (its.toList.mapM (kD K n)).map D.tup else none
    | _ => none
  | _, _ => none
theorem mapM_cons_some {α β : Type} {f : α → Option β} {x : α} {xs : List α} {ys : List β} (h : (x :: xs).mapM f = some ys) : ∃ y zs, f x = some y ∧ xs.mapM f = some zs ∧ ys = y :: zs := by
  rw [List.mapM_cons] at h
  cases hx : f x with
  | none => rw [hx] at h; cases h
  | some y =>
    rw [hx] at h
    cases hz : xs.mapM f with
    | none => rw [hz] at h; cases h
    | some zs => rw [hz] at h; cases h; exact ⟨y, zs, rfl, rfl, rfl⟩
theorem kD_ok {K : Frag} : ∀ {n : Nat} {u : Value} {d : D}, kD K n u = some d → ∃ v, RelV v u ∧ ∀ B φ H, RD K B φ H v d := by
  intro n
  induction n with
  | zero =>
    intro u d h
    cases u <;> simp only [kD] at h <;> first | cases h | skip
    · exact ⟨.non, rfl, fun _ _ _ => .non⟩
    · exact ⟨.bl _, rfl, fun _ _ _ => .bl _⟩
    · exact ⟨.int _, ⟨_, rfl⟩, fun _ _ _ => .int _⟩
    · split at h
      · rename_i hs
        cases h
        exact ⟨.str _, ⟨_, rfl⟩, fun _ _ _ => .str _ (strB_ok hs)⟩
      · cases h
  | succ n ih =>
    intro u d h
    cases u <;> simp only [kD] at h <;> first | cases h | skip
    · exact ⟨.non, rfl, fun _ _ _ => .non⟩
    · exact ⟨.bl _, rfl, fun _ _ _ => .bl _⟩
    · exact ⟨.int _, ⟨_, rfl⟩, fun _ _ _ => .int _⟩
    · split at h
      · rename_i hs
        cases h
        exact ⟨.str _, ⟨_, rfl⟩, fun _ _ _ => .str _ (strB_ok hs)⟩
      · cases h
    · rename_i a
      split at h
      · rename_i its m sl hk
        split at h
        · rename_i hsz
          cases hm : its.toList.mapM (kD K n) with
          | none => rw [hm] at h; cases h
          | some ds =>
            rw [hm] at h
            cases h
            have go : ∀ (us : List Value) (ds : List D), us.mapM (kD K n) = some ds → ∃ vs, Vals vs us ∧ ∀ B φ H, RDs K B φ H vs ds := by
              intro us
              induction us with
              | nil => intro ds h; simp at h; subst h; exact ⟨[], .nil, fun _ _ _ => .nil⟩
              | cons u us ih2 =>
                intro ds h
                obtain ⟨y, zs, h1, h2, rfl⟩ := mapM_cons_some h
                obtain ⟨v, r1, r2⟩ := ih h1
                obtain ⟨vs, q1, q2⟩ := ih2 _ h2
                exact ⟨v :: vs, .cons r1 q1, fun _ _ _ => .cons (r2 _ _ _) (q2 _ _ _)⟩
            obtain ⟨vs, q1, q2⟩ := go _ _ hm
            have hsz2 : its.size ≤ sizeLine := by
              have h2 := Nat.le_of_ble_eq_true hsz
              rw [Array.length_toList] at h2
              rw [sizeLine_eq]; omega
            exact ⟨.ref a, rfl, fun _ _ _ => .tup (.inr ⟨_, its, m, hk, rfl, rfl, rfl, hsz2, q1⟩) (q2 _ _ _)⟩
        · cases h
      · cases h
theorem re_glob {u : Value} {d : D} (hg : Gl X x) (hm : X.mg x = some u) (hd : kD X.K 6 u = some d) (hdb : (x == ("__debug__" : Str)) = false := by decide) : RE X (.Name x pos) (eC d) := by
  obtain ⟨v, r, rd⟩ := kD_ok hd
  exact re_const (pe_glob hg hm r hdb) rd
end
end Sw

/-! Rules8: places written and read, op=, methods of lists. -/
set_option Elab.async false
set_option linter.all false
set_option maxRecDepth 100000
set_option maxHeartbeats 4000000
namespace Sw
open PySem PySem.Spec PyProof.Rows L2
variable [LamT]
section
variable {K : Frag} {mg : Str → Option Value} {B B' : Addr → Prop} {φ φ' : List Addr} {H H' : Hp} {st st' : Store}
theorem keyD_inj {a b : Key} : keyEq (keyD a) (keyD b) = decide (a = b) := by
  cases a <;> cases b <;> simp [keyD, keyEq] <;> rename_i a b <;> (by_cases h : a = b <;> simp [h])
theorem key_of_isKey {v : V} {k : D} (r : RD K B φ H v k) (h : isKey k = true) : ∃ κ : Key, v = kV κ ∧ k = keyD κ ∧ okKD (keyD κ) := by
  cases r with
  | int i => exact ⟨.inl _, rfl, rfl, trivial⟩
  | str x hx => exact ⟨.inr _, rfl, rfl, hx⟩
  | _ => simp [isKey] at h
theorem RKv.any {κ : Key} : ∀ {vs : List (Key × V)} {ds : List (D × D)}, RKv K B φ H keyD vs ds → (vs.any fun kv => decide (kv.1 = κ)) = ds.any fun p => keyEq p.1 (keyD κ)
  | _, _, .nil => rfl
  | _, _, .cons _ r t => by rw [List.any_cons, List.any_cons, RKv.any t, keyD_inj]
theorem RKv.repl {κ : Key} {v : V} {d : D} (rd : RD K B φ H v d) : ∀ {vs : List (Key × V)} {ds : List (D × D)}, RKv K B φ H keyD vs ds →
    RKv K B φ H keyD (vs.map fun kv => if kv.1 = κ then (kv.1, v) else kv) (ds.map fun p => if keyEq p.1 (keyD κ) = true then (p.1, d) else p)
  | _, _, .nil => .nil
  | _, _, .cons (k := k) o r t => by
    rw [List.map_cons, List.map_cons]
    by_cases h : k = κ
    · have h2 : keyEq (keyD k) (keyD κ) = true := by rw [keyD_inj]; simpa using h
      simp only [h, if_true, keyD_inj, decide_true]
      rw [h] at o
      exact .cons o rd (RKv.repl rd t)
    · have h2 : ¬ keyEq (keyD k) (keyD κ) = true := by rw [keyD_inj]; simpa using h
      simp only [h, if_false, h2]
      exact .cons o r (RKv.repl rd t)
theorem RKv.snoc {κ : Key} {v : V} {d : D} (ok : okKD (keyD κ)) (rd : RD K B φ H v d) : ∀ {vs : List (Key × V)} {ds : List (D × D)}, RKv K B φ H keyD vs ds → RKv K B φ H keyD (vs ++ [(κ, v)]) (ds ++ [(keyD κ, d)])
  | _, _, .nil => .cons ok rd .nil
  | _, _, .cons o r t => .cons o r (RKv.snoc ok rd t)
theorem RKv.put {κ : Key} {v : V} {d : D} {vs : List (Key × V)} {ds : List (D × D)} (q : RKv K B φ H keyD vs ds) (ok : okKD (keyD κ)) (rd : RD K B φ H v d) : RKv K B φ H keyD (putK vs κ v) (putKv ds (keyD κ) d) := by
  unfold putK putKv
  rw [q.any (κ := κ)]
  split
  · exact q.repl rd
  · exact q.snoc ok rd
theorem RKv.get {κ : Key} : ∀ {vs : List (Key × V)} {ds : List (D × D)}, RKv K B φ H keyD vs ds → (∀ d, getKv ds (keyD κ) = some d → ∃ v, valV vs κ = some v ∧ RD K B φ H v d) ∧ (getKv ds (keyD κ) = none → valV vs κ = none)
  | _, _, .nil => ⟨fun d h => by simp [getKv] at h, fun _ => rfl⟩
  | _, _, .cons (k := k) (v := v) (vs := vs) (ds := ds) _ r t => by
    obtain ⟨i1, i2⟩ := RKv.get (κ := κ) t
    by_cases h : k = κ
    · have h2 : keyEq (keyD k) (keyD κ) = true := by rw [keyD_inj]; simpa using h
      refine ⟨fun d hd => ?_, fun hd => ?_⟩
      · unfold getKv at hd
        rw [List.find?_cons_of_pos (p := fun p : D × D => keyEq p.1 (keyD κ)) h2] at hd
        cases hd
        exact ⟨v, valV_pos (p := (k, v)) h, r⟩
      · unfold getKv at hd
        rw [List.find?_cons_of_pos (p := fun p : D × D => keyEq p.1 (keyD κ)) h2] at hd
        cases hd
    · have h2 : ¬ keyEq (keyD k) (keyD κ) = true := by rw [keyD_inj]; simpa using h
      have e : valV ((k, v) :: vs) κ = valV vs κ := valV_neg (p := (k, v)) h
      refine ⟨fun d hd => ?_, fun hd => ?_⟩
      · unfold getKv at hd
        rw [List.find?_cons_of_neg (p := fun p : D × D => keyEq p.1 (keyD κ)) h2] at hd
        rw [e]; exact i1 d hd
      · unfold getKv at hd
        rw [List.find?_cons_of_neg (p := fun p : D × D => keyEq p.1 (keyD κ)) h2] at hd
        rw [e]; exact i2 hd
theorem putKv_len (kvs : List (D × D)) (k v : D) : (putKv kvs k v).length ≤ kvs.length + 1 := by
  unfold putKv
  split <;> simp
/-- a cell's things -/
theorem loc_lst (rs : RS K mg B φ H st) {n : Nat} {xs : List D} {v : V} (r : RD K B φ H v (.loc n)) (hs : st[n]? = some (.lst xs)) : ∃ a vs, v = .ref a ∧ φ[n]? = some a ∧ H a = some (.lst vs) ∧ RDs K B φ H vs xs := by
  cases r with | loc e =>
  obtain ⟨b, e', vs, hv, rv⟩ := rs.at_ n _ hs
  rw [e] at e'
  cases e'
  exact ⟨_, vs, rfl, e, hv, rv⟩
theorem loc_dct (rs : RS K mg B φ H st) {n : Nat} {xs : List (D × D)} {v : V} (r : RD K B φ H v (.loc n)) (hs : st[n]? = some (.dct xs)) : ∃ a vs, v = .ref a ∧ φ[n]? = some a ∧ H a = some (.dK vs) ∧ RKv K B φ H keyD vs xs := by
  cases r with | loc e =>
  obtain ⟨b, e', vs, hv, rv⟩ := rs.at_ n _ hs
  rw [e] at e'
  cases e'
  exact ⟨_, vs, rfl, e, hv, rv⟩
theorem loc_dlk (rs : RS K mg B φ H st) {n : Nat} {xs : List (D × D)} {v : V} (r : RD K B φ H v (.loc n)) (hs : st[n]? = some (.dlk xs)) : ∃ a o vs, v = .ref a ∧ φ[n]? = some a ∧ H a = some (.frz o (.dK vs)) ∧ RKv K B φ H keyD vs xs := by
  cases r with | loc e =>
  obtain ⟨b, e', o, vs, hv, rv⟩ := rs.at_ n _ hs
  rw [e] at e'
  cases e'
  exact ⟨_, o, vs, rfl, e, hv, rv⟩
theorem RS.setLst (rs : RS K mg B φ H st) {n : Nat} {a : Addr} {vs : List V} {xs : List D} (hn : φ[n]? = some a) (hh : ∃ ys, H a = some (.lst ys)) (r : RDs K B φ H vs xs) : RS K mg B φ (L2.upd H a (.lst vs)) (st.set n (.lst xs)) ∧ Go φ B H φ B (L2.upd H a (.lst vs)) :=
  rs.write hn (fun q u z => by obtain ⟨ys, hh⟩ := hh; rw [hh] at z; cases z) trivial fun H1 f e => ⟨vs, e, RDs.map f r⟩
theorem RS.setDct (rs : RS K mg B φ H st) {n : Nat} {a : Addr} {vs : List (Key × V)} {xs : List (D × D)} (hn : φ[n]? = some a) (hh : ∃ ys, H a = some (.dK ys)) (r : RKv K B φ H keyD vs xs) : RS K mg B φ (L2.upd H a (.dK vs)) (st.set n (.dct xs)) ∧ Go φ B H φ B (L2.upd H a (.dK vs)) :=
  rs.write hn (fun q u z => by obtain ⟨ys, hh⟩ := hh; rw [hh] at z; cases z) trivial fun H1 f e => ⟨vs, e, r.on f⟩
end
def tSetAny (K : Frag) (mg : Str → Option Value) : TSet := fun o i v H Q => ∃ B φ st d k z st', RS K mg B φ H st ∧ RD K B φ H o d ∧ RD K B φ H i k ∧ RD K B φ H v z ∧ setIx st d k z = some st' ∧ ∀ B' φ' H', Go φ B H φ' B' H' → RS K mg B' φ' H' st' → Q H'
def tGetAny (K : Frag) (mg : Str → Option Value) : V → V → Hp → VK → Prop := fun o i H Q => ∃ B φ st d k z, RS K mg B φ H st ∧ RD K B φ H o d ∧ RD K B φ H i k ∧ getIx st d k = some z ∧ ∀ v, RD K B φ H v z → Q v H
section
variable {X : Cx}
theorem set_any (hu : X.A.units + 1 < cLine) : PSet X (tSetAny X.K X.mg) := by
  intro pins s σ H o i v ov iv u Q I ro ri rv ⟨B, φ, st, d, k, z, st', rs, r1, r2, r3, hz, fin⟩
  unfold setIx at hz
  split at hz
  · rename_i n
    split at hz
    · rename_i xs hs
      split at hz
      · rename_i j
        cases r2
        obtain ⟨a, vs, rfl, e, hH, q⟩ := loc_lst rs r1 hs
        cases hj : ix? xs.length j with
        | none => rw [hj] at hz; cases hz
        | some m =>
          rw [hj] at hz
          cases hz
          obtain ⟨rs', g⟩ := rs.setLst e ⟨_, hH⟩ (q.set r3 m)
          exact set_list pins s σ H _ _ v ov iv u Q I ro ri rv ⟨a, vs, j, m, rfl, rfl, hH, by rw [ix_eq, q.length]; exact hj, fin _ _ _ g rs'⟩
      · cases hz
    · rename_i kvs hs
      split at hz
      · rename_i hk
        cases hz
        obtain ⟨a, vs, rfl, e, hH, q⟩ := loc_dct rs r1 hs
        obtain ⟨κ, rfl, rfl, okk⟩ := key_of_isKey r2 hk.1
        obtain ⟨rs', g⟩ := rs.setDct e ⟨_, hH⟩ (q.put okk r3)
        exact set_dict hu pins s σ H _ _ v ov iv u Q I ro ri rv ⟨a, _, rfl, DPut.k hH (by rw [q.length]; exact hk.2), fin _ _ _ g rs'⟩
      · cases hz
    · cases hz
  · cases hz
theorem get_any (hu : X.A.units + 1 < cLine) : PGet X (tGetAny X.K X.mg) := by
  intro pins s σ H o i ov iv Q I ro ri ⟨B, φ, st, d, k, z, rs, r1, r2, hz, fin⟩
  unfold getIx at hz
  split at hz
  · rename_i n
    split at hz
    · rename_i xs hs
      split at hz
      · rename_i j
        cases r2
        obtain ⟨a, vs, rfl, e, hH, q⟩ := loc_lst rs r1 hs
        cases hj : ix? xs.length j with
        | none => rw [hj] at hz; cases hz
        | some m =>
          rw [hj, Option.bind_some] at hz
          obtain ⟨v, hv, rv⟩ := q.get hz
          have hat : atI vs j = some v := by
            unfold atI
            rw [ix_eq, q.length, hj, Option.bind_some, hv]
          cases ro
          obtain ⟨t, rfl⟩ := ri
          obtain ⟨its, r, pl, hz⟩ := I.list (SqL.of hH)
          obtain ⟨j', h1, h2, h3, h4, h5⟩ := atI_get hat
          obtain ⟨w, ew, rw'⟩ := r.get h2
          have hl := r.length
          have hn := line63
          have fin' : EP X pins σ Q w s := ⟨v, H, I, rw', fin v rv⟩
          by_cases h0 : 0 ≤ j
          · have hj : j.toNat = j' := by
              rw [seqIndex_of h0 h5] at h1
              exact Option.some.inj h1
            exact wpAny_getItem_list pl.isList h0 (by omega) (by rw [hj]; simpa using ew) fin'
          · have hj : (j + (its.toArray.size : Int)).toNat = j' := by
              rw [seqIndex_neg (by omega) h4] at h1
              rw [List.size_toArray, ← hl]
              exact Option.some.inj h1
            exact wpAny_getItem_list_neg pl.isList (by omega) (by rw [List.size_toArray] <;> omega) (by omega) (by rw [hj]; simpa using ew) fin'
      · cases hz
    · rename_i kvs hs
      obtain ⟨a, vs, rfl, e, hH, q⟩ := loc_dct rs r1 hs
      have hk : isKey k = true := by
        unfold getKv at hz
        cases hf : kvs.find? (fun p => keyEq p.1 k) with
        | none => rw [hf] at hz; cases hz
        | some p =>
          have := List.find?_some hf
          cases k <;> simp [keyEq] at this <;> rfl
      obtain ⟨κ, rfl, rfl, okk⟩ := key_of_isKey r2 hk
      obtain ⟨v, hv, rv⟩ := (q.get (κ := κ)).1 z hz
      cases ro
      refine d_getItem hu I (v := v) (by rw [← hv]; exact DGet.k hH) ri fun w' s' I' rw' => ⟨v, H, I', rw', fin v rv⟩
    · cases hz
  · cases hz
theorem dget_k {H : Hp} {a : Addr} {kvs : List (Key × V)} {k : Key} (e : Rd H a (.dK kvs)) : DGet H a (kV k) (valV kvs k) := .inl ⟨kvs, k, e, rfl, rfl⟩
theorem dctOf_cases {K : Frag} {mg : Str → Option Value} {B : Addr → Prop} {φ : List Addr} {H : Hp} {st : Store} {d : D} {x : V} {kvs : List (D × D)} (rs : RS K mg B φ H st) (r : RD K B φ H x d) (h : dctOf st d = some kvs) :
    ∃ a ks, x = .ref a ∧ Rd H a (.dK ks) ∧ RKv K B φ H keyD ks kvs := by
  unfold dctOf at h
  split at h
  · split at h
    · rename_i hs
      cases h
      obtain ⟨a, vs, rfl, e, hH, q⟩ := loc_dct rs r hs
      exact ⟨a, vs, rfl, .inl hH, q⟩
    · rename_i hs
      cases h
      obtain ⟨a, o, vs, rfl, e, hH, q⟩ := loc_dlk rs r hs
      exact ⟨a, vs, rfl, .inr ⟨o, hH⟩, q⟩
    · cases h
  · cases h
theorem getKv_key {kvs : List (D × D)} {k z : D} (h : getKv kvs k = some z) : isKey k = true := by
  unfold getKv at h
  cases hf : kvs.find? (fun p => keyEq p.1 k) with
  | none => rw [hf] at h; cases h
  | some p =>
    have := List.find?_some hf
    cases k <;> simp [keyEq] at this <;> rfl
theorem op2_or {K : Frag} {mg : Str → Option Value} {W : WX} {σ : L2.St} {H : Hp} {Q : VK} {g g1 g2 : Store → D → D → Option D} {a b : Ex} (hg : ∀ st x y z, g st x y = some z → g1 st x y = some z ∨ g2 st x y = some z) (h : Tr K mg (RD K) (op2 g a b) W σ H Q) : Tr K mg (RD K) (op2 g1 a b) W σ H Q ∨ Tr K mg (RD K) (op2 g2 a b) W σ H Q := by
  obtain ⟨B, φ, e, st, r, st', re, rs, hc, fin⟩ := h
  have key : op2 g1 a b e st = some (r, st') ∨ op2 g2 a b e st = some (r, st') := by
    unfold op2 Act.bind look at hc ⊢
    cases ha : a e st with
    | none => rw [ha] at hc; cases hc
    | some p =>
      obtain ⟨q, st1⟩ := p
      rw [ha] at hc
      cases q with
      | error x => exact .inl hc
      | ok x =>
        dsimp only at hc ⊢
        cases hb : b e st1 with
        | none => rw [hb] at hc; cases hc
        | some p =>
          obtain ⟨q2, st2⟩ := p
          rw [hb] at hc
          cases q2 with
          | error x => exact .inl hc
          | ok y =>
            dsimp only at hc ⊢
            cases hz : g st2 x y with
            | none => rw [hz] at hc; cases hc
            | some z =>
              rw [hz] at hc
              rcases hg _ _ _ _ hz with k | k
              · left; rw [k]; exact hc
              · right; rw [k]; exact hc
  exact key.imp (fun k => ⟨B, φ, e, st, r, st', re, rs, k, fin⟩) fun k => ⟨B, φ, e, st, r, st', re, rs, k, fin⟩
variable {a o i : Expr} {ca co ci : Ex} {pos p p2 tpos : Pos} {es : List Expr} {cs : Ax} {x : Str}
theorem kvs_any {K : Frag} {B : Addr → Prop} {φ : List Addr} {H : Hp} {κ : Key} {ks : List (Key × V)} {kvs : List (D × D)} (q : RKv K B φ H keyD ks kvs) : (valV ks κ).isSome = kvs.any fun p => keyEq p.1 (keyD κ) := by
  rw [← valV_any, q.any (κ := κ)]
theorem o_in (hu : X.A.units + 66 < cLine) : OpR X (compareOp .In) (V2 X.K X.mg vIn) := by
  intro pins s σ H x y v u Q I rv ru ⟨B, φ, st, d, e, z, rs, r1, r2, hz, fin⟩
  unfold vIn at hz
  cases hd : dctOf st e with
  | none => rw [hd] at hz; exact o_in0 hu pins s σ H x y v u Q I rv ru ⟨B, φ, st, d, e, z, rs, r1, r2, hz, fin⟩
  | some kvs =>
    rw [hd] at hz
    dsimp only at hz
    split at hz
    · rename_i hk
      cases hz
      obtain ⟨p, ks, rfl, hH, q⟩ := dctOf_cases rs r2 hd
      obtain ⟨κ, rfl, rfl, okk⟩ := key_of_isKey r1 hk
      cases ru
      refine d_in (by omega) I (dget_k hH) rv fun s' J => ⟨.bl _, H, J, rfl, ?_⟩
      rw [kvs_any q]
      exact fin0 rs fin (.bl _)
    · cases hz
theorem o_nin (hu : X.A.units + 66 < cLine) : OpR X (compareOp .NotIn) (V2 X.K X.mg vNin) := by
  intro pins s σ H x y v u Q I rv ru ⟨B, φ, st, d, e, z, rs, r1, r2, hz, fin⟩
  unfold vNin at hz
  cases hd : dctOf st e with
  | none =>
    have : vIn st d e = vIn0 st d e := by unfold vIn; rw [hd]
    rw [this] at hz
    exact o_nin0 hu pins s σ H x y v u Q I rv ru ⟨B, φ, st, d, e, z, rs, r1, r2, hz, fin⟩
  | some kvs =>
    unfold vIn at hz
    rw [hd] at hz
    dsimp only at hz
    by_cases hk : isKey d = true
    · rw [if_pos hk] at hz
      cases hz
      obtain ⟨p, ks, rfl, hH, q⟩ := dctOf_cases rs r2 hd
      obtain ⟨κ, rfl, rfl, okk⟩ := key_of_isKey r1 hk
      cases ru
      refine d_notIn (by omega) I (dget_k hH) rv fun s' J => ⟨.bl _, H, J, rfl, ?_⟩
      rw [kvs_any q]
      exact fin0 rs fin (.bl _)
    · rw [if_neg hk] at hz; cases hz
theorem isB_in : IsB vIn := fun st d e z h => by
  unfold vIn at h
  split at h
  · split at h
    · cases h; exact ⟨_, rfl⟩
    · cases h
  · exact isB_in0 st d e z h
theorem isB_nin : IsB vNin := fun st d e z h => by unfold vNin at h; split at h <;> cases h; exact ⟨_, rfl⟩
def vIxD (st : Store) (d i : D) : Option D := (dctOf st d).bind fun kvs => getKv kvs i
/-- a place of a list, a tuple, a text, a dict -/
theorem re_ix (hu : X.A.units + 1 < cLine) (ha : RE X a ca) (hb : RE X i ci) (hs : PlainIx i := by intro _ _; rfl) (hs2 : NoSl i := by intro _ _; rfl) : RE X (.Subscript a i pos) (op2 vIx ca ci) := fun W tk =>
  ((re_ix0 ha hb hs W tk).or ((pe_dget hu (ha W tk) (hb W tk) hs2).imp (t' := Tr X.K X.mg (RD X.K) (op2 vIxD ca ci) W) fun σ H Q h => (Tr.bind h).mono fun x H1 h1 => (TrK.bind mono_d h1).mono fun y H2 h2 => by
    obtain ⟨B, φ, st, d, e, z, rs, r1, r2, hz, fin⟩ := h2.v2
    unfold vIxD at hz
    cases hd : dctOf st d with
    | none => rw [hd] at hz; cases hz
    | some kvs =>
      rw [hd, Option.bind_some] at hz
      obtain ⟨p, ks, rfl, hH, q⟩ := dctOf_cases rs r1 hd
      obtain ⟨κ, rfl, rfl, okk⟩ := key_of_isKey r2 (getKv_key hz)
      obtain ⟨v, hv, rv⟩ := (q.get (κ := κ)).1 z hz
      exact ⟨p, v, rfl, by rw [← hv]; exact dget_k hH, fin0 rs fin rv⟩)).imp fun σ H Q h => op2_or (fun st x y z hz => by
    unfold vIx at hz
    cases hd : dctOf st x with
    | none => rw [hd] at hz; exact .inl hz
    | some kvs => rw [hd] at hz; right; unfold vIxD; rw [hd]; exact hz) h
theorem Tr.noX {K : Frag} {mg : Str → Option Value} {α β : Type} {R : Rl α β} {c : Act α} {W : WX} {σ : L2.St} {H : Hp} {Q : β → Hp → Prop} {B : Addr → Prop} {φ : List Addr} {e : Env} {st st' : Store} {d : α} (re : REnv K B φ H σ e) (rs : RS K mg B φ H st) (h : c e st = some (.ok d, st'))
    (fin : ∀ v B' φ' H', Go φ B H φ' B' H' → RS K mg B' φ' H' st' → R B' φ' H' v d → Q v H') : Tr K mg R c W σ H Q := ⟨B, φ, e, st, _, _, re, rs, h, fin⟩
theorem rg_sub (hu : X.A.units + 1 < cLine) (ho : RE X o co) (hi : RE X i ci)
    (ha : ∀ v, assign (.Subscript o i pos) X.env v = (do
      let ov ← holding [v] (eval o X.env)
      let iv ← holding [v, ov] (eval i X.env)
      standAt pos
      holding [v, ov, iv] (setItem ov iv v)
      release [v, ov, iv] []) := by intro _; rfl) : RG X (.Subscript o i pos) (Sw.gSet co ci) := fun W tk =>
  (pg_sub (ho W tk) (hi W tk) (set_any hu) ha).imp fun v σ H Q ⟨B, φ, e, st, d, e', st', re, rs, rd, hc, fin⟩ => by
    unfold Sw.gSet at hc
    cases h1 : co e st with
    | none => rw [h1] at hc; cases hc
    | some p1 =>
      obtain ⟨q1, st1⟩ := p1
      rw [h1] at hc
      cases q1 with
      | error x => cases hc
      | ok x =>
        dsimp only at hc
        cases h2 : ci e st1 with
        | none => rw [h2] at hc; cases hc
        | some p2 =>
          obtain ⟨q2, st2⟩ := p2
          rw [h2] at hc
          cases q2 with
          | error y => cases hc
          | ok y =>
            dsimp only at hc
            cases h3 : setIx st2 x y d with
            | none => rw [h3] at hc; cases hc
            | some st3 =>
              rw [h3] at hc
              obtain ⟨rfl, rfl⟩ : e = e' ∧ st3 = st' := by cases hc; exact ⟨rfl, rfl⟩
              refine Tr.noX re rs h1 fun u B1 φ1 H1 g1 rs1 r1 => Tr.noX (REnv.go rs g1 re) rs1 h2 fun w B2 φ2 H2 g2 rs2 r2 => ?_
              have g12 := g1.trans g2
              exact ⟨B2, φ2, st2, x, y, d, st3, rs2, RD.go rs1 g2 r1, r2, RD.go rs g12 rd, h3, fun B3 φ3 H3 g3 rs3 => fin σ B3 φ3 H3 (g12.trans g3) rs3 (REnv.go rs (g12.trans g3) re)⟩
/-- x op= e, ints -/
def tIpI (K : Frag) (mg : Str → Option Value) (f : Store → D → D → Option D) : TIp := fun x y H Q => ∃ B φ st d e z, RS K mg B φ H st ∧ RD K B φ H x d ∧ RD K B φ H y e ∧ f st d e = some z ∧ ∀ v B' φ' H', Go φ B H φ' B' H' → RS K mg B' φ' H' st → RD K B' φ' H' v z → Q v H'
theorem ip_aAdd : PIp X .Add (tIpI X.K X.mg aAdd) := by
  intro pins s σ H x y v u Q I r1 r2 ⟨B, φ, st, d, e, z, rs, q1, q2, hz, fin⟩
  unfold aAdd at hz
  split at hz
  · cases hz; cases q1; cases q2
    exact ip_add pins s σ H _ _ v u Q I r1 r2 ⟨_, _, rfl, rfl, fin0 rs fin (.int _)⟩
  · cases hz
theorem ip_aSub : PIp X .Sub (tIpI X.K X.mg aSub) := by
  intro pins s σ H x y v u Q I r1 r2 ⟨B, φ, st, d, e, z, rs, q1, q2, hz, fin⟩
  unfold aSub at hz
  split at hz
  · cases hz; cases q1; cases q2
    exact ip_sub pins s σ H _ _ v u Q I r1 r2 ⟨_, _, rfl, rfl, fin0 rs fin (.int _)⟩
  · cases hz
theorem rs_aug {j : Nat} {op : Operator} {f : Store → D → D → Option D} {p' : Pos} (hN : X.N.Nodup) (hi : X.N[j]? = some x) (hx : Loc X.env.scope x) (ha : RE X a ca) (ho : PIp X op (tIpI X.K X.mg f))
    (hf : X.fn x = true ∨ X.env.scope.names.lookup x = some .local := by first | exact .inl rfl | exact .inr rfl | assumption) : RSt X (.AugAssign (.Name x p') op a pos) (sAug j f ca) := fun W tk =>
  (ps_aug hN hi hx (ha W tk) ho hf).imp fun D σ H ⟨B, φ, e, st, r, st', re, rs, hc, fin⟩ => by
    unfold sAug at hc
    split at hc
    · rename_i d0 hd0
      obtain ⟨v0, hv0, rv0⟩ := re.2 j d0 hd0
      refine ⟨v0, hv0, ?_⟩
      cases h1 : ca e st with
      | none => rw [h1] at hc; cases hc
      | some p1 =>
        obtain ⟨q1, st1⟩ := p1
        rw [h1] at hc
        cases q1 with
        | error y =>
          cases hc
          exact ⟨B, φ, e, st, _, _, re, rs, h1, fun cls dx B' φ' H' g rs' rx => fin cls dx σ B' φ' H' g rs' (REnv.go rs g re) rx⟩
        | ok d =>
          dsimp only at hc
          cases hf : f st1 d0 d with
          | none => rw [hf] at hc; cases hc
          | some z =>
            rw [hf] at hc
            cases hc
            exact Tr.noX re rs h1 fun u B1 φ1 H1 g1 rs1 r1 => ⟨B1, φ1, _, d0, d, z, rs1, RD.go rs g1 rv0, r1, hf, fun v B2 φ2 H2 g2 rs2 r2 => fin _ B2 φ2 H2 (g1.trans g2) rs2 ((REnv.go rs (g1.trans g2) re).set r2)⟩
    · cases hc
theorem rs_augS {op : Operator} {f : Store → D → D → Option D} (hu : X.A.units + 1 < cLine) (ho : RE X o co) (hi : RE X i ci) (he : RE X a ca) (hp : PIp X op (tIpI X.K X.mg f))
    (ha : ∀ ov iv new, augStore i ov iv new = (do holding [new, ov, iv] (setItem ov iv new); release [new, ov, iv] []; pure .next) := by intros; rfl) : RSt X (.AugAssign (.Subscript o i tpos) op a pos) (sAugS f co ci ca) := fun W tk =>
  (ps_augS (ho W tk) (hi W tk) (get_any hu) (he W tk) hp (set_any hu) ha).imp fun D σ H ⟨B, φ, e, st, r, st', re, rs, hc, fin⟩ => by
    unfold sAugS at hc
    cases h1 : co e st with
    | none => rw [h1] at hc; cases hc
    | some p1 =>
      obtain ⟨q1, st1⟩ := p1
      rw [h1] at hc
      cases q1 with
      | error x => cases hc
      | ok x =>
        dsimp only at hc
        cases h2 : ci e st1 with
        | none => rw [h2] at hc; cases hc
        | some p2 =>
          obtain ⟨q2, st2⟩ := p2
          rw [h2] at hc
          cases q2 with
          | error y => cases hc
          | ok y =>
            dsimp only at hc
            cases h3 : getIx st2 x y with
            | none => rw [h3] at hc; cases hc
            | some w =>
              rw [h3] at hc
              dsimp only at hc
              cases h4 : ca e st2 with
              | none => rw [h4] at hc; cases hc
              | some p4 =>
                obtain ⟨q4, st3⟩ := p4
                rw [h4] at hc
                cases q4 with
                | error y => cases hc
                | ok d =>
                  dsimp only at hc
                  cases h5 : f st3 w d with
                  | none => rw [h5] at hc; cases hc
                  | some z =>
                    rw [h5] at hc
                    dsimp only at hc
                    cases h6 : setIx st3 x y z with
                    | none => rw [h6] at hc; cases hc
                    | some st4 =>
                      rw [h6] at hc
                      cases hc
                      refine Tr.noX re rs h1 fun u B1 φ1 H1 g1 rs1 r1 => Tr.noX (REnv.go rs g1 re) rs1 h2 fun k B2 φ2 H2 g2 rs2 r2 => ?_
                      refine ⟨B2, φ2, st2, x, y, w, rs2, RD.go rs1 g2 r1, r2, h3, fun v3 r3 => ?_⟩
                      refine Tr.noX (REnv.go rs (g1.trans g2) re) rs2 h4 fun v4 B4 φ4 H4 g4 rs4 r4 => ?_
                      refine ⟨B4, φ4, st3, w, d, z, rs4, RD.go rs2 g4 r3, r4, h5, fun v5 B5 φ5 H5 g5 rs5 r5 => ?_⟩
                      have g24 := g4.trans g5
                      have gA := (g1.trans g2).trans g24
                      exact ⟨B5, φ5, st3, x, y, z, _, rs5, RD.go rs1 (g2.trans g24) r1, RD.go rs2 g24 r2, r5, h6, fun B6 φ6 H6 g6 rs6 => fin σ B6 φ6 H6 (gA.trans g6) rs6 (REnv.go rs (gA.trans g6) re)⟩
/-! ### methods -/
def VM (K : Frag) (mg : Str → Option Value) (g : Store → D → List D → Option (D × Store)) : V → List V → Hp → VK → Prop := fun x xs H Q =>
  ∃ B φ st d ds z st', RS K mg B φ H st ∧ RD K B φ H x d ∧ RDs K B φ H xs ds ∧ g st d ds = some (z, st') ∧ ∀ v B' φ' H', Go φ B H φ' B' H' → RS K mg B' φ' H' st' → RD K B' φ' H' v z → Q v H'
theorem tyV_of {K : Frag} {mg : Str → Option Value} {B : Addr → Prop} {φ : List Addr} {H : Hp} {st : Store} (rs : RS K mg B φ H st) {v : V} {d : D} {T : String} (r : RD K B φ H v d) (h : tyN st d = some T) (hT : T ∈ ["str", "list", "dict"]) : tyV K T v H := by
  cases r with
  | non => cases h; simp at hT
  | bl b => cases h; simp at hT
  | int i => cases h; simp at hT
  | str x _ => cases h; exact rfl
  | tup sq q => cases h; simp at hT
  | lst e _ _ => cases h; exact .inl ⟨rfl, _, SqL.of e⟩
  | scr _ => cases h
  | par _ _ => cases h
  | loc e =>
    rename_i a n
    cases hs : st[n]? with
    | none => simp [tyN, hs] at h
    | some c =>
      obtain ⟨b, e', rc⟩ := rs.at_ n _ hs
      rw [e] at e'
      cases e'
      cases c with
      | lst _ => simp only [tyN, hs] at h; cases h; obtain ⟨_, e2, _⟩ := rc; exact .inl ⟨rfl, _, SqL.of e2⟩
      | dct _ => simp only [tyN, hs] at h; cases h; obtain ⟨_, e2, _⟩ := rc; exact .inr (.inr (.inl ⟨rfl, .inl ⟨_, e2⟩⟩))
      | dtt _ => simp only [tyN, hs] at h; cases h; obtain ⟨_, e2, _⟩ := rc; exact .inr (.inr (.inl ⟨rfl, .inr ⟨_, e2⟩⟩))
      | ins _ _ => simp [tyN, hs] at h
      | dlk _ => simp [tyN, hs] at h
      | llk _ => simp [tyN, hs] at h
theorem TrK.meth {K : Frag} {mg : Str → Option Value} {W : WX} {σ : L2.St} {H : Hp} {v : V} {T : String} {g : Store → D → List D → Option (D × Store)} {Q : VK} (hT : T ∈ ["str", "list", "dict"])
    (h : TrK K mg (RD K) (RD K) (fun x => (look fun st => if tyN st x = some T then some () else none : Act Unit).bind fun _ => cs.bind fun xs => fun _ st => (g st x xs).map fun p => (.ok p.1, p.2)) W v σ H Q) :
    tyV K T v H ∧ Tr K mg (RDs K) cs W σ H fun xs H2 => VM K mg g v xs H2 Q := by
  obtain ⟨B, φ, e, st, d, r, st', re, rs, r1, hc, fin⟩ := h
  unfold Act.bind at hc
  dsimp only at hc
  cases hl : (look fun st => if tyN st d = some T then some () else none : Act Unit) e st with
  | none => rw [hl] at hc; cases hc
  | some p =>
    obtain ⟨q, st1⟩ := p
    obtain ⟨z, rfl, rfl, hz⟩ := look_eq hl
    rw [hl] at hc
    dsimp only at hc
    have ty : tyN st1 d = some T := by
      by_cases h : tyN st1 d = some T
      · exact h
      · rw [if_neg h] at hz; cases hz
    refine ⟨tyV_of rs r1 ty hT, ?_⟩
    cases ha : cs e st1 with
    | none => rw [ha] at hc; cases hc
    | some p2 =>
      obtain ⟨q2, st2⟩ := p2
      rw [ha] at hc
      cases q2 with
      | error x =>
        cases hc
        exact ⟨B, φ, e, _, _, _, re, rs, ha, fin⟩
      | ok xs =>
        dsimp only at hc
        cases hg : g st2 d xs with
        | none => rw [hg] at hc; cases hc
        | some pz =>
          obtain ⟨z2, st3⟩ := pz
          rw [hg] at hc
          cases hc
          exact Tr.noX re rs ha fun ws B' φ' H' g' rs' rw' => ⟨B', φ', st2, d, xs, z2, st3, rs', RD.go rs g' r1, rw', hg, fun v B2 φ2 H2 g2 rs2 r2 => fin v B2 φ2 H2 (g'.trans g2) rs2 r2⟩
variable {T id : String} {name : Str} {apos cpos : Pos} {g : Store → D → List D → Option (D × Store)} {e : Expr}
theorem re_bm (pa : PlainAttrs T) (slot : Slot T name id) (hty : typeOf (.builtin id) = pure (.type "method_descriptor")) (hT : T ∈ ["str", "list", "dict"]) (hm : MtR X id (VM X.K X.mg g)) (ho : RE X o co) (ha : RA X (e :: es) cs)
    (hbase : attributeBase o name X.env (eval o X.env) = eval o X.env := by rfl)
    (hfew : ((backTo cpos (starEach (e :: es) X.env)).all (fun x => !x.1) && (backToKw cpos (keywordEach [] X.env)).all (fun x => x.1.isSome)
      && decide ((e :: es).length + ([] : List Keyword).length + (if ([] : List Keyword).isEmpty then 0 else 1) < 30)) = true := by rfl)
    (hline : (apos.endLine == cpos.line) = true := by rfl) (hs : starEach (e :: es) X.env = (false, eval e X.env) :: starEach es X.env := by rfl) (hplain : (backTo cpos (starEach es X.env)).any (·.1) = false := by rfl) :
    RE X (.Call (.Attribute o name apos) (e :: es) [] cpos) (eMeth T g co cs) := fun W tk =>
  (pe_bm pa slot hty hm (ho W tk) (ha W tk) hbase hfew hline hs hplain).imp fun σ H Q h => (Tr.bind h).mono fun v H1 h1 => h1.meth hT
theorem re_bm0 (pa : PlainAttrs T) (slot : Slot T name id) (hty : typeOf (.builtin id) = pure (.type "method_descriptor")) (hT : T ∈ ["str", "list", "dict"]) (hm : MtR X id (VM X.K X.mg g)) (ho : RE X o co)
    (hbase : attributeBase o name X.env (eval o X.env) = eval o X.env := by rfl) (hline : (apos.endLine == cpos.line) = true := by rfl) : RE X (.Call (.Attribute o name apos) [] [] cpos) (eMeth T g co aNil) := fun W tk =>
  (pe_bm0 pa slot hty hm (ho W tk) hbase hline).imp fun σ H Q h => (Tr.bind h).mono fun v H1 h1 => by
    obtain ⟨t, q⟩ := h1.meth hT
    refine ⟨t, ?_⟩
    obtain ⟨B, φ, e, st, r, st', re, rs, hc, fin⟩ := q
    unfold aNil at hc
    cases hc
    exact fin [] _ _ _ (.refl rs) rs .nil
theorem m_append : MtR X "list.append" (VM X.K X.mg mAppend) := by
  intro pins s σ H x xs v us Q I rx rxs ⟨B, φ, st, d, ds, z, st', rs, r, rr, hz, fin⟩
  unfold mAppend at hz
  split at hz
  · rename_i n y
    split at hz
    · rename_i ys hs
      split at hz
      · rename_i hl
        cases hz
        obtain ⟨a, vs, rfl, e, hH, q⟩ := loc_lst rs r hs
        obtain ⟨w, rfl, rw'⟩ := args1 rr
        obtain ⟨rs', g⟩ := rs.setLst e ⟨_, hH⟩ (q.append (.cons rw' .nil))
        exact mt_append pins s σ H _ _ v us Q I rx rxs ⟨a, vs, w, rfl, rfl, hH, by rw [q.length]; exact hl, fin _ _ _ _ g rs' .non⟩
      · cases hz
    · cases hz
  · cases hz
theorem m_extend : MtR X "list.extend" (VM X.K X.mg mExtend) := by
  intro pins s σ H x xs v us Q I rx rxs ⟨B, φ, st, d, ds, z, st', rs, r, rr, hz, fin⟩
  unfold mExtend at hz
  split at hz
  · rename_i n y
    split at hz
    · rename_i ys zs hs hy
      split at hz
      · rename_i hl
        cases hz
        obtain ⟨a, vs, rfl, e, hH, q⟩ := loc_lst rs r hs
        obtain ⟨w, rfl, rw'⟩ := args1 rr
        obtain ⟨b, ws, rfl, q2, hb⟩ := lst_cases rs rw' hy
        obtain ⟨rs', g⟩ := rs.setLst e ⟨_, hH⟩ (q.append q2)
        exact mt_extend pins s σ H _ _ v us Q I rx rxs ⟨a, b, vs, ws, rfl, rfl, hH, hb, by rw [q.length, q2.length]; exact hl, fin _ _ _ _ g rs' .non⟩
      · cases hz
    · cases hz
  · cases hz
theorem ix_bounds {n : Nat} {i : Int} {j : Nat} (h : ix? n i = some j) : seqIndex? i n = some j ∧ j < n ∧ -(n : Int) ≤ i ∧ i < n := ixN_seq h
theorem m_pop : MtR X "list.pop" (VM X.K X.mg mPop) := by
  intro pins s σ H x xs v us Q I rx rxs ⟨B, φ, st, d, ds, z, st', rs, r, rr, hz, fin⟩
  unfold mPop at hz
  split at hz
  · rename_i n
    split at hz
    · rename_i ys hs
      obtain ⟨a, vs, rfl, e, hH, q⟩ := loc_lst rs r hs
      cases rr
      cases hy : ys[ys.length - 1]? with
      | none => rw [hy] at hz; cases hz
      | some y =>
        rw [hy] at hz
        cases hz
        obtain ⟨w, hw, rw'⟩ := q.get hy
        obtain ⟨rs', g⟩ := rs.setLst e ⟨_, hH⟩ q.dropLast
        exact mt_pop pins s σ H _ _ v us Q I rx rxs ⟨a, vs, w, rfl, rfl, hH, by rw [q.length]; exact hw, fin _ _ _ _ g rs' (RD.go rs g rw')⟩
    · cases hz
  · rename_i n i
    split at hz
    · rename_i ys hs
      obtain ⟨a, vs, rfl, e, hH, q⟩ := loc_lst rs r hs
      obtain ⟨u1, rfl, ri⟩ := args1 rr
      cases ri
      cases hj : ix? ys.length i with
      | none => rw [hj] at hz; cases hz
      | some j =>
        rw [hj, Option.bind_some] at hz
        cases hy : ys[j]? with
        | none => rw [hy] at hz; cases hz
        | some y =>
          rw [hy] at hz
          cases hz
          obtain ⟨w, hw, rw'⟩ := q.get hy
          obtain ⟨rs', g⟩ := rs.setLst e ⟨_, hH⟩ (q.eraseIdx j)
          obtain ⟨h1, h2, h3, h4⟩ := ix_bounds hj
          have hl : vs.length ≤ sizeLine := (I.lstM hH).1
          have hn := line63
          have ql := q.length
          exact mt_popAt pins s σ H _ _ v us Q I rx rxs ⟨a, vs, i, j, w, rfl, rfl, hH, by omega, by omega, by rw [q.length]; exact h1, hw, fin _ _ _ _ g rs' (RD.go rs g rw')⟩
    · cases hz
  · cases hz
end
end Sw

/-! ListZip: list(zip(x, y)): the pairs that are given out stay. -/
set_option Elab.async false
set_option linter.all false
set_option maxRecDepth 100000
set_option maxHeartbeats 4000000
namespace Sw.LZ
open PySem PySem.Spec PyProof.Rows
theorem nolen_zip : typeLookup (.type "zip") "__len__" = pure none := by rw [typeLookup_type, builtinLookup_eq_fast]; kernel_rfl
theorem nohint_zip : typeLookup (.type "zip") "__length_hint__" = pure none := by rw [typeLookup_type, builtinLookup_eq_fast]; kernel_rfl
section
variable {prog : Program} {w : World} {A : Around} {E : Value → Shared → Prop} {s : Shared} {z TI TO i1 i2 T : Addr} {fp1 fp2 : List Addr} {n1 n2 i : Nat} {P1 P2 : Nat → Value → Prop} {St1 St2 : Nat → Heap → Prop} {f : Bool} {oT : Obj}
/-- next, while a pair is out -/
theorem held_item {Q : Value → Shared → Prop} (S : ZipSep2 z TI TO i1 i2 fp1 fp2) (D1 : Draws prog w A i1 fp1 n1 P1 St1) (D2 : Draws prog w A i2 fp2 n2 P2 St2)
    (hz : IsZipHeld s.heap z TI TO T f) (hT : s.heap.get? T = some oT) (hTI : IsTupOf2 s.heap TI (.ref i1) (.ref i2)) (st1 : St1 i s.heap) (st2 : St2 i s.heap) (hlt1 : i < n1) (hlt2 : i < n2)
    (hQ : ∀ x1 x2 h' tk, P1 i x1 → P2 i x2 → IsZipHeld h' z TI TO T true → St1 (i + 1) h' → St2 (i + 1) h' → IsTupOf2 h' s.heap.objs.size x1 x2 → h'.objs.size = s.heap.objs.size + 1 →
      (∀ c o, c ≠ z → c ≠ i1 → c ≠ i2 → s.heap.get? c = some o → h'.get? c = some o) → Q (.ref s.heap.objs.size) { s with heap := h', toks := tk }) :
    wpAny (model prog w) A (Builtin.«zip.__next__» ⟨[.ref z], []⟩) (fun fin s' => ∃ v, fin = .done (.ret v) ∧ Q v s') E s := by
  obtain ⟨hp, g, d, tk0, os⟩ := s
  show wpAny _ _ (field (.ref z) 2 >>= _) _ _ _
  refine wpAny_bind (wpAny_field hz rfl (x := .bool false) rfl ?_)
  show wpAny _ _ (field (.ref z) 3 >>= _) _ _ _
  refine wpAny_bind (wpAny_field hz rfl (x := .ref TI) rfl ?_)
  refine wpAny_bind (wpAny_seqItems hTI rfl ?_)
  show wpAny _ _ (Builtin.SmallTypes.ownedTupleIsFree (.ref z) >>= _) _ _ _
  refine wpAny_bind (wpAny_tupleHeld_zip hz hT fun g0 hz0 hs0 => ?_)
  replace hs0 : Heap.SameBut z hp g0 := hs0
  simp only [Bool.false_eq_true, if_false]
  refine wpAny_bind ?_
  rw [← Array.forIn_toList]
  simp only [List.forIn_cons, List.forIn_nil]
  refine wpAny_bind (wpAny_bind (wpAny_holding ?_))
  show wpAny _ _ (Builtin.SmallTypes.nextOf (.ref i1) >>= _) _ _ ⟨g0, g, d, tk0, os⟩
  refine wpAny_bind (D1.item i _ _ _ hlt1 (D1.over st1 hs0 S.zf1) fun x1 p1 tk1 hx1 sn1 hp1 => wpAny_pure ?_)
  replace hp1 : Heap.SameBut i1 g0 p1 := hp1
  refine wpAny_pure ?_
  refine wpAny_bind (wpAny_bind (wpAny_holding ?_))
  show wpAny _ _ (Builtin.SmallTypes.nextOf (.ref i2) >>= _) _ _ ⟨p1, g, d, tk1, os⟩
  refine wpAny_bind (D2.item i _ _ _ hlt2 (D2.over (D2.over st2 hs0 S.zf2) hp1 S.sep1_2) fun x2 p2 tk2 hx2 sn2 hp2 => wpAny_pure ?_)
  replace hp2 : Heap.SameBut i2 p1 p2 := hp2
  refine wpAny_pure (wpAny_pure ?_)
  show wpAny _ _ (newTuple [x1, x2] >>= _) _ _ ⟨p2, g, d, tk2, os⟩
  refine wpAny_bind (wpAny_newTuple ?_)
  have hsz : p2.objs.size = hp.objs.size := by rw [hp2.1, hp1.1, hs0.1]
  have hzz : IsZipHeld p2 z TI TO T true := hp2.extBut _ _ S.zi2 (hp1.extBut _ _ S.zi1 hz0)
  have hkk : ∀ c o, c ≠ z → c ≠ i1 → c ≠ i2 → hp.get? c = some o → p2.get? c = some o := fun c o cz c1 c2 e => hp2.extBut _ _ c2 (hp1.extBut _ _ c1 (hs0.extBut _ _ cz e))
  have hj1 : St1 (i + 1) p2 := D1.over sn1 hp2 S.sep2_1
  refine wpAny_pure ⟨_, rfl, ?_⟩
  show Q (.ref p2.objs.size) _
  have hpr : IsTupOf2 (p2.push { cls := .type "tuple", data := .seq #[x1, x2] }) p2.objs.size x1 x2 := Heap.get?_push_size _ rfl
  have hz4 : (p2.push { cls := .type "tuple", data := .seq #[x1, x2] }).objs.size = p2.objs.size + 1 := Heap.size_push ..
  rw [hsz] at hpr hz4 ⊢
  exact hQ x1 x2 _ tk2 hx1 hx2 (Heap.get?_push_of_some _ hzz) (D1.frame _ _ _ hj1 fun b _ o e => Heap.get?_push_of_some _ e) (D2.frame _ _ _ sn2 fun b _ o e => Heap.get?_push_of_some _ e) hpr hz4 fun c o c1 c2 c3 e => Heap.get?_push_of_some _ (hkk c o c1 c2 c3 e)
theorem held_end {Q : PySem.Fin → Shared → Prop} (S : ZipSep2 z TI TO i1 i2 fp1 fp2) (D1 : Draws prog w A i1 fp1 n1 P1 St1) (D2 : Draws prog w A i2 fp2 n2 P2 St2)
    (hz : IsZipHeld s.heap z TI TO T f) (hT : s.heap.get? T = some oT) (hTI : IsTupOf2 s.heap TI (.ref i1) (.ref i2)) (st1 : St1 i s.heap) (st2 : St2 i s.heap) (hle1 : i ≤ n1) (hle2 : i ≤ n2) (hend : i = n1 ∨ i = n2)
    (hE : ∀ h' tk e, (∀ c o, c ≠ z → c ≠ i1 → c ≠ i2 → s.heap.get? c = some o → h'.get? c = some o) → (∃ o, h'.get? e = some o ∧ o.cls = .type "StopIteration") → E (.ref e) { s with heap := h', toks := tk }) :
    wpAny (model prog w) A (Builtin.«zip.__next__» ⟨[.ref z], []⟩) Q E s := by
  obtain ⟨hp, g, d, tk0, os⟩ := s
  show wpAny _ _ (field (.ref z) 2 >>= _) _ _ _
  refine wpAny_bind (wpAny_field hz rfl (x := .bool false) rfl ?_)
  show wpAny _ _ (field (.ref z) 3 >>= _) _ _ _
  refine wpAny_bind (wpAny_field hz rfl (x := .ref TI) rfl ?_)
  refine wpAny_bind (wpAny_seqItems hTI rfl ?_)
  show wpAny _ _ (Builtin.SmallTypes.ownedTupleIsFree (.ref z) >>= _) _ _ _
  refine wpAny_bind (wpAny_tupleHeld_zip hz hT fun g0 hz0 hs0 => ?_)
  replace hs0 : Heap.SameBut z hp g0 := hs0
  simp only [Bool.false_eq_true, if_false]
  refine wpAny_bind ?_
  rw [← Array.forIn_toList]
  simp only [List.forIn_cons, List.forIn_nil]
  refine wpAny_bind (wpAny_bind (wpAny_holding ?_))
  show wpAny _ _ (Builtin.SmallTypes.nextOf (.ref i1) >>= _) _ _ ⟨g0, g, d, tk0, os⟩
  have t1 := D1.over st1 hs0 S.zf1
  have t2 := D2.over st2 hs0 S.zf2
  by_cases h1 : i = n1
  · subst h1
    refine wpAny_bind (D1.done _ _ _ t1 fun h2 e hx he => ?_)
    exact hE h2 tk0 e (fun c o c1 c2 _ x => hx _ _ c2 (hs0.extBut _ _ c1 x)) he
  · have h2 : i = n2 := hend.resolve_left h1
    subst h2
    refine wpAny_bind (D1.item i _ _ _ (by omega) t1 fun x1 p1 tk1 hx1 sn1 hp1 => wpAny_pure ?_)
    replace hp1 : Heap.SameBut i1 g0 p1 := hp1
    refine wpAny_pure ?_
    refine wpAny_bind (wpAny_bind (wpAny_holding ?_))
    show wpAny _ _ (Builtin.SmallTypes.nextOf (.ref i2) >>= _) _ _ ⟨p1, g, d, tk1, os⟩
    refine wpAny_bind (D2.done _ _ _ (D2.over t2 hp1 S.sep1_2) fun h3 e hx he => ?_)
    exact hE h3 tk1 e (fun c o c1 c2 c3 x => hx _ _ c3 (hp1.extBut _ _ c2 (hs0.extBut _ _ c1 x))) he
theorem pyNext_held_item {Q : Option Value → Shared → Prop} (S : ZipSep2 z TI TO i1 i2 fp1 fp2) (D1 : Draws prog w A.in1 i1 fp1 n1 P1 St1) (D2 : Draws prog w A.in1 i2 fp2 n2 P2 St2)
    (hz : IsZipHeld s.heap z TI TO T f) (hT : s.heap.get? T = some oT) (hTI : IsTupOf2 s.heap TI (.ref i1) (.ref i2)) (st1 : St1 i s.heap) (st2 : St2 i s.heap) (hlt1 : i < n1) (hlt2 : i < n2)
    (hQ : ∀ x1 x2 h' tk, P1 i x1 → P2 i x2 → IsZipHeld h' z TI TO T true → St1 (i + 1) h' → St2 (i + 1) h' → IsTupOf2 h' s.heap.objs.size x1 x2 → h'.objs.size = s.heap.objs.size + 1 →
      (∀ c o, c ≠ z → c ≠ i1 → c ≠ i2 → s.heap.get? c = some o → h'.get? c = some o) → Q (some (.ref s.heap.objs.size)) { s with heap := h', toks := tk }) :
    wpAny (model prog w) A (pyNext (.ref z)) Q E s := by
  have hTy : s.TypeIs (.ref z) "zip" := ⟨_, hz, rfl⟩
  unfold pyNext
  exact wpAny_bind (wpAny_attempt (wpAny_callSpecial?_slot (name := Str.ofString "__next__") hTy PySem.F.slot_zip_next
    (wpAny_call_entry PySem.F.slot_zip_next hTy PySem.F.entry_zip_next
      (held_item S D1 D2 hz hT hTI st1 st2 hlt1 hlt2 fun x1 x2 h' tk a1 a2 a3 a4 a5 a6 a7 a8 => wpAny_pure (hQ x1 x2 h' tk a1 a2 a3 a4 a5 a6 a7 a8)) (PySem.F.args_zip_next_1 _))))
theorem pyNext_held_end {Q : Option Value → Shared → Prop} (S : ZipSep2 z TI TO i1 i2 fp1 fp2) (D1 : Draws prog w A.in1 i1 fp1 n1 P1 St1) (D2 : Draws prog w A.in1 i2 fp2 n2 P2 St2)
    (hz : IsZipHeld s.heap z TI TO T f) (hT : s.heap.get? T = some oT) (hTI : IsTupOf2 s.heap TI (.ref i1) (.ref i2)) (st1 : St1 i s.heap) (st2 : St2 i s.heap) (hle1 : i ≤ n1) (hle2 : i ≤ n2) (hend : i = n1 ∨ i = n2)
    (hQ : ∀ h' tk, (∀ c o, c ≠ z → c ≠ i1 → c ≠ i2 → s.heap.get? c = some o → h'.get? c = some o) → Q none { s with heap := h', toks := tk }) : wpAny (model prog w) A (pyNext (.ref z)) Q E s := by
  have hTy : s.TypeIs (.ref z) "zip" := ⟨_, hz, rfl⟩
  unfold pyNext
  refine wpAny_bind (wpAny_attempt (wpAny_callSpecial?_slot (name := Str.ofString "__next__") hTy PySem.F.slot_zip_next
    (wpAny_call_entry PySem.F.slot_zip_next hTy PySem.F.entry_zip_next (held_end S D1 D2 hz hT hTI st1 st2 hle1 hle2 hend fun h' tk e hk he => ?_) (PySem.F.args_zip_next_1 _))))
  obtain ⟨o, ho, hc⟩ := he
  refine wpAny_bind (wpAny_isInstance (T := "StopIteration") (b := true) ⟨o, ho, hc⟩ isSubtype_stop ?_)
  exact wpAny_pure (hQ _ _ hk)
end
/-- how the zip stands behind i pairs; b: what was made since the walk began stands at b or above -/
def ZS (z TI TO i1 i2 : Addr) (St1 St2 : Nat → Heap → Prop) (b : Addr) (i : Nat) (h : Heap) : Prop :=
  IsTupOf2 h TI (.ref i1) (.ref i2) ∧ St1 i h ∧ St2 i h ∧ ((IsZip h z TI TO .none ∧ ∃ a1 a2, IsTupOf2 h TO a1 a2) ∨ ∃ T f oT, IsZipHeld h z TI TO T f ∧ h.get? T = some oT ∧ b ≤ T)
def Prs (P1 P2 : Nat → Value → Prop) (Ts : List Addr) (h : Heap) : Prop := ∀ (j : Nat) (T : Addr), Ts[j]? = some T → ∃ x y, P1 j x ∧ P2 j y ∧ IsTupOf2 h T x y
theorem geNe {b c T : Addr} (h1 : b ≤ T) (h2 : c < b) : T ≠ c := fun e => Nat.lt_irrefl c (Nat.lt_of_lt_of_le h2 (e ▸ h1))
abbrev lstO (xs : Array Value) (c : Nat) : Obj := { cls := .type "list", dict := none, data := .seq xs c, slots := #[] }
section
variable {prog : Program} {w : World} {A : Around} {R : Result → Shared → Prop} {z TI TO i1 i2 : Addr} {fp1 fp2 : List Addr} {n1 n2 : Nat} {P1 P2 : Nat → Value → Prop} {St1 St2 : Nat → Heap → Prop}
theorem zip_loop (S : ZipSep2 z TI TO i1 i2 fp1 fp2) (D1 : Draws prog w A.in1.in1 i1 fp1 n1 P1 St1) (D2 : Draws prog w A.in1.in1 i2 fp2 n2 P2 St2) (L : Addr) (res : Value) (b : Addr)
    (hb : z < b ∧ TI < b ∧ TO < b ∧ L < b) (hb1 : ∀ c ∈ fp1, c < b) (hb2 : ∀ c ∈ fp2, c < b) (hL : L ≠ z ∧ L ≠ TI ∧ L ≠ TO ∧ L ∉ fp1 ∧ L ∉ fp2) (hn : min n1 n2 ≤ sizeLine) :
    ∀ (k i : Nat) (s : Shared) (acc : Array Value) (c : Nat) (Ts : List Addr), min n1 n2 - i = k → i ≤ min n1 n2 → ZS z TI TO i1 i2 St1 St2 b i s.heap → s.heap.get? L = some (lstO acc c) → acc.toList = Ts.map Value.ref → Ts.length = i →
      (∀ T ∈ Ts, b ≤ T) → Prs P1 P2 Ts s.heap → b ≤ s.heap.objs.size → Ts.Nodup →
      (∀ h' tk acc' c' Ts', h'.get? L = some (lstO acc' c') → acc'.toList = Ts'.map Value.ref → Ts'.length = min n1 n2 → (∀ T ∈ Ts', b ≤ T) → Ts'.Nodup → Prs P1 P2 Ts' h' → (∀ d o, d < b → d ≠ L → d ≠ z → d ≠ TO → d ≠ i1 → d ≠ i2 → s.heap.get? d = some o → h'.get? d = some o) →
        R (.ok (.ret res)) { s with heap := h', toks := tk }) →
      codeAny (model prog w) A (.builtin "list.extend.loop" ⟨[.ref L, .ref z, res], []⟩) R s := by
  have i1b : i1 < b := hb1 _ S.mem1
  have i2b : i2 < b := hb2 _ S.mem2
  have Li1 : L ≠ i1 := fun e => hL.2.2.2.1 (e ▸ S.mem1)
  have Li2 : L ≠ i2 := fun e => hL.2.2.2.2 (e ▸ S.mem2)
  intro k
  induction k with
  | zero =>
    intro i s acc c Ts hk hi zs hLs hacc hlen hTb hP hsz hnd hR
    have hin : i = min n1 n2 := by omega
    refine codeAny_builtin PySem.F.entry_extend_loop ?_
    rw [Around.under_plainId PySem.F.plain_extend_loop _]
    show wpAny _ A.in1 (pyNext (.ref z) >>= _) _ _ s
    obtain ⟨hTI, t1, t2, hz⟩ := zs
    have hend : i = n1 ∨ i = n2 := by omega
    rcases hz with ⟨hz, a1, a2, hTO⟩ | ⟨T, f, oT, hz, hT, hTb'⟩
    · refine wpAny_bind (wpAny_pyNext_zipD2_end S D1 D2 hz hTI hTO t1 t2 (by omega) (by omega) hend fun h' tk hkp => ?_)
      refine wpAny_pure (hR h' tk acc c Ts (hkp _ _ hL.1 hL.2.2.1 Li1 Li2 hLs) hacc (by omega) hTb hnd (fun j T hj => ?_) fun d o hd d0 d1 d2 d3 d4 e => hkp _ _ d1 d2 d3 d4 e)
      obtain ⟨x, y, p1, p2, e⟩ := hP j T hj
      have := hTb T (List.mem_of_getElem? hj)
      exact ⟨x, y, p1, p2, hkp _ _ (geNe this hb.1) (geNe this hb.2.2.1) (geNe this i1b) (geNe this i2b) e⟩
    · refine wpAny_bind (pyNext_held_end S D1 D2 hz hT hTI t1 t2 (by omega) (by omega) hend fun h' tk hkp => ?_)
      refine wpAny_pure (hR h' tk acc c Ts (hkp _ _ hL.1 Li1 Li2 hLs) hacc (by omega) hTb hnd (fun j T hj => ?_) fun d o hd d0 d1 d2 d3 d4 e => hkp _ _ d1 d3 d4 e)
      obtain ⟨x, y, p1, p2, e⟩ := hP j T hj
      have := hTb T (List.mem_of_getElem? hj)
      exact ⟨x, y, p1, p2, hkp _ _ (geNe this hb.1) (geNe this i1b) (geNe this i2b) e⟩
  | succ k ih =>
    intro i s acc c Ts hk hi zs hLs hacc hlen hTb hP hsz hnd hR
    have hlt : i < min n1 n2 := by omega
    refine codeAny_builtin PySem.F.entry_extend_loop ?_
    rw [Around.under_plainId PySem.F.plain_extend_loop _]
    show wpAny _ A.in1 (pyNext (.ref z) >>= _) _ _ s
    obtain ⟨hTI, t1, t2, hz⟩ := zs
    have asz : acc.size = i := by rw [← Array.length_toList, hacc, List.length_map, hlen]
    -- behind the pair
    have go : ∀ x1 x2 h1 tk, P1 i x1 → P2 i x2 → (∃ T f oT, IsZipHeld h1 z TI TO T f ∧ h1.get? T = some oT ∧ b ≤ T) → St1 (i + 1) h1 → St2 (i + 1) h1 → IsTupOf2 h1 s.heap.objs.size x1 x2 → h1.objs.size = s.heap.objs.size + 1 →
        (∀ d o, d ≠ z → d ≠ TO → d ≠ i1 → d ≠ i2 → s.heap.get? d = some o → h1.get? d = some o) →
        wpAny (model prog w) A.in1 (updateSeq L (·.push (.ref s.heap.objs.size)) >>= fun _ => again (.builtin "list.extend.loop" ⟨[.ref L, .ref z, res], []⟩)) (fun fin s' => match fin with | .done f => R (.ok f) s' | .again c' => c'.quiet = true ∧ codeAny (model prog w) A c' R s') (fun e s' => R (.error e) s') { s with heap := h1, toks := tk } := by
      intro x1 x2 h1 tk hx1 hx2 ⟨T, f, oT, hz1, hT1, hTb1⟩ u1 u2 hpr hz4 hkp
      have hL1 := hkp _ _ hL.1 hL.2.2.1 Li1 Li2 hLs
      refine wpAny_bind (wpAny_updateSeq (s := { s with heap := h1, toks := tk }) hL1 rfl (wpAny_pure ⟨plainId_quiet PySem.F.plain_extend_loop _, ?_⟩) (by rw [asz]; omega) (by show (acc.push _).size ≤ sizeLine + 1; rw [Array.size_push, asz]; omega))
      have oth : ∀ d o, d ≠ L → h1.get? d = some o → (h1.update L (Obj.mapSeq (·.push (Value.ref s.heap.objs.size)))).get? d = some o := fun d o hd e => (Heap.get?_update_other _ _ (Ne.symm hd)).trans e
      have TL : T ≠ L := geNe hTb1 hb.2.2.2
      have big : ∀ {T : Addr}, b ≤ T → T ≠ L ∧ T ≠ z ∧ T ≠ TO ∧ T ≠ i1 ∧ T ≠ i2 := fun {T} h => ⟨geNe h hb.2.2.2, geNe h hb.1, geNe h hb.2.2.1, geNe h i1b, geNe h i2b⟩
      refine ih (i + 1) _ (acc.push (.ref s.heap.objs.size)) _ (Ts ++ [s.heap.objs.size]) (by omega) (by omega)
        ⟨oth _ _ hL.2.1.symm (hkp _ _ S.TIz S.TITO S.TIi1 S.TIi2 hTI), D1.frame _ _ _ u1 fun d hd o e => oth d o (fun q => hL.2.2.2.1 (q ▸ hd)) e, D2.frame _ _ _ u2 fun d hd o e => oth d o (fun q => hL.2.2.2.2 (q ▸ hd)) e, .inr ⟨T, f, oT, oth _ _ hL.1.symm hz1, oth _ _ TL hT1, hTb1⟩⟩
        (Heap.get?_update_self _ hL1 rfl) (by simp [hacc]) (by simp [hlen]) (fun T' hT' => ?_) (fun j T' hj => ?_) (by rw [Heap.size_update]; exact Nat.le_trans hsz (by rw [hz4]; exact Nat.le_succ _)) (by
          rw [List.nodup_append]
          refine ⟨hnd, by simp, fun a ha b' hb' e => ?_⟩
          have : b' = s.heap.objs.size := by simpa using hb'
          obtain ⟨j, hj⟩ := List.mem_iff_getElem?.mp ha
          obtain ⟨_, _, _, _, e1⟩ := hP j a hj
          exact Nat.ne_of_lt (Heap.lt_size e1) (e.trans this))
        fun h' tk' acc' c' Ts' q1 q2 q3 q4 q4n q5 q6 => hR h' tk' acc' c' Ts' q1 q2 q3 q4 q4n q5 fun d o hd d0 d1 d2 d3 d4 e => q6 d o hd d0 d1 d2 d3 d4 (oth d o d0 (hkp d o d1 d2 d3 d4 e))
      · rcases List.mem_append.mp hT' with h | h
        · exact hTb T' h
        · have : T' = s.heap.objs.size := by simpa using h
          rw [this]; exact hsz
      · by_cases hjl : j < Ts.length
        · rw [List.getElem?_append_left hjl] at hj
          obtain ⟨x, y, p1, p2, e⟩ := hP j T' hj
          obtain ⟨b1, b2, b3, b4, b5⟩ := big (hTb T' (List.mem_of_getElem? hj))
          exact ⟨x, y, p1, p2, oth _ _ b1 (hkp _ _ b2 b3 b4 b5 e)⟩
        · rw [List.getElem?_append_right (by omega)] at hj
          have j0 : j - Ts.length = 0 := by
            rcases Nat.eq_zero_or_pos (j - Ts.length) with h | h
            · exact h
            · rw [List.getElem?_eq_none (by simp; omega)] at hj; cases hj
          rw [j0] at hj
          have eT : T' = s.heap.objs.size := by simpa using hj.symm
          have ej : j = i := by omega
          subst eT ej
          exact ⟨x1, x2, hx1, hx2, oth _ _ (big hsz).1 hpr⟩
    rcases hz with ⟨hz, a1, a2, hTO⟩ | ⟨T, f, oT, hz, hT, hTb'⟩
    · refine wpAny_bind (wpAny_pyNext_zipD2_item S D1 D2 hz hTI hTO t1 t2 (by omega) (by omega) fun x1 x2 h1 tk q1 q2 q3 q4 q5 q6 q7 q8 q9 => ?_)
      exact go x1 x2 h1 tk q1 q2 ⟨_, false, _, q3, q7, hsz⟩ q5 q6 q7 q8 q9
    · refine wpAny_bind (pyNext_held_item S D1 D2 hz hT hTI t1 t2 (by omega) (by omega) fun x1 x2 h1 tk q1 q2 q3 q5 q6 q7 q8 q9 => ?_)
      have nT : ∀ c, c < b → T ≠ c := fun c hc => geNe hTb' hc
      exact go x1 x2 h1 tk q1 q2 ⟨T, true, _, q3, q9 _ _ (nT _ hb.1) (nT _ i1b) (nT _ i2b) hT, hTb'⟩ q5 q6 q7 q8 fun d o d1 d2 d3 d4 e => q9 d o d1 d3 d4 e
/-- list(zip) -/
theorem call_list_zip {E : Value → Shared → Prop} {s : Shared} {Q : Value → Shared → Prop} (S : ZipSep2 z TI TO i1 i2 fp1 fp2) (D1 : ∀ A' : Around, A'.handled = none → Draws prog w A' i1 fp1 n1 P1 St1) (D2 : ∀ A' : Around, A'.handled = none → Draws prog w A' i2 fp2 n2 P2 St2) (hh : A.handled = none)
    (hz : IsZip s.heap z TI TO .none) (hTI : IsTupOf2 s.heap TI (.ref i1) (.ref i2)) (hTO : ∃ a1 a2, IsTupOf2 s.heap TO a1 a2) (st1 : St1 0 s.heap) (st2 : St2 0 s.heap)
    (hb1 : ∀ c ∈ fp1, c < s.heap.objs.size) (hb2 : ∀ c ∈ fp2, c < s.heap.objs.size) (hn : min n1 n2 ≤ sizeLine)
    (hQ : ∀ h' tk acc c Ts, h'.get? s.heap.objs.size = some (lstO acc c) → acc.toList = Ts.map Value.ref → Ts.length = min n1 n2 → (∀ T ∈ Ts, s.heap.objs.size < T) → Ts.Nodup → Prs P1 P2 Ts h' →
      (∀ d o, d ≠ z → d ≠ TO → d ≠ i1 → d ≠ i2 → s.heap.get? d = some o → h'.get? d = some o) → Q (.ref s.heap.objs.size) { s with heap := h', toks := tk }) :
    wpAny (model prog w) A (call (.type "list") [.ref z]) Q E s := by
  have zl : z < s.heap.objs.size := Heap.lt_size hz
  have TIl : TI < s.heap.objs.size := Heap.lt_size hTI
  have TOl : TO < s.heap.objs.size := by obtain ⟨_, _, e⟩ := hTO; exact Heap.lt_size e
  have i1l := hb1 _ S.mem1
  have i2l := hb2 _ S.mem2
  refine callType_codes (Q₁ := fun obj s₁ => obj = .ref s.heap.objs.size ∧ s₁ = { s with heap := s.heap.push { cls := .type "list", data := .seq #[] } }) PySem.F.called_list (PySem.F.typeCall_list_1 _) PySem.F.entry_list_init
    (code_list_new _ ⟨rfl, rfl⟩) fun obj s₁ h₁ => ?_
  obtain ⟨rfl, rfl⟩ := h₁
  have hS : (s.heap.push { cls := .type "list", data := .seq #[] }).get? s.heap.objs.size = some { cls := .type "list", data := .seq #[] } := Heap.get?_push_size _ rfl
  have hzs : (s.heap.push { cls := .type "list", data := .seq #[] }).objs.size = s.heap.objs.size + 1 := Heap.size_push ..
  refine ⟨⟨_, hS, rfl⟩, PySem.F.args_list_init_2 _ _, ?_⟩
  have Sz : (s.heap.objs.size : Addr) ≠ z := Nat.ne_of_gt zl
  show wpAny _ A.in1.in1 (do let old ← Builtin.List.listItems (.ref s.heap.objs.size); Builtin.List.listUpdate (.ref s.heap.objs.size) (fun _ => #[]); letGo old.toList.reverse; Builtin.List.listExtendWith (.ref s.heap.objs.size) (.ref z) .none) _ _ _
  refine wpAny_bind ?_
  unfold Builtin.List.listItems
  refine wpAny_bind (wpAny_seqItems hS rfl (wpAny_pure ?_))
  show wpAny _ A.in1.in1 (updateSeq s.heap.objs.size (fun _ => #[]) >>= fun _ => letGo (#[] : Array Value).toList.reverse >>= fun _ => Builtin.List.listExtendWith (.ref s.heap.objs.size) (.ref z) .none) _ _ _
  refine wpAny_bind (wpAny_updateSeq hS rfl ?_)
  have hS₂ := Heap.get?_update_self (Obj.mapSeq (fun _ => (#[] : Array Value))) hS rfl
  generalize hg2 : (s.heap.push { cls := .type "list", data := .seq #[] }).update s.heap.objs.size (Obj.mapSeq (fun _ => (#[] : Array Value))) = g2 at hS₂
  have oth : ∀ d o, d ≠ s.heap.objs.size → s.heap.get? d = some o → g2.get? d = some o := fun d o hd e => by
    rw [← hg2]; exact (Heap.get?_update_other _ _ (Ne.symm hd)).trans (Heap.get?_push_of_some _ e)
  have g2s : g2.objs.size = s.heap.objs.size + 1 := by rw [← hg2, Heap.size_update, hzs]
  refine wpAny_bind (wpAny_letGo ?_)
  show wpAny _ A.in1.in1 (Builtin.List.listExtendWith (.ref s.heap.objs.size) (.ref z) .none) _ _ { s with heap := g2 }
  have hz2 : IsZip g2 z TI TO .none := oth _ _ (Ne.symm Sz) hz
  have hTy : ({ s with heap := g2 } : Shared).TypeIs (.ref z) "zip" := ⟨_, hz2, rfl⟩
  unfold Builtin.List.listExtendWith
  refine wpAny_bind (wpAny_typeOf hTy ?_)
  have h1 : Builtin.List.listSameRef (.ref s.heap.objs.size) (.ref z) = false := by simp [Builtin.List.listSameRef, Sz]
  have h2 : (Value.type "zip" == Value.type "list") = false := by decide
  have h3 : (Value.type "zip" == Value.type "tuple") = false := by decide
  simp only [h1, h2, h3, Bool.or_false, Bool.false_eq_true, if_false]
  refine wpAny_bind (wpAny_pyIter_zip (s := { s with heap := g2 }) hz2 ?_)
  refine wpAny_bind (wpAny_holding ?_)
  unfold Builtin.List.listLengthHint
  refine wpAny_bind (wpAny_specialOf hTy nolen_zip ?_)
  show wpAny _ A.in1.in1 (specialOf (Value.ref z) (Str.ofString "__length_hint__") >>= _) _ _ _
  refine wpAny_bind (wpAny_specialOf hTy nohint_zip ?_)
  refine wpAny_pure ?_
  show wpAny _ A.in1.in1 (rule "list.extend.makes-room" >>= fun _ => Builtin.List.listTouch (.ref s.heap.objs.size) >>= fun _ =>
    again (.builtin "list.extend.loop" ⟨[.ref s.heap.objs.size, .ref z, .none], []⟩)) _ _ _
  refine wpAny_bind (wpAny_rule ?_)
  refine wpAny_bind ?_
  show wpAny _ A.in1.in1 (updateSeq s.heap.objs.size (·.push .none) >>= fun _ => updateSeq s.heap.objs.size (·.pop)) _ _ { s with heap := g2 }
  refine wpAny_bind (wpAny_updateSeq (s := { s with heap := g2 }) hS₂ rfl ?_)
  have hS₃ := Heap.get?_update_self (Obj.mapSeq (·.push Value.none)) hS₂ rfl
  refine wpAny_updateSeq (hz := by seq_fits) hS₃ rfl ?_
  have hS₄ := Heap.get?_update_self (Obj.mapSeq (·.pop)) hS₃ rfl
  generalize hg3 : (g2.update s.heap.objs.size (Obj.mapSeq (·.push Value.none))).update s.heap.objs.size (Obj.mapSeq (·.pop)) = g3 at hS₄
  have oth3 : ∀ d o, d ≠ s.heap.objs.size → s.heap.get? d = some o → g3.get? d = some o := fun d o hd e => by
    rw [← hg3]; exact (Heap.get?_update_other _ _ (Ne.symm hd)).trans ((Heap.get?_update_other _ _ (Ne.symm hd)).trans (oth d o hd e))
  have g3s : g3.objs.size = s.heap.objs.size + 1 := by rw [← hg3, Heap.size_update, Heap.size_update, g2s]
  have lt_ne : ∀ {d : Addr}, d < s.heap.objs.size → d ≠ s.heap.objs.size := fun h => Nat.ne_of_lt h
  have f1 : ∀ c ∈ fp1, ∀ o, s.heap.get? c = some o → g3.get? c = some o := fun c hc o e => oth3 c o (lt_ne (hb1 c hc)) e
  have f2 : ∀ c ∈ fp2, ∀ o, s.heap.get? c = some o → g3.get? c = some o := fun c hc o e => oth3 c o (lt_ne (hb2 c hc)) e
  refine wpAny_pure ⟨plainId_quiet PySem.F.plain_extend_loop _, zip_loop (A := A.in1) S (D1 _ hh) (D2 _ hh) s.heap.objs.size .none (s.heap.objs.size + 1)
    ⟨Nat.lt_succ_of_lt zl, Nat.lt_succ_of_lt TIl, Nat.lt_succ_of_lt TOl, Nat.lt_succ_self _⟩ (fun c hc => Nat.lt_succ_of_lt (hb1 c hc)) (fun c hc => Nat.lt_succ_of_lt (hb2 c hc))
    ⟨Sz, Nat.ne_of_gt TIl, Nat.ne_of_gt TOl, fun h => Nat.lt_irrefl _ (hb1 _ h), fun h => Nat.lt_irrefl _ (hb2 _ h)⟩ hn _ 0 { s with heap := g3 } #[] _ [] rfl (Nat.zero_le _)
    ⟨oth3 _ _ (lt_ne TIl) hTI, (D1 A hh).frame _ _ _ st1 f1, (D2 A hh).frame _ _ _ st2 f2, .inl ⟨oth3 _ _ (lt_ne zl) hz, by obtain ⟨a1, a2, e⟩ := hTO; exact ⟨a1, a2, oth3 _ _ (lt_ne TOl) e⟩⟩⟩
    hS₄ rfl rfl (fun T h => by simp at h) (fun j T h => by simp at h) (by show _ ≤ g3.objs.size; omega) (by simp) fun h' tk acc c Ts q1 q2 q3 q4 q4n q5 q6 => ?_⟩
  exact ⟨rfl, hQ h' tk acc c Ts q1 q2 q3 (fun T hT => q4 T hT) q4n q5 fun d o d1 d2 d3 d4 e => q6 d o (Nat.lt_succ_of_lt (Heap.lt_size e)) (lt_ne (Heap.lt_size e)) d1 d2 d3 d4 (oth3 d o (lt_ne (Heap.lt_size e)) e)⟩
end
end Sw.LZ

/-! Rules9: list(zip(x, y)), backwards, sorted. -/
set_option Elab.async false
set_option linter.all false
set_option maxRecDepth 100000
set_option maxHeartbeats 4000000
namespace Sw
open PySem PySem.Spec PyProof.Rows L2
variable [LamT]
/-- many things are laid at once -/
theorem inv_many {X : Cx} {pins : List (Addr × Obj)} {σ : L2.St} {H H' : Hp} {s : Shared} {h' : Heap} {tk : Nat} (I : Inv X pins σ H s) (hk : ∀ b o, s.heap.get? b = some o → h'.get? b = some o) (kp : ∀ b u, H b = some u → H' b = some u)
    (low : ∀ b, b < s.heap.objs.size → H' b = H b) (new : ∀ b u, H b = none → H' b = some u → ObjOk X.prog X.w H' h' b u) : Inv X pins σ H' { s with heap := h', toks := tk } := by
  refine I.call' (ch := []) rfl ⟨fun b o q _ _ _ => hk b o q, fun b o q _ _ _ => ⟨o.slots, hk b o q⟩, fun b o q n _ => ?_, fun b o q _ => ⟨o, hk b o q⟩, fun b xs q => kp b _ q, fun b o u q => kp b _ q, fun b ps q => ⟨#[], by rw [kp b _ q]; simp⟩⟩ (fun b u q => ?_) I.bare fun b z => by simp at z
  · rw [low b (Heap.lt_size q)]; exact n
  · cases hb : H b with
    | none => exact new b u hb q
    | some v =>
      have := kp b v hb
      rw [q] at this
      cases this
      exact (I.hok b u hb).stay (fun d v _ y => hk d v y) (fun d y => kp d _ y) fun d xs y => kp d _ y
/-- the heap with a list of pairs -/
def zipH (H : Hp) (L : Addr) (Ts : List Addr) (xs ys : List V) (us ws : List Value) : Hp := fun b => if b = L then some (.lst (Ts.map V.ref)) else if b ∈ Ts then (((xs.zip ys).zip (us.zip ws))[Ts.idxOf b]?).map fun p => HO.frz { cls := .type "tuple", data := .seq #[p.2.1, p.2.2] } (.tup [p.1.1, p.1.2]) else H b
theorem idxOf_nodup {l : List Addr} (nd : l.Nodup) {j : Nat} {a : Addr} (h : l[j]? = some a) : l.idxOf a = j := nodupIx nd (idx_get (List.mem_of_getElem? h)) h
def rListZip (K : Frag) : List V → Hp → VK → Prop := fun vs H Q => ∃ (a b : Addr) (xs ys : List V), vs = [.ref a, .ref b] ∧ ((SqL K H a xs ∧ SqL K H b ys) ∨ (SqT K H a xs ∧ SqT K H b ys)) ∧
  ∀ (L : Addr) (Ts : List Addr) (us ws : List Value), us.length = xs.length → ws.length = ys.length → H L = none → (∀ T ∈ Ts, H T = none) → L ∉ Ts → Ts.Nodup → Ts.length = min xs.length ys.length → Q (.ref L) (zipH H L Ts xs ys us ws)
theorem paired_back {α β : Type} {F : α → β → Prop} : ∀ {xs : List α} {us : List β} {i : Nat} {u : β}, Paired F xs us → us[i]? = some u → ∃ x, xs[i]? = some x ∧ F x u
  | _, _, _, _, .nil, e => by simp at e
  | _, _, 0, _, .cons r _, e => by simp at e; subst e; exact ⟨_, rfl, r⟩
  | _, _, i + 1, u, .cons _ t, e => by
    obtain ⟨x, h1, h2⟩ := paired_back (i := i) (u := u) t (by simpa using e)
    exact ⟨x, by simpa using h1, h2⟩
theorem vals_ref_map : ∀ as : List Addr, Vals (as.map V.ref) (as.map Value.ref)
  | [] => .nil
  | _ :: as => .cons rfl (vals_ref_map as)
section
variable {X : Cx} {a b c o : Expr} {ca cb cc : Ex} {ta : TA} {pos p p2 q : Pos}
theorem zip_laid {pins : List (Addr × Obj)} {σ : L2.St} {H : Hp} {s : Shared} {h' : Heap} {tk c : Nat} {L : Addr} {Ts : List Addr} {xs ys : List V} {us ws : List Value} {acc : Array Value} (I : Inv X pins σ H s) (rx : Vals xs us) (ry : Vals ys ws) (hx : xs.length ≤ sizeLine)
    (hk : ∀ b o, s.heap.get? b = some o → h'.get? b = some o) (hL : s.heap.objs.size ≤ L) (hT : ∀ T ∈ Ts, L < T) (nd : Ts.Nodup) (hl : Ts.length = min xs.length ys.length) (hS : h'.get? L = some (LZ.lstO acc c)) (hacc : acc.toList = Ts.map Value.ref)
    (hP : LZ.Prs (fun i v => us.toArray[i]? = some v) (fun i v => ws.toArray[i]? = some v) Ts h') : Inv X pins σ (zipH H L Ts xs ys us ws) { s with heap := h', toks := tk } := by
  have hTs : ∀ T ∈ Ts, s.heap.objs.size ≤ T := fun T h => Nat.le_trans hL (Nat.le_of_lt (hT T h))
  refine inv_many I hk (fun b u e => ?_) (fun b hb => ?_) (fun b u e0 e => ?_)
  · have h1 : b ≠ L := fun z => by rw [z, I.hok.fresh hL] at e; cases e
    have h2 : b ∉ Ts := fun z => by rw [I.hok.fresh (hTs b z)] at e; cases e
    unfold zipH
    rw [if_neg h1, if_neg h2]; exact e
  · have h1 : b ≠ L := fun z => Nat.lt_irrefl _ (Nat.lt_of_lt_of_le (z ▸ hb) hL)
    have h2 : b ∉ Ts := fun z => Nat.lt_irrefl _ (Nat.lt_of_lt_of_le hb (hTs b z))
    unfold zipH
    rw [if_neg h1, if_neg h2]
  · unfold zipH at e
    by_cases h1 : b = L
    · rw [if_pos h1] at e
      cases e
      rw [h1]
      refine ⟨by rw [List.length_map, hl]; exact Nat.le_trans (Nat.min_le_left _ _) hx, acc.toList, c, by rw [hacc]; exact vals_ref_map Ts, ?_⟩
      rw [Array.toArray_toList]
      exact hS
    · rw [if_neg h1] at e
      by_cases h2 : b ∈ Ts
      · rw [if_pos h2] at e
        have hj := idx_get h2
        obtain ⟨u1, u2, p1, p2, e3⟩ := hP _ _ hj
        obtain ⟨x, hx1, r1⟩ := paired_back rx (by simpa using p1)
        obtain ⟨y, hy1, r2⟩ := paired_back ry (by simpa using p2)
        have hz : ((xs.zip ys).zip (us.zip ws))[Ts.idxOf b]? = some ((x, y), (u1, u2)) := by
          rw [List.getElem?_zip_eq_some]
          refine ⟨?_, ?_⟩
          · rw [List.getElem?_zip_eq_some]; exact ⟨hx1, hy1⟩
          · rw [List.getElem?_zip_eq_some]; exact ⟨by simpa using p1, by simpa using p2⟩
        rw [hz] at e
        cases e
        exact ⟨e3, by show 2 ≤ sizeLine; decide, [u1, u2], .cons r1 (.cons r2 .nil), ⟨_, e3, rfl, _, rfl⟩⟩
      · rw [if_neg h2, e0] at e
        cases e
theorem pe_listzip (hc : X.calm = true) (hg : Gl X "list") (hm : X.mg "list" = none) (hg2 : Gl X "zip") (hm2 : X.mg "zip" = none) (ha : PA X [a, b] ta)
    (hs : starEach [a, b] X.env = (false, eval a X.env) :: starEach [b] X.env := by rfl) (hpl : (backTo q (starEach [b] X.env)).any (·.1) = false := by rfl)
    (hs2 : starEach [.Call (.Name "zip" p2) [a, b] [] q] X.env = (false, eval (.Call (.Name "zip" p2) [a, b] [] q) X.env) :: starEach [] X.env := by rfl) :
    PE X (.Call (.Name "list" p) [.Call (.Name "zip" p2) [a, b] [] q] [] pos) (fun σ H Q => ta σ H fun vs H1 => rListZip X.K vs H1 Q) := by
  refine ⟨fun pins s σ H Q I h => ?_⟩
  refine Call_ (ld_blt I hg hm PyProof.Rows.boot_list ?_)
  refine PyProof.Rows.callWith_type1 (PyProof.Rows.args_cons ?_ hs2) hs2 rfl
  refine Call_ (ld_blt I hg2 hm2 PyProof.Rows.boot_zip (PyProof.Rows.callWith_type1 (thn (ha.run q pins s σ H _ I h) fun us s1 ⟨vs, H1, I1, r1, q1⟩ => ?_) hs hpl))
  obtain ⟨a, b, xs, ys, ex, alt, q1⟩ := q1
  subst ex
  have hh := I1.ok.hd hc
  cases r1 with
  | cons r rr =>
    cases rr with
    | cons r' rr =>
      cases rr
      cases r
      cases r'
      have nz : s1.heap.objs.size + 4 ∉ [s1.heap.objs.size] := by simp
      rcases alt with ⟨ha1, hb1⟩ | ⟨ha1, hb1⟩
      · obtain ⟨its, rv, p1, hz1⟩ := I1.list ha1
        obtain ⟨its2, rv2, p2, hz2⟩ := I1.list hb1
        have l1 : a < s1.heap.objs.size := p1.lt
        have l2 : b < s1.heap.objs.size := p2.lt
        refine call_zip_2 p1.isList p2.isList fun h' hz hTI hTO h1 h2 hsz hk => PyProof.Rows.args_nil ?_
        have S := zip_sep2 (N := s1.heap.objs.size) (fp1 := [a]) (fp2 := [b]) (fun c hc => (List.mem_singleton.mp hc).symm ▸ l1) (fun c hc => (List.mem_singleton.mp hc).symm ▸ l2)
        refine LZ.call_list_zip (s := { s1 with heap := h' }) S (fun A' hA' => Draws.list hA' _ a (Nat.ne_of_lt l1) its.toArray) (fun A' hA' => Draws.list hA' _ b (Nat.ne_of_lt (Nat.lt_succ_of_lt l2)) its2.toArray) hh hz hTI ⟨_, _, hTO⟩ ⟨h1, p1.isList.at fun o e => hk _ o e⟩ ⟨h2, p2.isList.at fun o e => hk _ o e⟩
          (fun c hc => ?_) (fun c hc => ?_) ?_ fun h2' tk acc c Ts e1 e2 e3 e4 e5 e6 e7 => ?_
        · show c < h'.objs.size
          rw [hsz]
          rcases List.mem_cons.mp hc with z | z
          · rw [z]; exact Nat.lt_add_of_pos_right (by decide)
          · have : c = a := by simpa using z
            rw [this]; exact Nat.lt_of_lt_of_le l1 (Nat.le_add_right _ _)
        · show c < h'.objs.size
          rw [hsz]
          rcases List.mem_cons.mp hc with z | z
          · rw [z]; exact Nat.add_lt_add_left (by decide) _
          · have : c = b := by simpa using z
            rw [this]; exact Nat.lt_of_lt_of_le l2 (Nat.le_add_right _ _)
        · rw [List.size_toArray, ← rv.length]; exact Nat.le_trans (Nat.min_le_left _ _) hz1
        · have hk2 : ∀ d o, s1.heap.get? d = some o → h2'.get? d = some o := fun d o e => by
            have hd := Heap.lt_size e
            exact e7 d o (Nat.ne_of_lt (Nat.lt_of_lt_of_le hd (Nat.le_add_right _ _))) (Nat.ne_of_lt (Nat.lt_of_lt_of_le hd (Nat.le_add_right _ _))) (Nat.ne_of_lt hd) (Nat.ne_of_lt (Nat.lt_succ_of_lt hd)) (hk d o e)
          have hL : s1.heap.objs.size ≤ h'.objs.size := by rw [hsz]; exact Nat.le_add_right _ _
          have hlen : Ts.length = min xs.length ys.length := by rw [e3, List.size_toArray, List.size_toArray, ← rv.length, ← rv2.length]
          exact ⟨.ref h'.objs.size, _, zip_laid (s := s1) I1 rv rv2 hz1 hk2 hL e4 e5 hlen e1 e2 e6, rfl, q1 _ Ts _ _ rv.length.symm rv2.length.symm (I1.hok.fresh hL) (fun T hT => I1.hok.fresh (Nat.le_trans hL (Nat.le_of_lt (e4 T hT)))) (fun hT => Nat.lt_irrefl _ (e4 _ hT)) e5 hlen⟩
      · obtain ⟨its, rv, p1, hz1⟩ := I1.tuple ha1
        obtain ⟨its2, rv2, p2, hz2⟩ := I1.tuple hb1
        obtain ⟨o1, ho1, _⟩ := id p1
        obtain ⟨o2, ho2, _⟩ := id p2
        have l1 : a < s1.heap.objs.size := Heap.lt_size ho1
        have l2 : b < s1.heap.objs.size := Heap.lt_size ho2
        refine RZ.call_zipT (show s1.heap.IsTuple a its.toArray from p1) (show s1.heap.IsTuple b its2.toArray from p2) fun h' hz hTI hTO h1 h2 hsz hk => PyProof.Rows.args_nil ?_
        have S := zip_sep2 (N := s1.heap.objs.size) (fp1 := [a]) (fp2 := [b]) (fun c hc => (List.mem_singleton.mp hc).symm ▸ l1) (fun c hc => (List.mem_singleton.mp hc).symm ▸ l2)
        refine LZ.call_list_zip (s := { s1 with heap := h' }) S (fun A' hA' => Draws.tuple hA' _ a (Nat.ne_of_lt l1) its.toArray) (fun A' hA' => Draws.tuple hA' _ b (Nat.ne_of_lt (Nat.lt_succ_of_lt l2)) its2.toArray) hh hz hTI ⟨_, _, hTO⟩
          ⟨h1, (show s1.heap.IsTuple a its.toArray from p1).at fun o e => hk _ o e⟩ ⟨h2, (show s1.heap.IsTuple b its2.toArray from p2).at fun o e => hk _ o e⟩
          (fun c hc => ?_) (fun c hc => ?_) ?_ fun h2' tk acc c Ts e1 e2 e3 e4 e5 e6 e7 => ?_
        · show c < h'.objs.size
          rw [hsz]
          rcases List.mem_cons.mp hc with z | z
          · rw [z]; exact Nat.lt_add_of_pos_right (by decide)
          · have : c = a := by simpa using z
            rw [this]; exact Nat.lt_of_lt_of_le l1 (Nat.le_add_right _ _)
        · show c < h'.objs.size
          rw [hsz]
          rcases List.mem_cons.mp hc with z | z
          · rw [z]; exact Nat.add_lt_add_left (by decide) _
          · have : c = b := by simpa using z
            rw [this]; exact Nat.lt_of_lt_of_le l2 (Nat.le_add_right _ _)
        · rw [List.size_toArray, ← rv.length]; exact Nat.le_trans (Nat.min_le_left _ _) hz1
        · have hk2 : ∀ d o, s1.heap.get? d = some o → h2'.get? d = some o := fun d o e => by
            have hd := Heap.lt_size e
            exact e7 d o (Nat.ne_of_lt (Nat.lt_of_lt_of_le hd (Nat.le_add_right _ _))) (Nat.ne_of_lt (Nat.lt_of_lt_of_le hd (Nat.le_add_right _ _))) (Nat.ne_of_lt hd) (Nat.ne_of_lt (Nat.lt_succ_of_lt hd)) (hk d o e)
          have hL : s1.heap.objs.size ≤ h'.objs.size := by rw [hsz]; exact Nat.le_add_right _ _
          have hlen : Ts.length = min xs.length ys.length := by rw [e3, List.size_toArray, List.size_toArray, ← rv.length, ← rv2.length]
          exact ⟨.ref h'.objs.size, _, zip_laid (s := s1) I1 rv rv2 hz1 hk2 hL e4 e5 hlen e1 e2 e6, rfl, q1 _ Ts _ _ rv.length.symm rv2.length.symm (I1.hok.fresh hL) (fun T hT => I1.hok.fresh (Nat.le_trans hL (Nat.le_of_lt (e4 T hT)))) (fun hT => Nat.lt_irrefl _ (e4 _ hT)) e5 hlen⟩
end
end Sw

/-! Rules10: list(zip), backwards, sorted, dict comprehensions. -/
set_option Elab.async false
set_option linter.all false
set_option maxRecDepth 100000
set_option maxHeartbeats 4000000
namespace Sw
open PySem PySem.Spec PyProof.Rows L2
variable [LamT]
/-! ### more of the state -/
section
variable {K : Frag} {mg : Str → Option Value} {B B' : Addr → Prop} {φ φ' : List Addr} {H H' : Hp} {st st' : Store}
theorem RS.more (rs : RS K mg B φ H st) (kp : ∀ b u, H b = some u → H' b = some u) : RS K mg B φ H' st ∧ Go φ B H φ B H' := by
  have g : Go φ B H φ B H' := ⟨rs.sub, fun a o e _ _ => kp a o e, List.prefix_refl _, fun _ h => h, fun _ h => .inl h, fun _ h => .inl h, fun a o u e => kp a _ e⟩
  refine ⟨⟨rs.len, rs.nd, rs.sub, fun a ha => let ⟨o, h, nt⟩ := rs.sd a ha; ⟨o, kp a o h, nt⟩, fun n c e => ?_, rs.tabsOn fun a o e _ => kp a o e⟩, g⟩
  · obtain ⟨a, e1, rc⟩ := rs.at_ n c e
    obtain ⟨o, ho, _⟩ := rc.mut
    exact ⟨a, e1, rc.on (RD.go rs g) (RDs.go rs g) ((kp a o ho).trans ho.symm)⟩
theorem RDs.ofGet : ∀ {vs : List V} {ds : List D}, vs.length = ds.length → (∀ (j : Nat) (v : V) (d : D), vs[j]? = some v → ds[j]? = some d → RD K B φ H v d) → RDs K B φ H vs ds
  | [], [], _, _ => .nil
  | [], _ :: _, h, _ => by cases h
  | _ :: _, [], h, _ => by cases h
  | v :: vs, d :: ds, h, f => .cons (f 0 v d rfl rfl) (RDs.ofGet (by simpa using h) fun j v' d' h1 h2 => f (j + 1) v' d' (by simpa using h1) (by simpa using h2))
theorem zip_fin (rs : RS K mg B φ H st) {xs ys : List D} {vs ws : List V} {L : Addr} {Ts : List Addr} {Q : VK} (rx : RDs K B φ H vs xs) (ry : RDs K B φ H ws ys) (hL : H L = none) (hT : ∀ T ∈ Ts, H T = none) (nL : L ∉ Ts) (nd : Ts.Nodup) (hl : Ts.length = min vs.length ws.length) {us us2 : List Value} (hu1 : us.length = vs.length) (hu2 : us2.length = ws.length)
    (fin : ∀ v B' φ' H', Go φ B H φ' B' H' → RS K mg B' φ' H' st → RD K B' φ' H' v (.lst (zipL xs ys)) → Q v H') : Q (.ref L) (zipH H L Ts vs ws us us2) := by
  have kp : ∀ b u, H b = some u → zipH H L Ts vs ws us us2 b = some u := fun b u e => by
    unfold zipH
    rw [if_neg (fun z => by rw [z, hL] at e; cases e), if_neg (fun z => by rw [hT b z] at e; cases e)]; exact e
  obtain ⟨rs', g⟩ := rs.more kp
  have eL : zipH H L Ts vs ws us us2 L = some (.lst (Ts.map V.ref)) := by unfold zipH; rw [if_pos rfl]
  refine fin _ B φ _ g rs' (.lst eL (fun hb => rs.there L hb hL) (RDs.ofGet ?_ fun j v d h1 h2 => ?_))
  · rw [List.length_map, zipL_len, hl, rx.length, ry.length]
  · rw [List.getElem?_map] at h1
    cases hj : Ts[j]? with
    | none => rw [hj] at h1; cases h1
    | some T =>
      rw [hj] at h1
      cases h1
      obtain ⟨x, y, hx, hy, rfl⟩ := zipL_get h2
      obtain ⟨v, hv, rv⟩ := rx.get hx
      obtain ⟨w, hw, rw_⟩ := ry.get hy
      have hj1 : j < us.length := by rw [hu1]; exact (List.getElem?_eq_some_iff.mp hv).1
      have hj2 : j < us2.length := by rw [hu2]; exact (List.getElem?_eq_some_iff.mp hw).1
      have eT : zipH H L Ts vs ws us us2 T = some (.frz { cls := .type "tuple", data := .seq #[us[j], us2[j]] } (.tup [v, w])) := by
        unfold zipH
        rw [if_neg (fun z : T = L => nL (z ▸ List.mem_of_getElem? hj)), if_pos (List.mem_of_getElem? hj), idxOf_nodup nd hj]
        have hz : ((vs.zip ws).zip (us.zip us2))[j]? = some ((v, w), (us[j], us2[j])) := by
          rw [List.getElem?_zip_eq_some]
          refine ⟨?_, ?_⟩
          · rw [List.getElem?_zip_eq_some]; exact ⟨hv, hw⟩
          · rw [List.getElem?_zip_eq_some]; exact ⟨List.getElem?_eq_getElem hj1, List.getElem?_eq_getElem hj2⟩
        rw [hz]; rfl
      exact .tup (.inl ⟨_, eT, rfl, rfl⟩) (.cons (RD.go rs g rv) (.cons (RD.go rs g rw_) .nil))
end
section
variable {X : Cx} {a b c o : Expr} {ca cb cc : Ex} {ta : TA} {pos p p2 p3 q : Pos} {es : List Expr} {cs : Ax}
theorem re_listzip (hc : X.calm = true) (hg : Gl X "list") (hm : X.mg "list" = none) (hg2 : Gl X "zip") (hm2 : X.mg "zip" = none) (ha : RE X a ca) (hb : RE X b cb)
    (hs : starEach [a, b] X.env = (false, eval a X.env) :: starEach [b] X.env := by rfl) (hsb : starEach [b] X.env = (false, eval b X.env) :: starEach [] X.env := by rfl) (hpl : (backTo q (starEach [b] X.env)).any (·.1) = false := by rfl)
    (hs2 : starEach [.Call (.Name "zip" p2) [a, b] [] q] X.env = (false, eval (.Call (.Name "zip" p2) [a, b] [] q) X.env) :: starEach [] X.env := by rfl) :
    RE X (.Call (.Name "list" p) [.Call (.Name "zip" p2) [a, b] [] q] [] pos) (op2 vZipL ca cb) := fun W tk =>
  (pe_listzip hc hg hm hg2 hm2 (pa_cons (ha W tk) (pa_cons (hb W tk) pa_nil hsb) hs) hs hpl hs2).imp fun σ H Q h => (Tr.bind h).mono fun x H1 h1 => (TrK.bind mono_d h1).mono fun y H2 h2 => by
    obtain ⟨B, φ, st, d, e, z, rs, r1, r2, hz, fin⟩ := h2.v2
    unfold vZipL at hz
    have lists : (lstOf st d).bind (fun xs => (lstOf st e).map fun ys => D.lst (zipL xs ys)) = some z → rListZip X.K [x, y] H2 Q := fun hz => by
      cases hx : lstOf st d with
      | none => rw [hx] at hz; cases hz
      | some xs =>
        rw [hx, Option.bind_some] at hz
        cases hy : lstOf st e with
        | none => rw [hy] at hz; cases hz
        | some ys =>
          rw [hy] at hz
          cases hz
          obtain ⟨p, vs, rfl, q1, s1⟩ := lst_cases rs r1 hx
          obtain ⟨p', ws, rfl, q2, s2⟩ := lst_cases rs r2 hy
          exact ⟨p, p', vs, ws, rfl, .inl ⟨SqL.of s1, SqL.of s2⟩, fun L Ts us us2 u1 u2 e1 e2 e3 e4 e5 => zip_fin rs q1 q2 e1 e2 e3 e4 e5 u1 u2 fin⟩
    split at hz
    · cases hz
      cases r1 with | tup s1 q1 =>
      cases r2 with | tup s2 q2 =>
      exact ⟨_, _, _, _, rfl, .inr ⟨s1.t, s2.t⟩, fun L Ts us us2 u1 u2 e1 e2 e3 e4 e5 => zip_fin rs q1 q2 e1 e2 e3 e4 e5 u1 u2 fin⟩
    · exact lists hz
/-! ### sorted -/
theorem leS_iff (x y : Str) : leS x y = true ↔ x.cps.toList ≤ y.cps.toList := by
  unfold leS
  rw [ltCps_eq]
  simp
theorem leS_trans {x y z : Str} (h : leS x y = true) (h' : leS y z = true) : leS x z = true := by
  rw [leS_iff] at *
  exact List.le_trans h h'
theorem leS_total (x y : Str) : leS x y = true ∨ leS y x = true := by
  rw [leS_iff, leS_iff]
  exact List.le_total _ _
theorem str_ext {x y : Str} (h : x.cps.toList = y.cps.toList) : x = y := by
  obtain ⟨a⟩ := x
  obtain ⟨b⟩ := y
  exact congrArg Str.mk (Array.toList_inj.mp h)
theorem leS_anti {x y : Str} (h : leS x y = true) (h' : leS y x = true) : x = y := by
  rw [leS_iff] at *
  exact str_ext (List.le_antisymm h h')
theorem insS_perm (i : Str) : ∀ l : List Str, (insS i l).Perm (i :: l)
  | [] => .refl _
  | j :: r => by
    unfold insS
    split
    · exact .refl _
    · exact ((insS_perm i r).cons j).trans (.swap i j r)
theorem sortS_perm : ∀ l : List Str, (sortS l).Perm l
  | [] => .refl _
  | i :: r => (insS_perm i _).trans ((sortS_perm r).cons i)
theorem insS_sorted (i : Str) : ∀ {l : List Str}, l.Pairwise (fun a b => leS a b = true) → (insS i l).Pairwise (fun a b => leS a b = true)
  | [], _ => by simp [insS]
  | j :: r, h => by
    obtain ⟨h1, h2⟩ := List.pairwise_cons.mp h
    unfold insS
    split
    · rename_i hij
      exact List.pairwise_cons.mpr ⟨fun y hy => by
        rcases List.mem_cons.mp hy with e | e
        · rw [e]; exact hij
        · exact leS_trans hij (h1 y e), h⟩
    · rename_i hij
      refine List.pairwise_cons.mpr ⟨fun y hy => ?_, insS_sorted i h2⟩
      rcases List.mem_cons.mp ((insS_perm i r).mem_iff.mp hy) with e | e
      · rw [e]; exact (leS_total i j).resolve_left hij
      · exact h1 y e
theorem sortS_sorted : ∀ l : List Str, (sortS l).Pairwise (fun a b => leS a b = true)
  | [] => .nil
  | i :: r => insS_sorted i (sortS_sorted r)
theorem rising_pair : ∀ {l : List Str} {x : Str}, risingS x l = true → (x :: l).Pairwise (fun a b => leS a b = true)
  | [], x, _ => by simp
  | y :: r, x, h => by
    unfold risingS at h
    rw [Bool.and_eq_true] at h
    have ih := rising_pair h.2
    have hxy : leS x y = true := h.1
    refine List.pairwise_cons.mpr ⟨fun z hz => ?_, ih⟩
    rcases List.mem_cons.mp hz with e | e
    · rw [e]; exact hxy
    · exact leS_trans hxy ((List.pairwise_cons.mp ih).1 z e)
theorem sortedS_pair {l : List Str} (h : sortedS l = true) : l.Pairwise (fun a b => leS a b = true) := by
  cases l with
  | nil => exact .nil
  | cons x r => exact rising_pair h
theorem sortS_eq {l m : List Str} (h : m.Perm l) (hs : sortedS m = true) : m = sortS l :=
  List.Perm.eq_of_pairwise (le := fun a b => leS a b = true) (fun a b _ _ h1 h2 => leS_anti h1 h2) (sortedS_pair hs) (sortS_sorted l) (h.trans (sortS_perm l).symm)
theorem RDs.strs {K : Frag} {B : Addr → Prop} {φ : List Addr} {H : Hp} : ∀ {vs : List V} {ns : List Str}, RDs K B φ H vs (ns.map D.str) → vs = ns.map V.str ∧ ∀ x ∈ ns, strOk x
  | _, [], h => by cases h; exact ⟨rfl, by simp⟩
  | _, n :: ns, h => by
    cases h with
    | cons r t =>
      cases r with | str _ ok =>
      obtain ⟨e, f⟩ := RDs.strs t
      exact ⟨by rw [e]; rfl, fun x hx => by
        rcases List.mem_cons.mp hx with z | z
        · rw [z]; exact ok
        · exact f x z⟩
theorem rds_strs {K : Frag} {B : Addr → Prop} {φ : List Addr} {H : Hp} : ∀ {ns : List Str}, (∀ x ∈ ns, strOk x) → RDs K B φ H (ns.map V.str) (ns.map D.str)
  | [], _ => .nil
  | n :: ns, h => .cons (.str n (h n (by simp))) (rds_strs fun x hx => h x (List.mem_cons_of_mem _ hx))
theorem RKv.ints {K : Frag} {B : Addr → Prop} {φ : List Addr} {H : Hp} : ∀ {vs : List (Key × V)} {ds : List (D × D)} {ns : List Int}, RKv K B φ H keyD vs ds → ds.map (·.1) = ns.map D.int → vs.map (·.1) = ns.map Sum.inl
  | _, _, [], .nil, _ => rfl
  | _, _, _ :: _, .nil, h => by cases h
  | _, _, [], .cons _ _ _, h => by cases h
  | _, _, n :: ns, .cons (k := k) ok r t, h => by
    rw [List.map_cons, List.map_cons] at h
    injection h with h1 h2
    rw [List.map_cons, List.map_cons, RKv.ints t h2]
    cases k with
    | inl i => simp only [keyD] at h1; cases h1; rfl
    | inr x => simp only [keyD] at h1; cases h1
theorem RKv.strs {K : Frag} {B : Addr → Prop} {φ : List Addr} {H : Hp} : ∀ {vs : List (Key × V)} {ds : List (D × D)} {ns : List Str}, RKv K B φ H keyD vs ds → ds.map (·.1) = ns.map D.str → vs.map (·.1) = ns.map Sum.inr ∧ ∀ x ∈ ns, strOk x
  | _, _, [], .nil, _ => ⟨rfl, by simp⟩
  | _, _, _ :: _, .nil, h => by cases h
  | _, _, [], .cons _ _ _, h => by cases h
  | _, _, n :: ns, .cons (k := k) ok r t, h => by
    rw [List.map_cons, List.map_cons] at h
    injection h with h1 h2
    obtain ⟨e1, e2⟩ := RKv.strs t h2
    rw [List.map_cons, List.map_cons, e1]
    cases k with
    | inl i => simp only [keyD] at h1; cases h1
    | inr x =>
      simp only [keyD] at h1
      cases h1
      refine ⟨rfl, fun y hy => ?_⟩
      rcases List.mem_cons.mp hy with z | z
      · rw [z]; exact ok
      · exact e2 y z
theorem sortD_cases {xs : List D} {z : D} (h : sortD xs = some z) : (∃ ns, xs = ns.map D.int ∧ ns.length < 64 ∧ z = .lst ((sortI ns).map D.int)) ∨ ∃ ns, xs = ns.map D.str ∧ ns.length < 64 ∧ z = .lst ((sortS ns).map D.str) := by
  unfold sortD at h
  split at h
  · rename_i ns hn
    split at h
    · cases h; exact .inl ⟨ns, ints_eq hn, by assumption, rfl⟩
    · cases h
  · split at h
    · rename_i ns hn
      split at h
      · cases h; exact .inr ⟨ns, strs_eq hn, by assumption, rfl⟩
      · cases h
    · cases h
theorem c_sorted (hc : X.calm = true) : CallR X (.builtin "sorted") (VA X.K X.mg gSorted) := by
  intro pins s σ H xs us Q I rv ⟨B, φ, st, ds, z, rs, r, hz, fin⟩
  have lists : ∀ (d : D) (ys : List D), ds = [d] → lstOf st d = some ys → sortD ys = some z → wpAny (model X.prog X.w) X.A (call (.builtin "sorted") us) (EP X pins σ Q) X.xe s := fun d ys ed hs hzz => by
    subst ed
    obtain ⟨v, rfl, rd⟩ := args1 r
    obtain ⟨p, vs, rfl, q, sq⟩ := lst_cases rs rd hs
    rcases sortD_cases hzz with ⟨ns, rfl, hl, rfl⟩ | ⟨ns, rfl, hl, rfl⟩
    · have := q.ints
      subst this
      exact cr_sorted pins s σ H _ us Q I rv ⟨p, ns, rfl, SqL.of sq, hl, fun ns' p' pm pw hp => by
        rw [sortI_eq pm pw]; exact finL rs fin (rds_ints _) hp⟩
    · obtain ⟨rfl, ok⟩ := q.strs
      exact cr_sortedS pins s σ H _ us Q I rv ⟨p, ns, rfl, SqL.of sq, hl, fun ns' p' pm pw hp => by
        rw [sortS_eq pm pw]; exact finL rs fin (rds_strs fun x hx => ok x ((sortS_perm ns).mem_iff.mp hx)) hp⟩
  unfold gSorted at hz
  split at hz
  · rename_i n
    cases hs : st[n]? with
    | none => rw [hs] at hz; cases hz
    | some cell =>
      rw [hs] at hz
      cases cell with
      | lst ys => exact lists _ ys rfl (by simp [lstOf, hs]) hz
      | dct kvs =>
        obtain ⟨v, rfl, rd⟩ := args1 r
        obtain ⟨a, vs, rfl, e, hH, q⟩ := loc_dct rs rd hs
        rcases sortD_cases hz with ⟨ns, e1, hl, rfl⟩ | ⟨ns, e1, hl, rfl⟩
        · exact call_sortedDI hc pins s σ H _ us Q I rv ⟨a, vs, ns, rfl, .inl hH, q.ints e1, hl, fun ns' p' pm pw hp => by
            rw [sortI_eq pm pw]; exact finL rs fin (rds_ints _) hp⟩
        · obtain ⟨e2, ok⟩ := q.strs e1
          exact call_sortedD hc pins s σ H _ us Q I rv ⟨a, vs, ns, rfl, .inl hH, e2, hl, fun ns' p' pm pw hp => by
            rw [sortS_eq pm pw]; exact finL rs fin (rds_strs fun x hx => ok x ((sortS_perm ns).mem_iff.mp hx)) hp⟩
      | dtt _ => cases hz
      | ins _ _ => cases hz
      | dlk _ => cases hz
      | llk _ => cases hz
  · rename_i ys
    exact lists _ ys rfl rfl hz
  · cases hz
/-! ### a list that may change, by list(..) -/
def VAS (K : Frag) (mg : Str → Option Value) (g : Store → List D → Option (D × Store)) : List V → Hp → VK → Prop := fun xs H Q =>
  ∃ B φ st ds z st', RS K mg B φ H st ∧ RDs K B φ H xs ds ∧ g st ds = some (z, st') ∧ ∀ v B' φ' H', Go φ B H φ' B' H' → RS K mg B' φ' H' st' → RD K B' φ' H' v z → Q v H'
theorem finC {K : Frag} {mg : Str → Option Value} {B : Addr → Prop} {φ : List Addr} {H : Hp} {st : Store} {vs : List V} {ds : List D} {Q : VK} {p : Addr} (rs : RS K mg B φ H st)
    (fin : ∀ v B' φ' H', Go φ B H φ' B' H' → RS K mg B' φ' H' (st ++ [.lst ds]) → RD K B' φ' H' v (.loc st.length) → Q v H') (r : RDs K B φ H vs ds) (hp : H p = none) : Q (.ref p) (upd H p (.lst vs)) := by
  obtain ⟨rs', g⟩ := rs.newCell (c := .lst ds) (o := .lst vs) hp trivial fun H1 f e1 => ⟨vs, e1, RDs.map f r⟩
  refine fin _ _ _ _ g rs' (.loc ?_)
  rw [List.getElem?_append_right (by rw [rs.len]; exact Nat.le_refl _), rs.len]
  simp
theorem c_listC : CallR X (.type "list") (VAS X.K X.mg gListC) := by
  intro pins s σ H xs us Q I rv ⟨B, φ, st, ds, z, st', rs, r, hz, fin⟩
  unfold gListC at hz
  split at hz
  · obtain ⟨v, rfl, rd⟩ := args1 r
    rename_i d
    cases hs : seq? st d with
    | none => rw [hs] at hz; cases hz
    | some ys =>
      rw [hs] at hz
      cases hz
      obtain ⟨p, vs, rfl, q, alt⟩ := seq_cases rs rd hs
      refine call_list_of pins s σ H _ us Q I rv ⟨p, vs, rfl, ?_, fun l hl => finC rs fin q hl⟩
      rcases alt with ⟨sq, _⟩ | ⟨sq, _⟩
      · exact .inr sq.t
      · exact .inl (SqL.of sq)
  · cases hz
theorem TrK.vAS {K : Frag} {mg : Str → Option Value} {W : WX} {σ : L2.St} {H : Hp} {g : Store → List D → Option (D × Store)} {xs : List V} {Q : VK} (h : TrK K mg (RDs K) (RD K) (fun d => fun _ st => (g st d).map fun p => (.ok p.1, p.2)) W xs σ H Q) : VAS K mg g xs H Q := by
  obtain ⟨B, φ, e, st, d, r, st', re, rs, r1, hc, fin⟩ := h
  dsimp only at hc
  cases hg : g st d with
  | none => rw [hg] at hc; cases hc
  | some p =>
    rw [hg] at hc
    cases hc
    exact ⟨B, φ, _, d, p.1, p.2, rs, r1, hg, fin⟩
theorem re_tyS {T : String} {x : Str} {g : Store → List D → Option (D × Store)} (hc : CallR X (.type T) (VAS X.K X.mg g)) (hg : Gl X x) (hm : X.mg x = none) (hv : bootBuiltins x = some (.type T)) (ha : RA X (a :: es) cs) (hn : x ≠ "__name__" := by decide) (hdb : (x == ("__debug__" : Str)) = false := by decide)
    (he : starEach (a :: es) X.env = (false, eval a X.env) :: starEach es X.env := by rfl) (hpl : (backTo pos (starEach es X.env)).any (·.1) = false := by rfl) : RE X (.Call (.Name x p) (a :: es) [] pos) (opAS g cs) := fun W tk =>
  (pe_callTy hc hg hm hv (ha W tk) hn hdb he hpl).imp fun σ H Q h => (Tr.bind h).mono fun xs H1 h1 => h1.vAS
end
end Sw

/-! Rules11: backwards, dict comprehensions, sorted(set(..)). -/
set_option Elab.async false
set_option linter.all false
set_option maxRecDepth 100000
set_option maxHeartbeats 4000000
namespace Sw
open PySem PySem.Spec PyProof.Rows L2
variable [LamT]
/-! ### x[::-1] -/
theorem filterMap_some {α β : Type} {f : α → Option β} {g : α → β} : ∀ {l : List α}, (∀ x ∈ l, f x = some (g x)) → l.filterMap f = l.map g
  | [], _ => rfl
  | x :: l, h => by
    rw [List.filterMap_cons, h x (by simp), List.map_cons, filterMap_some fun y hy => h y (List.mem_cons_of_mem _ hy)]
theorem pick_rev (xs : Array Value) : ((List.range xs.size).filterMap fun (k : Nat) => xs[(((xs.size : Int) - 1) + (k : Int) * (-1)).toNat]?).toArray = xs.toList.reverse.toArray := by
  congr 1
  rw [filterMap_some (g := fun k => xs.toList.reverse.getD k .none)]
  · apply List.ext_getElem?
    intro j
    rw [List.getElem?_map]
    by_cases hj : j < xs.size
    · rw [List.getElem?_range hj, Option.map_some, List.getD_eq_getElem?_getD, List.getElem?_eq_getElem (by simpa using hj), Option.getD_some]
    · rw [List.getElem?_eq_none (by simpa using hj), List.getElem?_eq_none (by simpa using hj)]; rfl
  · intro k hk
    have hk : k < xs.size := by simpa using hk
    have e : (((xs.size : Int) - 1) + (k : Int) * (-1)).toNat = xs.size - 1 - k := by omega
    rw [e, List.getD_eq_getElem?_getD, List.getElem?_reverse (by simpa using hk)]
    have h2 : xs.size - 1 - k < xs.size := by omega
    rw [Array.getElem?_eq_getElem h2]
    simp [h2]
section
variable {prog : Program} {w : World} {A : Around} {E : Value → Shared → Prop} {s : Shared}
theorem getItem_tuple_rev {t sl : Addr} {items : Array Value} {vl vu vs : Value} {Q : Value → Shared → Prop} (ht : IsTup s.heap t items) (hs : s.heap.IsSliceOf sl vl vu vs) (pl : IsPart vl none) (pu : IsPart vu none) (ps : IsPart vs (some (-1)))
    (h : Q (.ref s.heap.objs.size) { s with heap := s.heap.push { cls := .type "tuple", data := .seq items.toList.reverse.toArray } }) (hsz : items.size ≤ sizeLine) : wpAny (model prog w) A (getItem (.ref t) (.ref sl)) Q E s := by
  have hz : sizeOk (.seq items.toList.reverse.toArray) := by
    show items.toList.reverse.toArray.size ≤ sizeLine
    rw [List.size_toArray, List.length_reverse, Array.length_toList]; exact hsz
  obtain ⟨os, hos, hcs, hds⟩ := id hs
  have hTs : s.TypeIs (.ref sl) "slice" := ⟨os, hos, hcs⟩
  unfold getItem
  refine wpAny_holding ?_
  first | refine wpAny_bind (wpAny_pure ?_) | skip
  refine wpAny_bind (wpAny_sequenceKey ht.typeIs (by decide) ?_)
  refine wpAny_bind (wpAny_callSpecial?_slot (name := Str.ofString "__getitem__") ht.typeIs PyProof.Rows.slot_tuple_getitem
    (wpAny_call_entry PyProof.Rows.slot_tuple_getitem ht.typeIs entry_tuple_getitem ?_ (args_tuple_getitem _ _)))
  show wpAny _ _ (Builtin.Tuple.tupleItemsOf (.ref t) >>= _) _ _ s
  refine wpAny_bind (tupleItemsOf_ ht ?_)
  refine wpAny_bind (wpAny_typeOf hTs ?_)
  rw [if_pos (by decide)]
  refine wpAny_bind (m := Builtin.Slice.sliceApplied _ _) (Q := _) ?_
  have ap : ∀ {Q' : Int × Int × Nat → Shared → Prop} {A' : Around} {E' : Value → Shared → Prop}, Q' ((items.size : Int) - 1, -1, items.size) s → wpAny (model prog w) A' (Builtin.Slice.sliceApplied (.ref sl) (pure (items.size : Int))) Q' E' s := by
    intro Q' A' E' hq
    unfold Builtin.Slice.sliceApplied Builtin.Slice.sliceFields
    refine wpAny_bind (wpAny_bind (wpAny_field hos hds (x := vl) rfl (wpAny_bind (wpAny_field hos hds (x := vu) rfl (wpAny_bind (wpAny_field hos hds (x := vs) rfl (wpAny_pure ?_)))))))
    refine wpAny_bind (HT.slicePart_ ps ?_)
    show wpAny _ _ (if ((-1 : Int) == 0) = true then _ else _) _ _ s
    rw [if_neg (by decide)]
    refine wpAny_bind (HT.slicePart_ pl (wpAny_bind (HT.slicePart_ pu (wpAny_bind (wpAny_pure ?_)))))
    have e1 : Builtin.Slice.sliceAdjust none none (-1) (items.size : Int) = ((items.size : Int) - 1, -1) := by
      unfold Builtin.Slice.sliceAdjust
      simp
    show wpAny _ _ (match Builtin.Slice.sliceAdjust none none (-1) (items.size : Int) with | (lo, hi) => pure (lo, (-1 : Int), Builtin.Slice.slicePlaces lo hi (-1))) _ _ s
    rw [e1]
    have e2 : Builtin.Slice.slicePlaces ((items.size : Int) - 1) (-1) (-1) = items.size := by
      unfold Builtin.Slice.slicePlaces
      have h1 : ¬ ((-1 : Int) > 0) := by omega
      simp only [h1, if_false]
      by_cases hn : items.size = 0
      · rw [hn]; rfl
      · rw [if_pos (by omega)]
        have e3 : (-(-1 : Int)) = 1 := by decide
        rw [e3, Int.ediv_one]
        omega
    show wpAny _ _ (pure ((items.size : Int) - 1, (-1 : Int), Builtin.Slice.slicePlaces ((items.size : Int) - 1) (-1) (-1))) _ _ s
    rw [e2]
    exact wpAny_pure hq
  refine ap ?_
  show wpAny _ _ (if (((items.size : Int) - 1) == 0 && (-1 : Int) == 1 && items.size == items.size) = true then _ else _) _ _ s
  rw [if_neg (by simp), pick_rev]
  first
    | exact wpAny_bind (m := Builtin.Tuple.tupleExact _) (wpAny_newObj_type (wpAny_pure ⟨_, rfl, wpAny_pure h⟩) hz)
    | exact wpAny_bind (m := Builtin.Tuple.tupleExact _) (wpAny_newObj_type (wpAny_bind (wpAny_pure (wpAny_pure ⟨_, rfl, wpAny_pure h⟩))) hz)
    | exact wpAny_bind (wpAny_bind (m := Builtin.Tuple.tupleExact _) (wpAny_newObj_type (wpAny_pure (wpAny_pure ⟨_, rfl, wpAny_pure h⟩)) hz))
    | exact wpAny_bind (wpAny_bind (m := Builtin.Tuple.tupleExact _) (wpAny_newObj_type (wpAny_pure ⟨_, rfl, wpAny_pure h⟩) hz))
end
section
variable {X : Cx} {a b c o e : Expr} {ca cb cc : Ex} {ta : TE} {pos p p2 p3 q p1 : Pos} {es : List Expr} {cs : Ax}
def tRevA (K : Frag) (te : TE) : TE := fun σ H Q => te σ H fun x H1 => ∃ a xs, x = .ref a ∧ ((SqL K H1 a xs ∧ ∀ p, H1 p = none → Q (.ref p) (upd H1 p (.lst xs.reverse))) ∨ (SqT K H1 a xs ∧ NewT Q H1 xs.reverse))
theorem pe_revA {k : Nat} (he : PE X e ta) : PE X (.Subscript e (.Slice none none (some (.UnaryOp .USub (.Constant (.int 1) k p1) p2)) p3) pos) (tRevA X.K ta) := by
  refine ⟨fun pins s σ H Q I h => ?_⟩
  refine Subscript_ (thn (he.run pins s σ H _ I h) fun v s1 ⟨x, H1, I1, r1, q1⟩ => ?_)
  obtain ⟨a, xs, ex, alt⟩ := q1
  subst ex
  cases r1
  have hst : PO X (some (.UnaryOp .USub (.Constant (.int 1) k p1) p2)) (tPart (tUn (rU fun i => .int (-i)) (tC (.int 1)))) := po_some (pe_un un_neg pe_int)
  refine wpAny_Slice (thn (po_none.run pins s1 σ H1 (fun o H2 => o = none ∧ H2 = H1) I1 ⟨rfl, rfl⟩) fun vl s2 ⟨l, H2, I2, pl, el, e2⟩ => ?_)
  subst el e2
  refine thn (po_none.run pins s2 σ H2 (fun o H3 => o = none ∧ H3 = H2) I2 ⟨rfl, rfl⟩) fun vu s3 ⟨u, H3, I3, pu, eu, e3⟩ => ?_
  subst eu e3
  refine thn (hst.run pins s3 σ H3 (fun o H4 => o = some (-1) ∧ H4 = H3) I3 ⟨1, rfl, -1, rfl, rfl, rfl⟩) fun vs s4 ⟨o, H4, I4, ps, eo, e4⟩ => ?_
  subst eo e4
  have I5 : Inv X pins σ H4 { s4 with heap := s4.heap.push { cls := .type "slice", data := .fields #[vl, vu, vs] } } := I4.kept (t' := s4.toks) fun b ob q => Heap.get?_push_of_some _ q
  show wpAny (model X.prog X.w) X.A (subscriptTail e (.Slice none none (some (.UnaryOp .USub (.Constant (.int 1) k p1) p2)) p3) (.ref a) (.ref s4.heap.objs.size)) (EP X pins σ Q) X.xe { s4 with heap := s4.heap.push { cls := .type "slice", data := .fields #[vl, vu, vs] } }
  rcases alt with ⟨hx, q⟩ | ⟨hx, q⟩
  · obtain ⟨its, r, ht, hz⟩ := I5.list hx
    have hlen := r.length
    refine tail_any (ops := [.ref a, .ref s4.heap.objs.size]) ht.isList.typeIs (PySem.slot_list_getitem.lookup) ?_ (by with_unfolding_all rfl)
    refine wpAny_getItem_list_slice ht.isList (Heap.IsSliceOf.new _ vl vu vs) pl pu ps (by decide) ?_ (by rw [List.size_toArray]; omega)
    rw [PySem.W.krv_pick]
    refine ⟨.ref _, _, I5.laid (t' := s4.toks) (o := .lst xs.reverse) (fun b ob q => Heap.get?_push_of_some _ q) (Nat.le_refl _) ?_, rfl, q _ (I5.hok.fresh (Nat.le_refl _))⟩
    exact ⟨by rw [List.length_reverse]; exact hz, _, 0, r.reverse, Heap.get?_push_size _ rfl⟩
  · obtain ⟨its, r, ht, hz⟩ := I5.tuple hx
    have hlen := r.length
    refine tail_any (ops := [.ref a, .ref s4.heap.objs.size]) ht.typeIs (PyProof.Rows.slot_tuple_getitem.lookup) ?_ (by with_unfolding_all rfl)
    refine getItem_tuple_rev ht (Heap.IsSliceOf.new _ vl vu vs) pl pu ps ?_ (by rw [List.size_toArray]; omega)
    have := newT (tk := s4.toks) I5 r.reverse (by rw [List.length_reverse]; exact hz) q
    simpa using this
theorem re_rev {k : Nat} (ha : RE X a ca) : RE X (.Subscript a (.Slice none none (some (.UnaryOp .USub (.Constant (.int 1) k p1) p2)) p3) pos) (op1 vRevA ca) := fun W tk =>
  (pe_revA (ha W tk)).imp fun σ H Q h => (Tr.bind h).mono fun x H1 h1 => by
    obtain ⟨B, φ, st, d, z, rs, r, hz, fin⟩ := h1.v1
    unfold vRevA at hz
    split at hz
    · cases hz
      cases r with | tup sq q =>
      exact ⟨_, _, rfl, .inr ⟨sq.t, finT rs fin q.reverse⟩⟩
    · cases hs : lstOf st d with
      | none => rw [hs] at hz; cases hz
      | some xs =>
        rw [hs] at hz
        cases hz
        obtain ⟨p, vs, rfl, q, sq⟩ := lst_cases rs r hs
        exact ⟨p, vs, rfl, .inl ⟨SqL.of sq, fun p hp => finL rs fin q.reverse hp⟩⟩
end
end Sw

/-! Rules12: dict comprehensions. -/
set_option Elab.async false
set_option linter.all false
set_option maxRecDepth 100000
set_option maxHeartbeats 4000000
namespace Sw
open PySem PySem.Spec PyProof.Rows L2
variable [LamT]
section
variable {K : Frag} {mg : Str → Option Value} {B : Addr → Prop} {φ : List Addr} {H : Hp} {st : Store}
theorem RD.ext {p : Addr} {v : V} {d : D} (r : RD K B φ H v d) : RD K B (φ ++ [p]) H v d :=
  RD.on (fun _ _ h => h) (fun _ _ h n => ⟨h, n⟩) (fun _ _ _ h _ => ⟨h, id⟩) (fun _ _ h => pre_get (List.prefix_append _ _) h) r
theorem dK_notRd {p : Addr} {acc : List (Key × V)} (h : H p = some (.dK acc)) : (∀ xs, ¬ Rd H p (.tup xs)) ∧ ∀ q u, ¬ H p = some (.frz q u) := by
  refine ⟨fun xs z => ?_, fun q u z => ?_⟩
  · rcases z with z | ⟨q, z⟩ <;> (rw [h] at z; cases z)
  · rw [h] at z; cases z
/-- what was made aside becomes a cell -/
theorem RS.addCell (rs : RS K mg B φ H st) {p : Addr} {c : Cell} (bp : B p) (np : p ∉ φ) (rc : RC K mg B (φ ++ [p]) H p c) : RS K mg B (φ ++ [p]) H (st ++ [c]) := by
  have f : ∀ {v d}, RD K B φ H v d → RD K B (φ ++ [p]) H v d := fun r => r.ext
  refine ⟨by simp [rs.len], ?_, fun a h => ?_, rs.sd, fun n d e => ?_, rs.tabs⟩
  · rw [List.nodup_append]
    exact ⟨rs.nd, by simp, fun a ha b hb e => by
      have : b = p := by simpa using hb
      exact np (by rw [← this, ← e]; exact ha)⟩
  · rcases List.mem_append.mp h with z | z
    · exact rs.sub a z
    · have : a = p := by simpa using z
      rw [this]; exact bp
  · by_cases hn : n < st.length
    · rw [List.getElem?_append_left hn] at e
      obtain ⟨a, e1, rc'⟩ := rs.at_ n d e
      exact ⟨a, pre_get (List.prefix_append _ _) e1, rc'.on f (RDs.map f) rfl⟩
    · rw [List.getElem?_append_right (by omega)] at e
      have hz : n - st.length = 0 := by
        rcases Nat.eq_zero_or_pos (n - st.length) with z | z
        · exact z
        · rw [List.getElem?_eq_none (by simp; omega)] at e; cases e
      rw [hz] at e
      simp at e
      subst e
      refine ⟨p, ?_, rc⟩
      rw [List.getElem?_append_right (by rw [rs.len]; omega), rs.len, hz]
      rfl
end
section
variable {X : Cx} {a b tg it kx vx : Expr} {ca cb ck cy : Ex} {ct : Tx} {pos p : Pos} {es : List Expr} {vs : List Nat}
theorem re_dc {g : Tg} {ci : Act (List D)} {scope : Scope} {own : List (Str × Nat)} {ifs : List Expr} (hc : X.calm = true) (hN : X.N.Nodup) (hi : RI X tg it ci) (ok : BlkOk X.N X.env.scope scope own)
    (hg : ∀ (s : Shared) (H : Hp) (C : Addr) (cl : List (Str × Addr)) (fp : List Addr), RGw (X.blk s H scope (compEnvC scope cl C X.env) fp) (own.map (·.2)) tg g)
    (ht : ∀ (s : Shared) (H : Hp) (C : Addr) (cl : List (Str × Addr)) (fp : List Addr), RTs (X.blk s H scope (compEnvC scope cl C X.env) fp) ifs ct)
    (hk : ∀ (s : Shared) (H : Hp) (C : Addr) (cl : List (Str × Addr)) (fp : List Addr), RE (X.blk s H scope (compEnvC scope cl C X.env) fp) kx ck)
    (he : ∀ (s : Shared) (H : Hp) (C : Addr) (cl : List (Str × Addr)) (fp : List Addr), RE (X.blk s H scope (compEnvC scope cl C X.env) fp) vx cy) (hs : ∀ x, foldedSetIterable it X.env x = pure x := by intro _; rfl) :
    RE X (.DictComp kx vx [⟨tg, it, ifs, 0⟩] scope pos) (eDc ci g (own.map (·.2)) ct ck cy) := fun W tk =>
  (pe_dc (own := own) (g := TrGw X.K X.mg g (own.map fun y : Str × Nat => y.2)) (tt := Tr X.K X.mg rB ct fun _ _ _ _ => False) (tk := Tr X.K X.mg (RD X.K) ck fun _ _ _ _ => False) (tv := Tr X.K X.mg (RD X.K) cy fun _ _ _ _ => False) hc hN (hi W tk) ok
    (fun s H C cl fp => hg s H C cl fp) (fun s H C cl fp => ht s H C cl fp _ takes0) (fun s H C cl fp => hk s H C cl fp _ takes0) (fun s H C cl fp => he s H C cl fp _ takes0) hs).imp fun σ H Q ⟨B, φ, e, st, r, st', re, rs, hc', fin⟩ => by
  unfold eDc Act.bind at hc'
  cases ha : ci e st with
  | none => rw [ha] at hc'; cases hc'
  | some pr =>
    obtain ⟨q, st1⟩ := pr
    rw [ha] at hc'
    cases q with
    | error x =>
      simp only [Option.some.injEq, Prod.mk.injEq] at hc'
      obtain ⟨rfl, rfl⟩ := hc'
      exact ⟨B, φ, e, st, _, _, re, rs, ha, fin⟩
    | ok ds =>
      refine ⟨B, φ, e, st, _, _, re, rs, ha, fun J B1 φ1 H1 g1 rs1 it1 hsz p hp => ?_⟩
      dsimp only at hc'
      cases hcl : compD g ct ck cy ds (Sw.wipe e (own.map (·.2))) st1 [] with
      | none => rw [hcl] at hc'; cases hc'
      | some pr2 =>
        obtain ⟨ys, st2⟩ := pr2
        rw [hcl] at hc'
        simp only [Option.some.injEq, Prod.mk.injEq] at hc'
        obtain ⟨rfl, rfl⟩ := hc'
        have re1 := (REnv.go rs g1 re).wipe2 (own.map (·.2))
        refine ⟨fun i m H' => m = ds.length - i ∧ i ≤ ds.length ∧ ∃ Bc φc st3 acc accD, Go φ1 B1 H1 φc Bc H' ∧ RS X.K X.mg Bc φc H' st3 ∧ Bc p ∧ p ∉ φc ∧ H' p = some (.dK acc) ∧ RKv X.K Bc φc H' keyD acc accD ∧ acc.length ≤ i ∧
            compD g ct ck cy (ds.drop i) (Sw.wipe e (own.map (·.2))) st3 accD = some (ys, st2), ⟨ds.length, by simp, Nat.zero_le _, ?_⟩, ?_⟩
        · have npφ : p ∉ φ1 := fun hm => rs1.there p (rs1.sub p hm) hp
          obtain ⟨rs2, g2⟩ := rs1.newThing (o := .dK []) hp
          refine ⟨fun a => B1 a ∨ a = p, φ1, st1, [], [], ⟨rs1.sub, g2.keep, g2.pre, fun _ h => .inl h, fun a h => h.imp id (fun e => by rw [e]; exact nSd hp), g2.inφ, g2.frz⟩, ⟨rs2.len, rs2.nd, fun a h => .inl (rs2.sub a h), fun a h => ?_, fun n c h => ?_, rs2.tabs⟩, .inr rfl, npφ, upd_same, .nil, Nat.le_refl _, hcl⟩
          · rcases h with h | h
            · exact rs2.sd a h
            · rw [h]; exact ⟨_, upd_same, fun _ z => by cases z⟩
          · obtain ⟨a, e1, rc⟩ := rs1.at_ n c h
            obtain ⟨o, ho, _⟩ := rc.mut
            have nap : a ≠ p := ne_of_none ho hp
            have f : ∀ {v d}, RD X.K B1 φ1 H1 v d → RD X.K (fun a => B1 a ∨ a = p) φ1 (upd H1 p (.dK [])) v d := fun r => by
              refine RD.on (fun b xs h => ?_) (fun b xs h nb => ?_) (fun b q u h _ => ?_) (fun _ _ h => h) r
              · exact Rd.go (fun o e => by rw [upd_ne (ne_of_none e hp)]; exact e) h
              · have nbp : b ≠ p := ne_of_none h hp
                exact ⟨by rw [upd_ne nbp]; exact h, fun z => z.elim nb nbp⟩
              · exact ⟨by rw [upd_ne (ne_of_none h hp)]; exact h, fun nb z => z.elim nb (ne_of_none h hp)⟩
            exact ⟨a, e1, rc.on f (RDs.map f) (upd_ne nap)⟩
        · rintro i m H' ⟨rfl, hi', Bc, φc, st3, acc, accD, gc, rsc, bp, npφ, hacc, racc, hal, hcl'⟩
          obtain ⟨hstop, hgo⟩ := it1 Bc φc H' st3 gc rsc i
          by_cases hlt : i < ds.length
          · have hd : ds[i]? = some ds[i] := List.getElem?_eq_getElem hlt
            obtain ⟨go, yl⟩ := hgo _ hd
            rw [List.drop_eq_getElem_cons hlt] at hcl'
            unfold compD at hcl'
            refine .inr ⟨go, fun H3 => ∃ Bc φc st3 acc accD, Go φ1 B1 H1 φc Bc H3 ∧ RS X.K X.mg Bc φc H3 st3 ∧ Bc p ∧ p ∉ φc ∧ H3 p = some (.dK acc) ∧ RKv X.K Bc φc H3 keyD acc accD ∧ acc.length ≤ i + 1 ∧
              compD g ct ck cy (ds.drop (i + 1)) (Sw.wipe e (own.map (·.2))) st3 accD = some (ys, st2), ?_, fun x H'' hy => ?_⟩
            · rintro H3 ⟨Bc, φc, st3, acc, accD, gc, rsc, bp, npφ, hacc, racc, hal, hcl'⟩
              exact ⟨ds.length - (i + 1), by omega, rfl, hlt, Bc, φc, st3, acc, accD, gc, rsc, bp, npφ, hacc, racc, hal, hcl'⟩
            · obtain ⟨B4, g4, rs4, rd4⟩ := yl x H'' hy
              cases hg1 : g ds[i] (Sw.wipe e (own.map (·.2))) st3 with
              | none => rw [hg1] at hcl'; cases hcl'
              | some pr3 =>
                obtain ⟨e5, st5⟩ := pr3
                rw [hg1] at hcl'
                dsimp only at hcl'
                refine ⟨B4, φc, _, st3, ds[i], e5, st5, REnv.go rs4 (.refl rs4) (REnv.go rsc g4 (REnv.go rs1 gc re1)), rs4, rd4, hg1, fun σ6 B6 φ6 H6 hw g6 rs6 re6 => ⟨hw.trans (wipe_idem σ _), ?_⟩⟩
                cases ht1 : ct e5 st5 with
                | none => rw [ht1] at hcl'; cases hcl'
                | some pr4 =>
                  obtain ⟨q7, st7⟩ := pr4
                  rw [ht1] at hcl'
                  cases q7 with
                  | error x7 => cases hcl'
                  | ok k =>
                    refine ⟨B6, φ6, e5, st5, _, st7, re6, rs6, ht1, fun k' B8 φ8 H8 g8 rs8 hk => ?_⟩
                    have hk : k' = k := hk
                    subst hk
                    have gs : Go φc Bc H' φ8 B8 H8 := (g4.trans g6).trans g8
                    have keepP : ∀ {φ9 : List Addr} {B9 : Addr → Prop} {H9 : Hp}, Go φc Bc H' φ9 B9 H9 → H9 p = some (.dK acc) ∧ p ∉ φ9 ∧ B9 p := fun g9 => by
                      refine ⟨g9.keep p _ hacc npφ (fun _ z => by cases z), fun hm => ?_, g9.mono p bp⟩
                      rcases g9.inφ p hm with z | z
                      · exact npφ z
                      · exact z ⟨_, hacc, fun _ z => by cases z⟩
                    cases k' with
                    | false =>
                      refine iteF ?_
                      obtain ⟨a1, a2, a3⟩ := keepP gs
                      exact ⟨B8, φ8, st7, acc, accD, gc.trans gs, rs8, a3, a2, a1, racc.on (RD.go rsc gs), Nat.le_succ_of_le hal, hcl'⟩
                    | true =>
                      refine iteT ?_
                      dsimp only at hcl'
                      cases hk1 : ck e5 st7 with
                      | none => rw [hk1] at hcl'; cases hcl'
                      | some prk =>
                        obtain ⟨qk, stk⟩ := prk
                        rw [hk1] at hcl'
                        cases qk with
                        | error xk => cases hcl'
                        | ok kd =>
                          refine ⟨B8, φ8, e5, st7, _, stk, REnv.go rs6 g8 re6, rs8, hk1, fun vk Bk φk Hk gk rsk rdk => ?_⟩
                          dsimp only at hcl'
                          by_cases hik : isKey kd = true
                          · rw [if_pos hik] at hcl'
                            cases hy1 : cy e5 stk with
                            | none => rw [hy1] at hcl'; cases hcl'
                            | some pr5 =>
                              obtain ⟨q9, st9⟩ := pr5
                              rw [hy1] at hcl'
                              cases q9 with
                              | error x9 => cases hcl'
                              | ok y9 =>
                                refine ⟨Bk, φk, e5, stk, _, st9, REnv.go rs8 gk (REnv.go rs6 g8 re6), rsk, hy1, fun v10 B10 φ10 H10 g10 rs10 rd10 => ?_⟩
                                have gt : Go φc Bc H' φ10 B10 H10 := (gs.trans gk).trans g10
                                obtain ⟨a1, a2, a3⟩ := keepP gt
                                obtain ⟨κ, rfl, rfl, okk⟩ := key_of_isKey rdk hik
                                refine ⟨acc, κ, rfl, a1, ?_, ?_⟩
                                · exact Nat.lt_of_le_of_lt hal (Nat.lt_of_lt_of_le hlt hsz)
                                · dsimp only at hcl'
                                  obtain ⟨n1, n2⟩ := dK_notRd a1
                                  obtain ⟨rs11, f11⟩ := rs10.own (o' := .dK (putK acc κ v10)) a1 a3 a2 n1 n2
                                  refine ⟨B10, φ10, st9, putK acc κ v10, putKv accD (keyD κ) y9, ?_, rs11, a3, a2, upd_same, (RKv.put ((racc.on (RD.go rsc gt)).on f11) okk (f11 rd10)), ?_, hcl'⟩
                                  · have gg := gc.trans gt
                                    exact ⟨gg.sub, fun a o ha hn nt => by
                                      have nap : a ≠ p := ne_of_none ha hp
                                      rw [upd_ne nap]; exact gg.keep a o ha hn nt, gg.pre, gg.mono, gg.fresh, gg.inφ, fun a o u ha => by rw [upd_ne (ne_of_none ha hp)]; exact gg.frz a o u ha⟩
                                  · have := length_putK acc κ v10
                                    omega
                          · rw [if_neg hik] at hcl'; cases hcl'
          · have e0 : ds.drop i = [] := List.drop_eq_nil_of_le (by omega)
            rw [e0] at hcl'
            unfold compD at hcl'
            cases hcl'
            refine .inl ⟨hstop (by omega), ?_⟩
            have gF : Go φ B H (φc ++ [p]) Bc H' := g1.trans ⟨gc.sub, gc.keep, gc.pre.trans (List.prefix_append _ _), gc.mono, gc.fresh, fun a h => by
              rcases List.mem_append.mp h with z | z
              · exact gc.inφ a z
              · have : a = p := by simpa using z
                rw [this]; exact .inr (nSd hp), gc.frz⟩
            refine fin (.ref p) Bc (φc ++ [p]) H' gF (rsc.addCell bp npφ ⟨acc, hacc, racc.on (fun r => r.ext)⟩) (.loc ?_)
            rw [List.getElem?_append_right (by rw [rsc.len]; exact Nat.le_refl _), rsc.len]
            simp
end
end Sw

/-! SetL: set(xs) of a list of ints, as a set whose order can be walked. -/
set_option Elab.async false
set_option linter.all false
set_option maxRecDepth 100000
set_option maxHeartbeats 4000000
namespace Sw.SL
open PySem PySem.Spec PyProof.Rows L2
abbrev stO (w : World) : Obj := { cls := .type "set", dict := none, data := .set #[] 0 (.fresh 0 0 (!w.params.followText "set-order")) }
section
variable {P : Program} {w : World} {A : Around} {E : Value → Shared → Prop} {s : Shared}
/-- what set's init does of a list -/
theorem init_list {S l : Addr} {items : Array Value} (ns : List Int) {R : Value → Shared → Prop} (hh : A.handled = none) (hS : s.heap.get? S = some (stO w)) (hl : s.heap.IsList l items) (hit : IntsAre items.toList ns) (hb : ns.length + 1 < scanBound) (hSl : S ≠ l) (hlt : S < s.heap.objs.size) (hll : l < s.heap.objs.size)
    (h : ∀ (h' : Heap) (tk c : Nat), SetR w h' S (fun j => decide (j ∈ ns)) c → c ≤ ns.length → (∀ b o, b ≠ S → s.heap.get? b = some o → h'.get? b = some o) → R .none { s with heap := h', toks := tk }) :
    wpAny (model P w) A (Builtin.«set.__init__» ⟨[.ref S, .ref l], []⟩) (fun fin s' => ∃ v, fin = .done (.ret v) ∧ R v s') E s := by
  have hisz : items.size = ns.length := by
    have q := IntsAre.length hit
    rw [Array.length_toList] at q
    exact q
  have hT : s.TypeIs (.ref S) "set" := ⟨_, hS, rfl⟩
  obtain ⟨ol, hol, hcl, nl, hdl⟩ := id hl
  obtain ⟨ocls, odict, odata, oslots⟩ := ol
  simp only at hcl hdl
  subst hcl; subst hdl
  have s1 := PySem.F.sub_list_set
  have s2 := PySem.F.sub_list_frozenset
  have hne : (Value.type "list" == Value.type "dict") = false := by decide
  unfold Builtin.«set.__init__» noKeywords Builtin.Frozenset.updateFrom
  generalize hPI : pyIter = PI
  wp_walk
  subst hPI
  refine wpAny_pyIter_list hl ?_
  refine wpAny_bind (wpAny_runValue ?_)
  have hz : (s.heap.push { cls := .type "list_iterator", data := .fields #[.ref l, .int 0 0] }).objs.size = s.heap.objs.size + 1 := Heap.size_push ..
  have hh1 : A.in1.handled = none := by simp [hh]
  have hneI : l ≠ s.heap.objs.size := Nat.ne_of_lt hll
  have hSf : S ∉ [s.heap.objs.size, l] := by
    simp only [List.mem_cons, List.mem_singleton, List.not_mem_nil, or_false, not_or]
    exact ⟨Nat.ne_of_lt hlt, hSl⟩
  have hval : ∀ (i : Nat) (v : Value), items[i]? = some v → ∃ k t, ns[i]? = some k ∧ v = .int k t := fun i v hv => by
    have hi : i < ns.length := by rw [← hisz]; exact (Array.getElem?_eq_some_iff.mp hv).1
    obtain ⟨t, e⟩ := PyProof.Rows.IntsAre.int_at hit i v (by rw [Array.getElem?_toList]; exact hv)
    refine ⟨ns[i], t, List.getElem?_eq_getElem hi, ?_⟩
    rw [e, List.getD_eq_getElem?_getD, List.getElem?_eq_getElem hi] <;> rfl
  refine set_update_ints ((Walks.list hh1 _ l hneI items).toS) S hSf ns hisz hb hval (items.size - 0) 0 _ (by omega) (Nat.zero_le _)
    ⟨⟨_, Heap.get?_push_size _ rfl, rfl, rfl⟩, (hl.push _)⟩ ⟨0, Nat.le_refl 0, setR_new_at (Heap.get?_push_of_some _ hS)⟩ fun s' c' hm hc' hS' => ?_
  obtain ⟨h', g2, d', tk', os'⟩ := s'
  have eg : g2 = s.gens := hm.gens
  have ed : d' = s.drawn := hm.drawn
  have eo : os' = s.os := hm.os
  subst eg ed eo
  rw [hisz] at hc'
  refine wpAny_pure (wpAny_pure ⟨_, rfl, h h' tk' c' hS' hc' fun b o nb e => ?_⟩)
  refine hm.heap b o (fun hb2 => ?_) (Heap.get?_push_of_some _ e)
  simp only [List.mem_cons, List.not_mem_nil, or_false] at hb2
  rcases hb2 with q | q
  · exact nb q
  · exact Nat.ne_of_lt (Heap.lt_size e) q
/-- set(xs) -/
theorem call_set {l : Addr} {items : Array Value} (ns : List Int) {Q : Value → Shared → Prop} (hh : A.handled = none) (hl : s.heap.IsList l items) (hit : IntsAre items.toList ns) (hb : ns.length + 1 < scanBound)
    (h : ∀ (h' : Heap) (tk c : Nat), SetR w h' s.heap.objs.size (fun j => decide (j ∈ ns)) c → c ≤ ns.length → (∀ b o, s.heap.get? b = some o → h'.get? b = some o) → Q (.ref s.heap.objs.size) { s with heap := h', toks := tk }) :
    wpAny (model P w) A (call (.type "set") [.ref l]) Q E s := by
  have ft := PySem.F.called_set
  obtain ⟨c, tl, hmro⟩ := ft.mro
  have hmade := ft.made
  have hsub := ft.sub
  have hll : l < s.heap.objs.size := by obtain ⟨_, e, _⟩ := id hl; exact Heap.lt_size e
  refine wpAny_call (codeAny_of_tree (wpAny_pure ⟨Code.quiet_builtin _ (by decide +kernel), codeAny_builtin PySem.F.entry_type_call ?_⟩))
  rw [Around.under_plain (weight_type_call_type "set" [.ref l] []) rfl]
  have q1 := ft.notType
  have q2 := ft.canCreate
  have q3 := PySem.F.typeCall_set_1 (.ref l)
  repeat (any_goals (first | assumption | wp_step))
  refine codeAny_mono (code_set_led1 (.ref l) (E := E) (Q₁ := fun obj s₁ => obj = .ref s.heap.objs.size ∧ s₁ = { s with heap := s.heap.push (stO w) }) ⟨rfl, rfl⟩) fun r s₁ hr => ?_
  cases r with
  | error e => exact hr
  | ok fl =>
    cases fl with
    | ret obj =>
      obtain ⟨rfl, rfl⟩ := hr
      have hS : (s.heap.push (stO w)).get? s.heap.objs.size = some (stO w) := Heap.get?_push_size _ rfl
      have hT : Shared.TypeIs { s with heap := s.heap.push (stO w) } (.ref s.heap.objs.size) "set" := ⟨_, hS, rfl⟩
      have q4 := ft.init.lookup
      have q5 := ft.init.bind (.ref s.heap.objs.size)
      repeat (any_goals (first | assumption | wp_step))
      have hz : (s.heap.push (stO w)).objs.size = s.heap.objs.size + 1 := Heap.size_push ..
      refine codeAny_mono (codeAny_call_builtin (R := wants (fun r s₂ => r = .none ∧ Q (.ref s.heap.objs.size) s₂) E) ft.init.plain PySem.F.entry_set_init (check_set_init_1 hT ?_)) fun r₂ s₂ hr₂ => ?_
      · have it := init_list (P := P) (A := A.in1.in1) (E := E) (s := { s with heap := s.heap.push (stO w) }) ns (R := fun v s' => v = .none ∧ Q (.ref s.heap.objs.size) s') (by simp [hh]) hS (hl.push _) hit hb (Nat.ne_of_gt hll) (by show _ < (s.heap.push (stO w)).objs.size; rw [hz]; exact Nat.lt_succ_self _) (by show _ < (s.heap.push (stO w)).objs.size; rw [hz]; exact Nat.lt_succ_of_lt hll)
          fun h' tk c hR hc hk => ⟨rfl, h h' tk c hR hc fun b o e => hk b o (Nat.ne_of_lt (Heap.lt_size e)) (Heap.get?_push_of_some _ e)⟩
        refine wpAny_mono it (fun fin s' hf => ?_) (fun _ _ e => e)
        obtain ⟨v, rfl, e1, e2⟩ := hf
        exact ⟨e1, e2⟩
      · cases r₂ with
        | error e => exact hr₂
        | ok fl₂ =>
          cases fl₂ with
          | ret r =>
            obtain ⟨rfl, hq⟩ := hr₂
            repeat (any_goals (first | assumption | wp_step))
          | _ => exact hr₂.elim
    | _ => exact hr.elim
end
end Sw.SL

/-! Rules13: sorted(set(xs)), len(set(xs)) of ints. -/
set_option Elab.async false
set_option linter.all false
set_option maxRecDepth 100000
set_option maxHeartbeats 4000000
namespace Sw
open PySem PySem.Spec PyProof.Rows L2
variable [LamT]
theorem dedup_foldl : ∀ (xs acc : List Int), (acc.Nodup → (xs.foldl (fun acc x => if x ∈ acc then acc else acc ++ [x]) acc).Nodup) ∧ ∀ k, k ∈ xs.foldl (fun acc x => if x ∈ acc then acc else acc ++ [x]) acc ↔ k ∈ acc ∨ k ∈ xs
  | [], acc => ⟨id, fun k => by simp⟩
  | x :: xs, acc => by
    rw [List.foldl_cons]
    by_cases hx : x ∈ acc
    · rw [if_pos hx]
      obtain ⟨h1, h2⟩ := dedup_foldl xs acc
      refine ⟨h1, fun k => ?_⟩
      rw [h2, List.mem_cons]
      constructor
      · rintro (h | h)
        · exact .inl h
        · exact .inr (.inr h)
      · rintro (h | rfl | h)
        · exact .inl h
        · exact .inl hx
        · exact .inr h
    · rw [if_neg hx]
      obtain ⟨h1, h2⟩ := dedup_foldl xs (acc ++ [x])
      refine ⟨fun nd => h1 ?_, fun k => ?_⟩
      · rw [List.nodup_append]
        refine ⟨nd, by simp, fun a ha b hb e => ?_⟩
        have : b = x := by simpa using hb
        exact hx (by rw [← this, ← e]; exact ha)
      · rw [h2, List.mem_append, List.mem_singleton, List.mem_cons]
        constructor
        · rintro ((h | h) | h)
          · exact .inl h
          · exact .inr (.inl h)
          · exact .inr (.inr h)
        · rintro (h | h | h)
          · exact .inl (.inl h)
          · exact .inl (.inr h)
          · exact .inr h
theorem dedup_nodup (xs : List Int) : (dedup xs).Nodup := (dedup_foldl xs []).1 .nil
theorem dedup_mem (xs : List Int) (k : Int) : k ∈ dedup xs ↔ k ∈ xs := by
  have := (dedup_foldl xs []).2 k
  unfold dedup
  rw [this]; simp
theorem sortSet_eq {ns m : List Int} (h1 : m.Pairwise (· < ·)) (h2 : ∀ k, k ∈ m ↔ k ∈ ns) : m = sortI (dedup ns) := by
  have nd : m.Nodup := h1.imp fun h => by omega
  have pm : m.Perm (dedup ns) := (List.perm_ext_iff_of_nodup nd (dedup_nodup ns)).mpr fun k => by rw [h2, dedup_mem]
  exact sortI_eq pm (h1.imp fun h => by omega)
section
variable {X : Cx}
def rSetOfI (K : Frag) (w : World) : List V → Hp → VK → Prop := fun xs H Q => ∃ (l : Addr) (ns : List Int), xs = [V.ref l] ∧ SqL K H l (ns.map V.int) ∧ ns.length < 64 ∧ ∀ p c, H p = none → c ≤ ns.length → Q (.ref p) (upd H p (SetO w p (fun j => decide (j ∈ ns)) c))
theorem cr_setOfI (hc : X.calm = true) : CallR X (.type "set") (rSetOfI X.K X.w) := by
  intro pins s σ H xs us Q I r h
  obtain ⟨l, ns, rfl, hq, hl, q⟩ := h
  rw [Vals.ref1 r]
  obtain ⟨its, rv, pl, hz⟩ := I.list hq
  refine SL.call_set ns (I.ok.hd hc) pl.isList (by simpa using Vals.ints rv) (by unfold scanBound; omega) fun h' tk c hR hc' hk => ?_
  exact ⟨.ref _, _, I.laid (t' := tk) (fun b u e => hk b u e) (Nat.le_refl _) (setO_new hR), rfl, q _ c (I.hok.fresh (Nat.le_refl _)) hc'⟩
variable {a : Expr} {ca : Ex} {pos p p2 q : Pos}
theorem re_sortset (hc : X.calm = true) (hg : Gl X "sorted") (hm : X.mg "sorted" = none) (hg2 : Gl X "set") (hm2 : X.mg "set" = none) (ha : RE X a ca)
    (hs : starEach [a] X.env = (false, eval a X.env) :: starEach [] X.env := by rfl) (hpl : (backTo q (starEach [] X.env)).any (·.1) = false := by rfl)
    (hs2 : starEach [.Call (.Name "set" p2) [a] [] q] X.env = (false, eval (.Call (.Name "set" p2) [a] [] q) X.env) :: starEach [] X.env := by rfl) (hpl2 : (backTo pos (starEach [] X.env)).any (·.1) = false := by rfl) :
    RE X (.Call (.Name "sorted" p) [.Call (.Name "set" p2) [a] [] q] [] pos) (op1 vSortSet ca) := fun W tk =>
  (pe_callB (cr_sortedSet hc) hg hm PyProof.Rows.boot_sorted (pa_cons (pe_callTy (cr_setOfI hc) hg2 hm2 PyProof.Rows.boot_set (pa_cons (ha W tk) pa_nil hs) (by decide) (by decide) hs hpl) pa_nil hs2) (by decide) (by decide) hs2 hpl2).imp fun σ H Q h => (Tr.bind h).mono fun x H1 h1 => by
    obtain ⟨B, φ, st, d, z, rs, r, hz, fin⟩ := h1.v1
    unfold vSortSet at hz
    cases hs : lstOf st d with
    | none => rw [hs] at hz; cases hz
    | some xs =>
      rw [hs, Option.bind_some] at hz
      cases hn : ints? xs with
      | none => rw [hn] at hz; cases hz
      | some ns =>
        rw [hn] at hz
        dsimp only at hz
        split at hz
        · rename_i hl
          cases hz
          obtain ⟨l, vs, rfl, q, sq⟩ := lst_cases rs r hs
          rw [ints_eq hn] at q
          have := q.ints
          subst this
          refine ⟨l, ns, rfl, SqL.of sq, hl, fun p1 c hp1 hc1 => ?_⟩
          obtain ⟨rs1, g1⟩ := rs.newThing (o := SetO X.w p1 (fun j => decide (j ∈ ns)) c) hp1
          refine ⟨p1, _, c, rfl, upd_same, by omega, fun m p2 h1 h2 h3 hp2 => ?_⟩
          rw [sortSet_eq (ns := ns) h1 (fun k => (h2 k).trans (by simp))]
          exact finL rs1 (fun v B' φ' H' g => fin v B' φ' H' (g1.trans g)) (rds_ints _) hp2
        · cases hz
end
end Sw

/-! Rules14: x.index(y) of lists and tuples. -/
set_option Elab.async false
set_option linter.all false
set_option maxRecDepth 100000
set_option maxHeartbeats 4000000
namespace Sw
open PySem PySem.Spec PyProof.Rows L2
variable [LamT]
theorem toPs_get {xs : List D} {j : Nat} {d : D} (h : xs[j]? = some d) : (toPs xs)[j]? = some (toP d) := by rw [toPs_map, List.getElem?_map, h]; rfl
theorem toPs_get2 {xs : List D} {j : Nat} {z : PyData} (h : (toPs xs)[j]? = some z) : ∃ d, xs[j]? = some d ∧ z = toP d := by
  rw [toPs_map, List.getElem?_map] at h
  cases hx : xs[j]? with
  | none => rw [hx] at h; cases h
  | some d => rw [hx] at h; cases h; exact ⟨d, rfl, rfl⟩
theorem find_spec {xs : List D} {x : D} {j : Nat} (h : (xs.findIdx? fun y => y.eqv x) = some j) : ∃ z, xs[j]? = some z ∧ z.eqv x = true ∧ ∀ m z', m < j → xs[m]? = some z' → z'.eqv x = false := by
  rw [List.findIdx?_eq_some_iff_getElem] at h
  obtain ⟨h1, h2, h3⟩ := h
  refine ⟨xs[j], List.getElem?_eq_getElem h1, h2, fun m z' hm hz => ?_⟩
  have hl : m < xs.length := by omega
  rw [List.getElem?_eq_getElem hl] at hz
  cases hz
  simpa using h3 m hm
section
variable {X : Cx}
theorem line_pos (hu : X.A.units + 66 < cLine) : X.A.units + 65 < cLine := by omega
theorem first_ok {zs : List D} {y : D} {j : Nat} (h : firstIx zs y = some j) : y.ok = true ∧ zs.all D.ok = true ∧ ∃ z, zs[j]? = some z ∧ z.eqv y = true ∧ ∀ m z', m < j → zs[m]? = some z' → z'.eqv y = false := by
  unfold firstIx at h
  split at h
  · rename_i hok
    rw [Bool.and_eq_true] at hok
    exact ⟨hok.1, hok.2, find_spec h⟩
  · cases h
theorem m_index (hu : X.A.units + 66 < cLine) : MtR X "list.index" (VM X.K X.mg mIndexL) := by
  intro pins s σ H x xs v us Q I rx rxs ⟨B, φ, st, d, ds, z, st', rs, r, rr, hz, fin⟩
  unfold mIndexL at hz
  split at hz
  · rename_i y
    cases hs : lstOf st d with
    | none => rw [hs] at hz; cases hz
    | some zs =>
      rw [hs, Option.bind_some] at hz
      cases hj : firstIx zs y with
      | none => rw [hj] at hz; cases hz
      | some j =>
        rw [hj] at hz
        cases hz
        obtain ⟨ok1, hall, w, h1, h2, h3⟩ := first_ok hj
        obtain ⟨a, vs, rfl, q, sq⟩ := lst_cases rs r hs
        obtain ⟨u, rfl, ru⟩ := args1 rr
        have q1 := RD.dp (n := 60) ru ok1
        have hall : (zs.all (okd 60)) = true := hall
        have q2 := RDs.dp q hall
        have sl : SeqAt.shaped (.list (toPs zs)) = true := by
          unfold SeqAt.shaped
          have : (PyData.list (toPs zs)).canLay0 = true := by simp only [PyData.canLay0]; exact q2.2
          rw [this, Bool.true_and]
          refine decide_eq_true ?_
          have := depth_all hall
          simp only [PyData.depth]
          omega
        exact mt_indexD (line_pos hu) pins s σ H _ _ v us Q I rx rxs ⟨a, u, toP y, toPs zs, j, toP w, rfl, rfl, .lst (SqL.of sq) q2.1, q1.1, sl, shaped_toP (by decide) ok1 q1.2, toPs_get h1, by
          rw [eqv_toP 60 _ _ (List.all_eq_true.mp hall w (List.mem_of_getElem? h1)) ok1]; exact h2, fun m z' hm hz' => by
          obtain ⟨d', g1, rfl⟩ := toPs_get2 hz'
          rw [eqv_toP 60 _ _ (List.all_eq_true.mp hall d' (List.mem_of_getElem? g1)) ok1]; exact h3 m d' hm g1, fin0 rs fin (.int _)⟩
  · cases hz
/-- t.index(x), of data of any depth -/
theorem m_indexT (hu : X.A.units + 66 < cLine) : MtR X "tuple.index" (VM X.K X.mg mIndexT) := by
  intro pins s σ H x xs v us Q I rx rxs ⟨B, φ, st, d, ds, z, st', rs, r, rr, hz, fin⟩
  unfold mIndexT at hz
  split at hz
  · rename_i y
    split at hz
    · rename_i zs
      cases hj : firstIx zs y with
      | none => rw [hj] at hz; cases hz
      | some j =>
        rw [hj] at hz
        cases hz
        obtain ⟨ok1, hall, w, h1, h2, h3⟩ := first_ok hj
        cases r with | @tup p0 vs _ sq q =>
        cases rx
        obtain ⟨u, rfl, ru⟩ := args1 rr
        have q1 := RD.dp (n := 60) ru ok1
        have hall : (zs.all (okd 60)) = true := hall
        have q2 := RDs.dp q hall
        obtain ⟨uy, rfl, ry⟩ := vals1 rxs
        obtain ⟨bs, rdy⟩ := Dp.reads I (toP y) u uy q1.1 ry
        obtain ⟨its, rv, ⟨⟨cls, dd, data, sls⟩, ho, hc, n, hdt⟩, hlen⟩ := I.tuple sq.t
        simp only at hc hdt
        subst hc hdt
        obtain ⟨as, h4⟩ := Dp.readsAll I (toPs zs) _ its q2.1 rv
        have hmap : its.map (SeqAt.readOf s.heap) = toPs zs := SeqAt.readsAll_map (toPs zs) its as q2.2 h4
        have hn : its.length = zs.length := by
          have := congrArg List.length hmap
          rw [List.length_map, toPs_map, List.length_map] at this
          exact this
        have hjz := (List.getElem?_eq_some_iff.mp h1).1
        have hj' : j < its.toArray.size := by rw [List.size_toArray, hn]; exact hjz
        have at_ : ∀ (m : Nat) (hm : m < its.toArray.size) (d' : D), zs[m]? = some d' → PyData.eqv (SeqAt.readOf s.heap its.toArray[m]) (toP y) = d'.eqv y := fun m hm d' hd' => by
          have hml : m < its.length := by simpa using hm
          have e0 := toPs_get hd'
          rw [← hmap, List.getElem?_map, List.getElem?_eq_getElem hml] at e0
          have e1 : SeqAt.readOf s.heap its[m] = toP d' := Option.some.inj e0
          have e2 : its.toArray[m] = its[m] := by simp
          rw [e2, e1]
          exact eqv_toP 60 _ _ (List.all_eq_true.mp hall d' (List.mem_of_getElem? hd')) ok1
        have room : X.A.units + 1 + min (PyData.depthAll (toPs zs)) (toP y).depth < cLine := by
          have a1 := depth_toP 60 y ok1
          have a2 : min (PyData.depthAll (toPs zs)) (toP y).depth ≤ 60 := Nat.le_trans (Nat.min_le_right _ _) a1
          omega
        refine call_meets PySem.F.slot_tuple_index ⟨_, ho, rfl⟩ PySem.F.entry_tuple_index (PySem.F.args_tuple_index_2 _ _)
          (TI.tuple_indexAt p0 its.toArray n dd sls uy (fun u => PyData.eqv (SeqAt.readOf s.heap u) (toP y)) j hj' ?_ ?_) ⟨ho, SeqAt.items_eqAt (vs := its.toArray) (by simpa using h4) rdy q2.2 q1.2 room, ?_⟩
        · rw [at_ j hj' w h1]; exact h2
        · intro m hm hmj
          have hmz : m < zs.length := by omega
          rw [at_ m hm _ (List.getElem?_eq_getElem hmz)]
          exact h3 m _ hmj (List.getElem?_eq_getElem hmz)
        · exact ⟨.int (j : Nat), H, I.tok _, ⟨_, rfl⟩, fin0 rs fin (.int _)⟩
    · cases hz
  · cases hz
theorem tup_plain {pins : List (Addr × Obj)} {σ : L2.St} {H : Hp} {s : Shared} {p : Addr} {xs : List V} (I : Inv X pins σ H s) (h : SqP X.K H p xs) : s.TypeIs (.ref p) "tuple" ∧ ∀ a, Value.ref p = .ref a → ∃ ob, s.heap.get? a = some ob ∧ ob.dict = none := by
  rcases h with ⟨o, h1, h2, h3⟩ | ⟨o, its, n, h1, h2, h3, _⟩
  · have q : ObjOk X.prog X.w H s.heap p (.frz o (.tup xs)) := I.hok p _ h1
    obtain ⟨q1, _⟩ := q
    exact ⟨⟨o, q1, h3⟩, fun a e => by cases e; exact ⟨o, q1, h2⟩⟩
  · exact ⟨⟨o, I.kIn _ _ h1, h2⟩, fun a e => by cases e; exact ⟨o, I.kIn _ _ h1, h3⟩⟩
variable {o e : Expr} {es : List Expr} {to : TE} {t : TA} {apos cpos : Pos} {name : Str} {id : String} {r : V → List V → Hp → VK → Prop} {co : Ex} {cs : Ax}
/-- a method of a tuple -/
theorem pe_tm (slot : Slot "tuple" name id) (hty : typeOf (.builtin id) = pure (.type "method_descriptor")) (hm : MtR X id r) (ho : PE X o to) (ha : PA X (e :: es) t)
    (hbase : attributeBase o name X.env (eval o X.env) = eval o X.env := by rfl)
    (hfew : ((backTo cpos (starEach (e :: es) X.env)).all (fun x => !x.1) && (backToKw cpos (keywordEach [] X.env)).all (fun x => x.1.isSome)
      && decide ((e :: es).length + ([] : List Keyword).length + (if ([] : List Keyword).isEmpty then 0 else 1) < 30)) = true := by rfl)
    (hline : (apos.endLine == cpos.line) = true := by rfl) (hs : starEach (e :: es) X.env = (false, eval e X.env) :: starEach es X.env := by rfl) (hplain : (backTo cpos (starEach es X.env)).any (·.1) = false := by rfl) :
    PE X (.Call (.Attribute o name apos) (e :: es) [] cpos) (fun σ H Q => to σ H fun x H1 => (∃ p xs, x = .ref p ∧ SqP X.K H1 p xs) ∧ t σ H1 fun xs H2 => r x xs H2 Q) := ⟨fun pins s σ H Q I h => by
  refine wpAny_Call_method_late hbase hfew hline rfl (thn (ho.run pins s σ H _ I h) fun v s1 ⟨x, H1, I1, r1, ⟨p, xs, ep, sq⟩, q1⟩ => ?_)
  subst ep
  cases r1
  obtain ⟨h1, h2⟩ := tup_plain I1 sq
  refine ⟨"tuple", id, PySem.F.plainAttrs_tuple, slot, hty, h1, h2, ?_⟩
  have hA := ha.run cpos pins s1 σ H1 _ I1 q1
  rw [hs] at hA ⊢
  exact Calls.callWith_builtin (by show (false || (backTo cpos (starEach es X.env)).any (·.1)) = false; rw [hplain]; rfl) (Calls.evalArgs_plain (thn hA fun us s2 ⟨vs, H2, I2, r2, q2⟩ => hm pins s2 σ H2 (.ref p) vs _ us Q I2 rfl r2 q2))⟩
theorem TrK.methT {K : Frag} {mg : Str → Option Value} {W : WX} {σ : L2.St} {H : Hp} {v : V} {g : Store → D → List D → Option (D × Store)} {Q : VK}
    (h : TrK K mg (RD K) (RD K) (fun x => (look fun st => if tyN st x = some "tuple" then some () else none : Act Unit).bind fun _ => cs.bind fun xs => fun _ st => (g st x xs).map fun p => (.ok p.1, p.2)) W v σ H Q) :
    (∃ p xs, v = .ref p ∧ SqP K H p xs) ∧ Tr K mg (RDs K) cs W σ H fun xs H2 => VM K mg g v xs H2 Q := by
  obtain ⟨B, φ, e, st, d, r, st', re, rs, r1, hc, fin⟩ := h
  unfold Act.bind at hc
  dsimp only at hc
  cases hl : (look fun st => if tyN st d = some "tuple" then some () else none : Act Unit) e st with
  | none => rw [hl] at hc; cases hc
  | some p =>
    obtain ⟨q, st1⟩ := p
    obtain ⟨z, rfl, rfl, hz⟩ := look_eq hl
    rw [hl] at hc
    dsimp only at hc
    have ty : tyN st1 d = some "tuple" := by
      by_cases h : tyN st1 d = some "tuple"
      · exact h
      · rw [if_neg h] at hz; cases hz
    refine ⟨?_, ?_⟩
    · cases r1 with
      | tup sq _ => exact ⟨_, _, rfl, sq⟩
      | loc e =>
        rename_i a n
        unfold tyN at ty
        dsimp only at ty
        split at ty <;> first | (injection ty with ty; exact absurd ty (by decide)) | cases ty
      | _ => first | (injection ty with ty; exact absurd ty (by decide)) | cases ty
    · cases ha : cs e st1 with
      | none => rw [ha] at hc; cases hc
      | some p2 =>
        obtain ⟨q2, st2⟩ := p2
        rw [ha] at hc
        cases q2 with
        | error x =>
          cases hc
          exact ⟨B, φ, e, _, _, _, re, rs, ha, fin⟩
        | ok xs =>
          dsimp only at hc
          cases hg : g st2 d xs with
          | none => rw [hg] at hc; cases hc
          | some pz =>
            obtain ⟨z2, st3⟩ := pz
            rw [hg] at hc
            cases hc
            exact Tr.noX re rs ha fun ws B' φ' H' g' rs' rw' => ⟨B', φ', st2, d, xs, z2, st3, rs', RD.go rs g' r1, rw', hg, fun v B2 φ2 H2 g2 rs2 r2 => fin v B2 φ2 H2 (g'.trans g2) rs2 r2⟩
theorem meth2_cases {K : Frag} {mg : Str → Option Value} {W : WX} {σ : L2.St} {H : Hp} {gl gt : Store → D → List D → Option (D × Store)} {Q : VK} (h : Tr K mg (RD K) (eMeth2 gl gt co cs) W σ H Q) :
    Tr K mg (RD K) (eMeth "list" gl co cs) W σ H Q ∨ Tr K mg (RD K) (eMeth "tuple" gt co cs) W σ H Q := by
  obtain ⟨B, φ, e, st, r, st', re, rs, hc, fin⟩ := h
  have key : (eMeth "list" gl co cs e st = some (r, st')) ∨ (eMeth "tuple" gt co cs e st = some (r, st')) := by
    unfold eMeth2 Act.bind at hc
    unfold eMeth Act.bind
    cases ha : co e st with
    | none => first | (rw [ha] at hc; cases hc) | cases hc
    | some p =>
      obtain ⟨q, st1⟩ := p
      try rw [ha] at hc
      cases q with
      | error x => exact .inl hc
      | ok d =>
        cases d with
        | tup xs => exact .inr hc
        | _ => exact .inl hc
  exact key.imp (fun k => ⟨B, φ, e, st, r, st', re, rs, k, fin⟩) fun k => ⟨B, φ, e, st, r, st', re, rs, k, fin⟩
/-- x.index(y), x a list or a tuple -/
theorem re_index (hu : X.A.units + 66 < cLine) (ho : RE X o co) (ha : RA X (e :: es) cs)
    (hbase : attributeBase o "index" X.env (eval o X.env) = eval o X.env := by rfl)
    (hfew : ((backTo cpos (starEach (e :: es) X.env)).all (fun x => !x.1) && (backToKw cpos (keywordEach [] X.env)).all (fun x => x.1.isSome)
      && decide ((e :: es).length + ([] : List Keyword).length + (if ([] : List Keyword).isEmpty then 0 else 1) < 30)) = true := by rfl)
    (hline : (apos.endLine == cpos.line) = true := by rfl) (hs : starEach (e :: es) X.env = (false, eval e X.env) :: starEach es X.env := by rfl) (hplain : (backTo cpos (starEach es X.env)).any (·.1) = false := by rfl) :
    RE X (.Call (.Attribute o "index" apos) (e :: es) [] cpos) (eMeth2 mIndexL mIndexT co cs) := fun W tk =>
  ((re_bm PySem.F.plainAttrs_list PySem.F.slot_list_index PySem.F.type_list_index (by decide) (m_index hu) ho ha hbase hfew hline hs hplain W tk).or
    ((pe_tm PySem.F.slot_tuple_index PySem.F.type_tuple_index (m_indexT hu) (ho W tk) (ha W tk) hbase hfew hline hs hplain).imp (t' := Tr X.K X.mg (RD X.K) (eMeth "tuple" mIndexT co cs) W) fun σ H Q h => (Tr.bind h).mono fun v H1 h1 => h1.methT)).imp fun σ H Q h => meth2_cases h
end
end Sw

/-! Rules15: dict(zip(a, b)). -/
set_option Elab.async false
set_option linter.all false
set_option maxRecDepth 100000
set_option maxHeartbeats 4000000
namespace Sw
open PySem PySem.Spec PyProof.Rows L2
variable [LamT]
section
variable {X : Cx} {a b : Expr} {ta : TA} {pos p p2 q : Pos}
theorem pe_dictzip (hc : X.calm = true) (hg : Gl X "dict") (hm : X.mg "dict" = none) (hg2 : Gl X "zip") (hm2 : X.mg "zip" = none) (ha : PA X [a, b] ta)
    (hs : starEach [a, b] X.env = (false, eval a X.env) :: starEach [b] X.env := by rfl) (hpl : (backTo q (starEach [b] X.env)).any (·.1) = false := by rfl)
    (hs2 : starEach [.Call (.Name "zip" p2) [a, b] [] q] X.env = (false, eval (.Call (.Name "zip" p2) [a, b] [] q) X.env) :: starEach [] X.env := by rfl) :
    PE X (.Call (.Name "dict" p) [.Call (.Name "zip" p2) [a, b] [] q] [] pos) (fun σ H Q => ta σ H fun vs H1 => ∃ (l m : Addr) (ks : List Key) (ys : List V), vs = [.ref l, .ref m] ∧ SqL X.K H1 l (ks.map kV) ∧ SqL X.K H1 m ys ∧ ∀ p, H1 p = none → Q (.ref p) (upd H1 p (.dK (mergeK [] (ks.zip ys))))) := by
  refine ⟨fun pins s σ H Q I h => ?_⟩
  refine Call_ (ld_blt I hg hm PyProof.Rows.boot_dict ?_)
  refine PyProof.Rows.callWith_type1 (PyProof.Rows.args_cons ?_ hs2) hs2 rfl
  refine Call_ (ld_blt I hg2 hm2 PyProof.Rows.boot_zip (PyProof.Rows.callWith_type1 (thn (ha.run q pins s σ H _ I h) fun us s1 ⟨vs, H1, I1, r1, q1⟩ => ?_) hs hpl))
  obtain ⟨l, m, ks, ys, ex, hl, hm', q1⟩ := q1
  subst ex
  have hh := I1.ok.hd hc
  cases r1 with
  | cons r rr =>
    cases rr with
    | cons r' rr =>
      cases rr
      cases r
      cases r'
      obtain ⟨its, rv, p1, hz1⟩ := I1.list hl
      obtain ⟨its2, rv2, p2, hz2⟩ := I1.list hm'
      refine call_zip_2 p1.isList p2.isList fun h' hz hTI hTO h1 h2 hsz hk => PyProof.Rows.args_nil ?_
      have I2 : Inv X pins σ H1 { s1 with heap := h' } := I1.kept (t' := s1.toks) hk
      have hkey : ∀ (i : Nat) (u : Value), its[i]? = some u → ∃ k, ks[i]? = some k ∧ keyIs k u = true := fun i u hu => by
        obtain ⟨v, hv, rv1⟩ := paired_back rv hu
        rw [List.getElem?_map] at hv
        cases hk' : ks[i]? with
        | none => rw [hk'] at hv; cases hv
        | some k =>
          rw [hk'] at hv
          cases hv
          exact ⟨k, rfl, kV_is (P := X.prog) (w := X.w) rv1⟩
      have hl1 : its.length = ks.length := by rw [← rv.length, List.length_map]
      refine PySem.call_dict_pairs (s := { s1 with heap := h' }) (A := X.A) (knd := mixKind X.prog X.w) (kvs := ks.zip its2) (PairArg.zip _ _ _ _ _ l m (PySem.W.ktu_apart s1.heap.objs.size l m p1.lt p2.lt) its.toArray its2.toArray) hh
        ⟨hz, hTI, ⟨_, _, hTO⟩, h1, h2, p1.isList.at fun o e => hk _ o e, p2.isList.at fun o e => hk _ o e⟩ ⟨?_, fun i key v ⟨e1, e2⟩ => ?_⟩ ?_ fun h2' tk hd' k => ?_
      · rw [List.length_zip, List.size_toArray, List.size_toArray, hl1]
      · obtain ⟨k, hk1, hk2⟩ := hkey i key (by simpa using e1)
        refine ⟨k, ?_, hk2⟩
        rw [List.getElem?_zip_eq_some]
        exact ⟨hk1, by simpa using e2⟩
      · rw [List.size_toArray, List.size_toArray, ← rv.length]
        exact Nat.le_trans (Nat.min_le_left _ _) hz1
      · have hk2 : ∀ d o, s1.heap.get? d = some o → h2'.get? d = some o := fun d o e => by
          have hd := Heap.lt_size e
          refine k d o (fun hw => ?_) (hk d o e)
          simp only [List.mem_cons, List.not_mem_nil, or_false] at hw
          rcases hw with z | z | z | z <;> first | exact absurd z (Nat.ne_of_lt (Nat.lt_of_lt_of_le hd (Nat.le_add_right _ _))) | exact absurd z (Nat.ne_of_lt hd)
        have hL : s1.heap.objs.size ≤ h'.objs.size := by rw [hsz]; exact Nat.le_add_right _ _
        have hbig : (h'.objs.size == sysModules) = false := beq_eq_false_iff_ne.mpr (Nat.ne_of_gt (Nat.lt_of_lt_of_le I1.big hL))
        have hlen : (mergeK [] (ks.zip ys)).length ≤ sizeLine := by
          refine Nat.le_trans (length_mergeK _ []) ?_
          rw [List.length_nil, Nat.zero_add, List.length_zip]
          rw [List.length_map] at hz1
          exact Nat.le_trans (Nat.min_le_left _ _) hz1
        have rel : KV (ks.zip ys) (ks.zip its2) := by
          have go : ∀ (ks : List Key) {ys : List V} {its2 : List Value}, Vals ys its2 → KV (ks.zip ys) (ks.zip its2) := fun ks => by
            induction ks with
            | nil => intro ys its2 _; simp only [List.zip_nil_left]; exact .nil
            | cons k ks ih =>
              intro ys its2 r
              cases r with
              | nil => simp only [List.zip_nil_right]; exact .nil
              | cons r1 r2 => simp only [List.zip_cons_cons]; exact .cons ⟨rfl, r1⟩ (ih r2)
          exact go ks rv2
        exact ⟨.ref h'.objs.size, upd H1 h'.objs.size (.dK (mergeK [] (ks.zip ys))), I1.laid (t' := tk) hk2 hL (show ObjOk X.prog X.w _ _ _ (.dK (mergeK [] (ks.zip ys))) from ⟨hlen, hbig, merged [] (ks.zip its2), KV.merge rel .nil, hd'⟩), rfl, q1 _ (I1.hok.fresh hL)⟩
theorem op2S_tr {K : Frag} {mg : Str → Option Value} {W : WX} {σ : L2.St} {H : Hp} {x y : V} {g : Store → D → D → Option (D × Store)} {Q : VK} (h : TrK K mg (R2x (RD K) (RD K)) (RD K) (fun p => fun _ st => (g st p.1 p.2).map fun p => (.ok p.1, p.2)) W (x, y) σ H Q) :
    ∃ B φ st d e z st', RS K mg B φ H st ∧ RD K B φ H x d ∧ RD K B φ H y e ∧ g st d e = some (z, st') ∧ ∀ v B' φ' H', Go φ B H φ' B' H' → RS K mg B' φ' H' st' → RD K B' φ' H' v z → Q v H' := by
  obtain ⟨B, φ, e, st, d, r, st', re, rs, r1, hc, fin⟩ := h
  dsimp only at hc
  cases hg : g st d.1 d.2 with
  | none => rw [hg] at hc; cases hc
  | some p =>
    rw [hg] at hc
    cases hc
    exact ⟨B, φ, st, d.1, d.2, p.1, p.2, rs, r1.1, r1.2, hg, fin⟩
theorem keys_of {K : Frag} {B : Addr → Prop} {φ : List Addr} {H : Hp} : ∀ {vs : List V} {xs : List D}, RDs K B φ H vs xs → xs.all isKey = true → ∃ ks : List Key, vs = ks.map kV ∧ xs = ks.map keyD ∧ ∀ k ∈ ks, okKD (keyD k)
  | _, _, .nil, _ => ⟨[], rfl, rfl, by simp⟩
  | _, _, .cons (v := v) (d := d) r t, h => by
    simp only [List.all_cons, Bool.and_eq_true] at h
    obtain ⟨ks, e1, e2, e3⟩ := keys_of t h.2
    cases d with
    | int i =>
      cases r
      exact ⟨.inl i :: ks, by rw [e1]; rfl, by rw [e2]; rfl, fun k hk => by
        rcases List.mem_cons.mp hk with z | z
        · rw [z]; exact trivial
        · exact e3 k z⟩
    | str x =>
      cases r with
      | str _ ok =>
        exact ⟨.inr x :: ks, by rw [e1]; rfl, by rw [e2]; rfl, fun k hk => by
          rcases List.mem_cons.mp hk with z | z
          · rw [z]; exact ok
          · exact e3 k z⟩
    | _ => cases h.1
theorem rkv_mk {K : Frag} {B : Addr → Prop} {φ : List Addr} {H : Hp} : ∀ {ks : List Key} {ws : List V} {ys : List D} {acc : List (Key × V)} {accD : List (D × D)}, (∀ k ∈ ks, okKD (keyD k)) → RDs K B φ H ws ys → RKv K B φ H keyD acc accD →
    RKv K B φ H keyD ((ks.zip ws).foldl (fun acc kv => putK acc kv.1 kv.2) acc) (((ks.map keyD).zip ys).foldl (fun acc p => putKv acc p.1 p.2) accD)
  | [], _, _, _, _, _, _, r => r
  | _ :: _, _, _, _, _, _, .nil, r => by simp only [List.zip_nil_right]; exact r
  | k :: ks, _, _, _, _, ok, .cons r1 t, r => by
    simp only [List.map_cons, List.zip_cons_cons, List.foldl_cons]
    exact rkv_mk (fun k' h => ok k' (List.mem_cons_of_mem _ h)) t (r.put (ok k (by simp)) r1)
variable {ca cb : Ex}
theorem re_dictzip (hc : X.calm = true) (hg : Gl X "dict") (hm : X.mg "dict" = none) (hg2 : Gl X "zip") (hm2 : X.mg "zip" = none) (ha : RE X a ca) (hb : RE X b cb)
    (hs : starEach [a, b] X.env = (false, eval a X.env) :: starEach [b] X.env := by rfl) (hsb : starEach [b] X.env = (false, eval b X.env) :: starEach [] X.env := by rfl) (hpl : (backTo q (starEach [b] X.env)).any (·.1) = false := by rfl)
    (hs2 : starEach [.Call (.Name "zip" p2) [a, b] [] q] X.env = (false, eval (.Call (.Name "zip" p2) [a, b] [] q) X.env) :: starEach [] X.env := by rfl) :
    RE X (.Call (.Name "dict" p) [.Call (.Name "zip" p2) [a, b] [] q] [] pos) (op2S vDictZip ca cb) := fun W tk =>
  (pe_dictzip hc hg hm hg2 hm2 (pa_cons (ha W tk) (pa_cons (hb W tk) pa_nil hsb) hs) hs hpl hs2).imp fun σ H Q h => (Tr.bind h).mono fun x H1 h1 => (TrK.bind mono_d h1).mono fun y H2 h2 => by
    obtain ⟨B, φ, st, d, e, z, st', rs, r1, r2, hz, fin⟩ := op2S_tr h2
    unfold vDictZip at hz
    cases hx : lstOf st d with
    | none => rw [hx] at hz; cases hz
    | some xs =>
      rw [hx, Option.bind_some] at hz
      cases hy : lstOf st e with
      | none => rw [hy] at hz; cases hz
      | some ys =>
        rw [hy, Option.bind_some] at hz
        split at hz
        · rename_i hk
          cases hz
          obtain ⟨l, vs, rfl, q1, s1⟩ := lst_cases rs r1 hx
          obtain ⟨m, ws, rfl, q2, s2⟩ := lst_cases rs r2 hy
          obtain ⟨ks, e1, e2, e3⟩ := keys_of q1 hk
          subst e1 e2
          refine ⟨l, m, ks, ws, rfl, SqL.of s1, SqL.of s2, fun p hp => ?_⟩
          obtain ⟨rs', g⟩ := rs.newCell (p := p) (o := .dK (mergeK [] (ks.zip ws))) (c := .dct (mkKv ((ks.map keyD).zip ys))) hp trivial fun H1 f e => ⟨_, e, rkv_mk e3 (RDs.map f q2) .nil⟩
          refine fin _ _ _ _ g rs' (.loc ?_)
          rw [List.getElem?_append_right (by rw [rs.len]; exact Nat.le_refl _), rs.len]
          simp
        · cases hz
end
end Sw

/-! SetK: set(xs) of a list of ints and texts; membership and number alone. -/
set_option Elab.async false
set_option linter.all false
set_option maxRecDepth 100000
set_option maxHeartbeats 4000000
namespace Sw
variable [LamT]
def dedupG {α : Type} [DecidableEq α] (xs : List α) : List α := xs.foldl (fun acc x => if x ∈ acc then acc else acc ++ [x]) []
theorem dedupG_foldl {α : Type} [DecidableEq α] : ∀ (xs acc : List α) (k : α), k ∈ xs.foldl (fun acc x => if x ∈ acc then acc else acc ++ [x]) acc ↔ k ∈ acc ∨ k ∈ xs
  | [], acc, k => by simp
  | x :: xs, acc, k => by
    rw [List.foldl_cons, dedupG_foldl xs, List.mem_cons]
    split
    · rename_i h
      constructor
      · rintro (z | z)
        · exact .inl z
        · exact .inr (.inr z)
      · rintro (z | rfl | z)
        · exact .inl z
        · exact .inl h
        · exact .inr z
    · rw [List.mem_append, List.mem_singleton, or_assoc]
theorem mem_dedupG {α : Type} [DecidableEq α] (xs : List α) (k : α) : k ∈ dedupG xs ↔ k ∈ xs := by
  unfold dedupG
  rw [dedupG_foldl]; simp
theorem dedupG_snoc {α : Type} [DecidableEq α] (xs : List α) (x : α) : dedupG (xs ++ [x]) = if x ∈ xs then dedupG xs else dedupG xs ++ [x] := by
  have h : dedupG (xs ++ [x]) = if x ∈ dedupG xs then dedupG xs else dedupG xs ++ [x] := by
    unfold dedupG
    rw [List.foldl_append]; rfl
  rw [h]
  by_cases hx : x ∈ xs
  · rw [if_pos hx, if_pos ((mem_dedupG xs x).mpr hx)]
  · rw [if_neg hx, if_neg (fun z => hx ((mem_dedupG xs x).mp z))]
theorem dedupG_len {α : Type} [DecidableEq α] (xs : List α) : (dedupG xs).length ≤ xs.length := by
  have go : ∀ (xs acc : List α), (xs.foldl (fun acc x => if x ∈ acc then acc else acc ++ [x]) acc).length ≤ acc.length + xs.length := fun xs => by
    induction xs with
    | nil => intro acc; simp
    | cons x xs ih =>
      intro acc
      rw [List.foldl_cons]
      refine Nat.le_trans (ih _) ?_
      split <;> simp <;> omega
  have := go xs []
  unfold dedupG
  simpa using this
def dgF {α : Type} [DecidableEq α] (acc xs : List α) : List α := xs.foldl (fun acc x => if x ∈ acc then acc else acc ++ [x]) acc
theorem dgF_nil {α : Type} [DecidableEq α] (acc : List α) : dgF acc [] = acc := rfl
theorem dedupG_eq {α : Type} [DecidableEq α] (xs : List α) : dedupG xs = dgF [] xs := rfl
def memK {α : Type} [DecidableEq α] (x : α) (l : List α) : Bool := decide (x ∈ l)
theorem memK_iff {α : Type} [DecidableEq α] {x : α} {l : List α} : memK x l = true ↔ x ∈ l := by unfold memK; exact decide_eq_true_iff
theorem memK_snoc {α : Type} [DecidableEq α] (x y : α) (l : List α) : memK x (l ++ [y]) = (memK x l || decide (x = y)) := by
  unfold memK; simp [List.mem_append]
theorem dgF_cons {α : Type} [DecidableEq α] (acc : List α) (x : α) (xs : List α) : dgF acc (x :: xs) = if memK x acc = true then dgF acc xs else dgF (acc ++ [x]) xs := by
  unfold dgF
  rw [List.foldl_cons]
  by_cases h : x ∈ acc
  · rw [if_pos h, if_pos (memK_iff.mpr h)]
  · rw [if_neg h, if_neg (fun z => h (memK_iff.mp z))]
theorem dedupG_snocK {α : Type} [DecidableEq α] (xs : List α) (x : α) : (dedupG (xs ++ [x])).length = if memK x xs = true then (dedupG xs).length else (dedupG xs).length + 1 := by
  rw [dedupG_snoc]
  by_cases h : x ∈ xs
  · rw [if_pos h, if_pos (memK_iff.mpr h)]
  · rw [if_neg h, if_neg (fun z => h (memK_iff.mp z))]; simp
end Sw
namespace Sw.SK
variable [LamT]
open PySem PySem.Spec PyProof.Rows L2
theorem setOf_congr {P : Program} {w : World} {h : Heap} {a : Addr} {S S' : Key → Bool} {n n' : Nat} (hS : h.SetOf (mixKind P w) a S n) (e : ∀ k, S k = S' k) (en : n = n') : h.SetOf (mixKind P w) a S' n' := by
  have : S = S' := funext e
  subst this; subst en; exact hS
section
variable {P : Program} {w : World} {A : Around} {E : Value → Shared → Prop} {s : Shared}
theorem set_update_keys {I : Addr} {fp wr : List Addr} {G : Array GenState → Array GenState → Prop} {n : Nat} {Pv : Nat → Value → Prop} {St : Nat → Shared → Prop} {R : Result → Shared → Prop}
    (W : WalksS P w A.in1 I fp wr G n Pv St) (S : Addr) (hSf : S ∉ fp) (ks : List Key) (hn : n = ks.length) (hb : ks.length + 1 < scanBound) (hval : ∀ i v, Pv i v → ∃ k, ks[i]? = some k ∧ (mixKind P w).is k v = true ∧ v.scannable = true) :
    ∀ (k i : Nat) (s : Shared), n - i = k → i ≤ n → St i s → s.heap.SetOf (mixKind P w) S (fun j => memK j (ks.take i)) (dedupG (ks.take i)).length →
      (∀ s', Moved (S :: wr) G s s' → s'.heap.SetOf (mixKind P w) S (fun j => memK j ks) (dedupG ks).length → R (.ok (.ret .none)) s') →
      codeAny (model P w) A (.builtin "set.update.loop" ⟨[.ref S, .ref I], []⟩) R s := by
  have hSw : S ∉ wr := fun h => hSf (W.sub _ h)
  have hsub : ∀ b ∈ wr, b ∈ S :: wr := fun b hb => List.mem_cons_of_mem _ hb
  intro k
  induction k with
  | zero =>
    intro i s hk' hi hst hS hR
    have hin : i = n := by omega
    subst hin
    refine codeAny_builtin F.entry_set_update_loop ?_
    rw [Around.under_plainId F.plain_set_update_loop _]
    show wpAny _ A.in1 (pyNext (.ref I) >>= _) _ _ s
    refine wpAny_bind (W.done s _ _ hst fun s' hm => ?_)
    show wpAny _ A.in1 (ret Value.none) _ _ s'
    have e : ks.take i = ks := List.take_of_length_le (by omega)
    rw [e] at hS
    exact wpAny_pure (hR s' (hm.mono hsub) (setOf_at hS fun o e => hm.heap S o hSw e))
  | succ k ih =>
    intro i s hk' hi hst hS hR
    have hlt : i < n := by omega
    refine codeAny_builtin F.entry_set_update_loop ?_
    rw [Around.under_plainId F.plain_set_update_loop _]
    show wpAny _ A.in1 (pyNext (.ref I) >>= _) _ _ s
    refine wpAny_bind (W.item i s _ _ hlt hst fun v s' hP hst' hm => ?_)
    obtain ⟨z, hz, hkey, hsc⟩ := hval i v hP
    have hS' : s'.heap.SetOf (mixKind P w) S (fun j => memK j (ks.take i)) (dedupG (ks.take i)).length := setOf_at hS fun o e => hm.heap S o hSw e
    show wpAny _ A.in1 (holding [v] (setAdd S v) >>= _) _ _ s'
    refine wpAny_bind (wpAny_holding ?_)
    unfold setAdd
    refine wpAny_holding ?_
    refine wpAny_bind ((mixKind P w).pyHash (k := z) hkey ?_)
    have hle : (dedupG (ks.take i)).length ≤ i := Nat.le_trans (dedupG_len _) (by rw [List.length_take]; omega)
    refine wpAny_setAddHashed_of (knd := mixKind P w) (s := { s' with toks := s'.toks + 1 }) hkey hsc hS' (by omega) fun h' hsb hS2 => ?_
    have e1 : ks.take (i + 1) = ks.take i ++ [z] := by
      rw [List.take_add_one, hz]; rfl
    have hS3 : h'.SetOf (mixKind P w) S (fun j => memK j (ks.take (i + 1))) (dedupG (ks.take (i + 1))).length := by
      refine setOf_congr hS2 (fun j => ?_) ?_
      · rw [e1]; exact (memK_snoc j z (ks.take i)).symm
      · rw [e1]; exact (dedupG_snocK (ks.take i) z).symm
    refine wpAny_pure ⟨plainId_quiet F.plain_set_update_loop _, ih (i + 1) _ (by omega) hlt (W.frame _ s' _ _ hst' (Nat.le_succ _) fun b hb o e => ?_) hS3 fun s'' hm'' hS'' => ?_⟩
    · rw [hsb.2 b (fun h : b = S => hSf (by rw [← h]; exact hb))]; exact e
    · refine hR s'' (Moved.trans W.gtrans ((hm.mono hsub).then_heap (Nat.le_succ _) fun b o hb e => ?_) hm'') hS''
      rw [hsb.2 b (fun h : b = S => hb (by rw [h]; exact List.mem_cons_self))]; exact e
/-- what set's init does of a list -/
theorem init_list {S l : Addr} {items : Array Value} (ks : List Key) {R : Value → Shared → Prop} (hh : A.handled = none) (hS : s.heap.get? S = some (Sw.SL.stO w)) (hl : s.heap.IsList l items) (hn : items.size = ks.length) (hit : ∀ (i : Nat) (v : Value), items[i]? = some v → ∃ k, ks[i]? = some k ∧ (mixKind P w).is k v = true ∧ v.scannable = true) (hb : ks.length + 1 < scanBound) (hSl : S ≠ l) (hlt : S < s.heap.objs.size) (hll : l < s.heap.objs.size)
    (h : ∀ (h' : Heap) (tk : Nat), h'.SetOf (mixKind P w) S (fun j => memK j ks) (dedupG ks).length → (∀ b o, b ≠ S → s.heap.get? b = some o → h'.get? b = some o) → R .none { s with heap := h', toks := tk }) :
    wpAny (model P w) A (Builtin.«set.__init__» ⟨[.ref S, .ref l], []⟩) (fun fin s' => ∃ v, fin = .done (.ret v) ∧ R v s') E s := by
  have hT : s.TypeIs (.ref S) "set" := ⟨_, hS, rfl⟩
  obtain ⟨ol, hol, hcl, nl, hdl⟩ := id hl
  obtain ⟨ocls, odict, odata, oslots⟩ := ol
  simp only at hcl hdl
  subst hcl; subst hdl
  have s1 := PySem.F.sub_list_set
  have s2 := PySem.F.sub_list_frozenset
  have hne : (Value.type "list" == Value.type "dict") = false := by decide
  unfold Builtin.«set.__init__» noKeywords Builtin.Frozenset.updateFrom
  generalize hPI : pyIter = PI
  wp_walk
  subst hPI
  refine wpAny_pyIter_list hl ?_
  refine wpAny_bind (wpAny_runValue ?_)
  have hz : (s.heap.push { cls := .type "list_iterator", data := .fields #[.ref l, .int 0 0] }).objs.size = s.heap.objs.size + 1 := Heap.size_push ..
  have hh1 : A.in1.handled = none := by simp [hh]
  have hneI : l ≠ s.heap.objs.size := Nat.ne_of_lt hll
  have hSf : S ∉ [s.heap.objs.size, l] := by
    simp only [List.mem_cons, List.mem_singleton, List.not_mem_nil, or_false, not_or]
    exact ⟨Nat.ne_of_lt hlt, hSl⟩
  have new : (s.heap.push { cls := .type "list_iterator", data := .fields #[.ref l, .int 0 0] }).SetOf (mixKind P w) S (fun j => memK j (ks.take 0)) (dedupG (ks.take 0)).length :=
    ⟨_, #[], 0, _, Heap.get?_push_of_some _ hS, ⟨rfl, rfl, rfl⟩, rfl, (fun e he => by simp at he), (fun k => by rw [List.take_zero]; simp [memK]), (by decide), (by rfl), rfl⟩
  refine set_update_keys ((Walks.list hh1 _ l hneI items).toS) S hSf ks hn hb hit (items.size - 0) 0 _ (by omega) (Nat.zero_le _)
    ⟨⟨_, Heap.get?_push_size _ rfl, rfl, rfl⟩, (hl.push _)⟩ new fun s' hm hS' => ?_
  obtain ⟨h', g2, d', tk', os'⟩ := s'
  have eg : g2 = s.gens := hm.gens
  have ed : d' = s.drawn := hm.drawn
  have eo : os' = s.os := hm.os
  subst eg ed eo
  refine wpAny_pure (wpAny_pure ⟨_, rfl, h h' tk' hS' fun b o nb e => ?_⟩)
  refine hm.heap b o (fun hb2 => ?_) (Heap.get?_push_of_some _ e)
  simp only [List.mem_cons, List.not_mem_nil, or_false] at hb2
  rcases hb2 with q | q
  · exact nb q
  · exact Nat.ne_of_lt (Heap.lt_size e) q
/-- set(xs) -/
theorem call_set {l : Addr} {items : Array Value} (ks : List Key) {Q : Value → Shared → Prop} (hh : A.handled = none) (hl : s.heap.IsList l items) (hn : items.size = ks.length) (hit : ∀ (i : Nat) (v : Value), items[i]? = some v → ∃ k, ks[i]? = some k ∧ (mixKind P w).is k v = true ∧ v.scannable = true) (hb : ks.length + 1 < scanBound)
    (h : ∀ (h' : Heap) (tk : Nat), h'.SetOf (mixKind P w) s.heap.objs.size (fun j => memK j ks) (dedupG ks).length → (∀ b o, s.heap.get? b = some o → h'.get? b = some o) → Q (.ref s.heap.objs.size) { s with heap := h', toks := tk }) :
    wpAny (model P w) A (call (.type "set") [.ref l]) Q E s := by
  have ft := PySem.F.called_set
  obtain ⟨c, tl, hmro⟩ := ft.mro
  have hmade := ft.made
  have hsub := ft.sub
  have hll : l < s.heap.objs.size := by obtain ⟨_, e, _⟩ := id hl; exact Heap.lt_size e
  refine wpAny_call (codeAny_of_tree (wpAny_pure ⟨Code.quiet_builtin _ (by decide +kernel), codeAny_builtin PySem.F.entry_type_call ?_⟩))
  rw [Around.under_plain (weight_type_call_type "set" [.ref l] []) rfl]
  have q1 := ft.notType
  have q2 := ft.canCreate
  have q3 := PySem.F.typeCall_set_1 (.ref l)
  repeat (any_goals (first | assumption | wp_step))
  refine codeAny_mono (code_set_led1 (.ref l) (E := E) (Q₁ := fun obj s₁ => obj = .ref s.heap.objs.size ∧ s₁ = { s with heap := s.heap.push (Sw.SL.stO w) }) ⟨rfl, rfl⟩) fun r s₁ hr => ?_
  cases r with
  | error e => exact hr
  | ok fl =>
    cases fl with
    | ret obj =>
      obtain ⟨rfl, rfl⟩ := hr
      have hS : (s.heap.push (Sw.SL.stO w)).get? s.heap.objs.size = some (Sw.SL.stO w) := Heap.get?_push_size _ rfl
      have hT : Shared.TypeIs { s with heap := s.heap.push (Sw.SL.stO w) } (.ref s.heap.objs.size) "set" := ⟨_, hS, rfl⟩
      have q4 := ft.init.lookup
      have q5 := ft.init.bind (.ref s.heap.objs.size)
      repeat (any_goals (first | assumption | wp_step))
      have hz : (s.heap.push (Sw.SL.stO w)).objs.size = s.heap.objs.size + 1 := Heap.size_push ..
      refine codeAny_mono (codeAny_call_builtin (R := wants (fun r s₂ => r = .none ∧ Q (.ref s.heap.objs.size) s₂) E) ft.init.plain PySem.F.entry_set_init (check_set_init_1 hT ?_)) fun r₂ s₂ hr₂ => ?_
      · have it := init_list (P := P) (A := A.in1.in1) (E := E) (s := { s with heap := s.heap.push (Sw.SL.stO w) }) ks (R := fun v s' => v = .none ∧ Q (.ref s.heap.objs.size) s') (by simp [hh]) hS (hl.push _) hn hit hb (Nat.ne_of_gt hll) (by show _ < (s.heap.push (Sw.SL.stO w)).objs.size; rw [hz]; exact Nat.lt_succ_self _) (by show _ < (s.heap.push (Sw.SL.stO w)).objs.size; rw [hz]; exact Nat.lt_succ_of_lt hll)
          fun h' tk hR hk => ⟨rfl, h h' tk hR fun b o e => hk b o (Nat.ne_of_lt (Heap.lt_size e)) (Heap.get?_push_of_some _ e)⟩
        refine wpAny_mono it (fun fin s' hf => ?_) (fun _ _ e => e)
        obtain ⟨v, rfl, e1, e2⟩ := hf
        exact ⟨e1, e2⟩
      · cases r₂ with
        | error e => exact hr₂
        | ok fl₂ =>
          cases fl₂ with
          | ret r =>
            obtain ⟨rfl, hq⟩ := hr₂
            repeat (any_goals (first | assumption | wp_step))
          | _ => exact hr₂.elim
    | _ => exact hr.elim
end
section
variable {X : Cx}
/-- len(set(xs)) -/
theorem pe_lenset {a : Expr} {ta : TE} {p p2 q pos : Pos} (hc : X.calm = true) (hg : Gl X "len") (hm : X.mg "len" = none) (hg2 : Gl X "set") (hm2 : X.mg "set" = none) (ha : PE X a ta)
    (na : starEach [a] X.env = (false, eval a X.env) :: starEach [] X.env := by rfl) : PE X (.Call (.Name "len" p) [.Call (.Name "set" p2) [a] [] q] [] pos) (fun σ H Q => ta σ H fun x H1 => ∃ (l : Addr) (ks : List Key), x = .ref l ∧ SqL X.K H1 l (ks.map kV) ∧ ks.length ≤ 4000 ∧ Q (.int ((dedupG ks).length : Nat)) H1) := by
  refine ⟨fun pins s σ H Q I h => ?_⟩
  refine Call_ (ld_blt I hg hm boot_len ?_)
  refine PyProof.Rows.callWith_builtin1 (PyProof.Rows.args_cons ?_ rfl) rfl rfl
  refine Call_ (ld_blt I hg2 hm2 boot_set ?_)
  refine PyProof.Rows.callWith_type1 (PyProof.Rows.args_cons (thn (ha.run pins s σ H _ I h) fun v s1 ⟨x, H1, I1, r1, q1⟩ => PyProof.Rows.args_nil ?_) na) na rfl
  obtain ⟨l, ks, rfl, hq, hl, q1⟩ := q1
  cases r1
  obtain ⟨its, r, pl, hz⟩ := I1.list hq
  have hlen : its.toArray.size = ks.length := by rw [List.size_toArray, ← r.length, List.length_map]
  have hkey : ∀ (i : Nat) (u : Value), its.toArray[i]? = some u → ∃ k, ks[i]? = some k ∧ (mixKind X.prog X.w).is k u = true ∧ u.scannable = true := fun i u hu => by
    obtain ⟨v, hv, rv1⟩ := Sw.paired_back r (by simpa using hu)
    rw [List.getElem?_map] at hv
    cases hk' : ks[i]? with
    | none => rw [hk'] at hv; cases hv
    | some k =>
      rw [hk'] at hv
      cases hv
      exact ⟨k, rfl, kV_is (P := X.prog) (w := X.w) rv1, key_scan rv1⟩
  refine call_set ks (I1.ok.hd hc) pl.isList hlen hkey (by unfold scanBound; omega) fun h' tk hS hk => ?_
  refine PyProof.Rows.args_nil ?_
  obtain ⟨o, es, ep, t, ho, hex, hd, _, _, _, hf, hn⟩ := hS
  have I2 : Inv X pins σ H1 { s1 with heap := h', toks := tk } := I1.kept fun b o e => hk b o e
  have := dedupG_len ks
  exact call_len_set ho hex hd hf (by rw [hn] <;> omega) ⟨.int (dedupG ks).length, H1, I2.tok _, ⟨_, by rw [hn]⟩, q1⟩
end
end Sw.SK
namespace Sw
variable [LamT]
open PySem PySem.Spec PyProof.Rows L2
theorem any_key (ks : List Key) (k : Key) : (ks.map keyD).any (fun y => keyEq y (keyD k)) = true ↔ k ∈ ks := by
  rw [List.any_map, List.any_eq_true]
  constructor
  · rintro ⟨x, hx, h⟩
    have h : keyEq (keyD x) (keyD k) = true := h
    rw [keyD_inj] at h
    have : x = k := by simpa using h
    rw [← this]; exact hx
  · intro h
    refine ⟨k, h, ?_⟩
    show keyEq (keyD k) (keyD k) = true
    rw [keyD_inj]; simp
theorem dedup_keys (ks : List Key) : dedupD (ks.map keyD) = (dedupG ks).map keyD := by
  have go : ∀ (ks acc : List Key), (ks.map keyD).foldl (fun acc x => if acc.any (fun y => keyEq y x) = true then acc else acc ++ [x]) (acc.map keyD) = (dgF acc ks).map keyD := fun ks => by
    induction ks with
    | nil => intro acc; rfl
    | cons k ks ih =>
      intro acc
      rw [List.map_cons, List.foldl_cons, dgF_cons]
      by_cases h : k ∈ acc
      · rw [if_pos ((any_key acc k).mpr h), if_pos (memK_iff.mpr h)]; exact ih acc
      · rw [if_neg (fun z => h ((any_key acc k).mp z)), if_neg (fun z => h (memK_iff.mp z))]
        have := ih (acc ++ [k])
        rw [List.map_append] at this
        exact this
  exact go ks []
variable {X : Cx} {a : Expr} {ca : Ex} {pos p p2 q : Pos}
/-- len(set(xs)) -/
theorem re_lenset (hc : X.calm = true) (hg : Gl X "len") (hm : X.mg "len" = none) (hg2 : Gl X "set") (hm2 : X.mg "set" = none) (ha : RE X a ca)
    (na : starEach [a] X.env = (false, eval a X.env) :: starEach [] X.env := by rfl) : RE X (.Call (.Name "len" p) [.Call (.Name "set" p2) [a] [] q] [] pos) (op1 vLenSet ca) := fun W tk =>
  (SK.pe_lenset hc hg hm hg2 hm2 (ha W tk) na).imp fun σ H Q h => (Tr.bind h).mono fun x H1 h1 => by
    obtain ⟨B, φ, st, d, z, rs, r, hz, fin⟩ := h1.v1
    unfold vLenSet at hz
    cases hs : lstOf st d with
    | none => rw [hs] at hz; cases hz
    | some xs =>
      rw [hs, Option.bind_some] at hz
      split at hz
      · rename_i hk
        cases hz
        obtain ⟨l, vs, rfl, q, sq⟩ := lst_cases rs r hs
        obtain ⟨ks, e1, e2, _⟩ := keys_of q hk.1
        subst e1 e2
        refine ⟨l, ks, rfl, SqL.of sq, by simpa using hk.2, ?_⟩
        have := fin0 rs fin (.int _)
        rw [dedup_keys, List.length_map] at this
        exact this
      · cases hz
end Sw

/-! Rules16: a dict that is locked, walked by its keys; get; displays of dicts; *x; a list put together as a cell. -/
set_option Elab.async false
set_option linter.all false
set_option maxRecDepth 100000
set_option maxHeartbeats 4000000
namespace Sw
open PySem PySem.Spec PyProof.Rows L2
variable [LamT]
section
variable {K : Frag} {mg : Str → Option Value} {B B' : Addr → Prop} {φ φ' : List Addr} {H H' : Hp} {st st' : Store}
/-- a cell is written: the relation alone -/
theorem RS.write0 (rs : RS K mg B φ H st) {n : Nat} {a : Addr} {o : HO} {c : Cell} (hn : φ[n]? = some a) (hm : isMut o) (hc : ∀ H1, (∀ {v d}, RD K B φ H v d → RD K B φ H1 v d) → H1 a = some o → RC K mg B φ H1 a c) :
    RS K mg B φ (L2.upd H a o) (st.set n c) ∧ ∀ {v d}, RD K B φ H v d → RD K B φ (L2.upd H a o) v d := by
  have ha : a ∈ φ := List.mem_of_getElem? hn
  obtain ⟨o0, e0, m0⟩ := rs.mut ha
  have f : ∀ {v d}, RD K B φ H v d → RD K B φ (L2.upd H a o) v d := fun r => RD.upd (fun xs h => rs.notTup h ha) (.inr (rs.sub a ha)) (fun q u h => by
    rw [e0] at h; cases h
    exact ⟨by cases u <;> first | exact id | exact fun _ => m0, rs.sub a ha⟩) r
  refine ⟨⟨by simp [rs.len], rs.nd, rs.sub, fun b hb => (rs.sd b hb).upd hm.nt, fun m c' e => ?_, rs.tabsNe e0 m0⟩, f⟩
  · by_cases hmn : m = n
    · subst hmn
      have hl : m < st.length := by rw [← rs.len]; exact (List.getElem?_eq_some_iff.mp hn).1
      rw [List.getElem?_set_self hl] at e
      cases e
      exact ⟨a, hn, hc _ f upd_same⟩
    · rw [List.getElem?_set_ne (Ne.symm hmn)] at e
      obtain ⟨b, e1, rc⟩ := rs.at_ m c' e
      have nba : b ≠ a := fun z => by
        subst z
        exact hmn (nodupIx rs.nd e1 hn)
      exact ⟨b, e1, rc.on f (RDs.map f) (upd_ne nba)⟩
theorem keyD_rd {κ : Key} (ok : okKD (keyD κ)) : RD K B φ H (kV κ) (keyD κ) := by
  cases κ with
  | inl i => exact .int i
  | inr x => exact .str x ok
theorem RKv.keys : ∀ {vs : List (Key × V)} {ds : List (D × D)}, RKv K B φ H keyD vs ds → ds.map (·.1) = vs.map (fun p => keyD p.1) ∧ ∀ p ∈ vs, okKD (keyD p.1)
  | _, _, .nil => ⟨rfl, by simp⟩
  | _, _, .cons o _ t => by
    obtain ⟨e1, e2⟩ := RKv.keys t
    refine ⟨by rw [List.map_cons, List.map_cons, e1], fun p hp => ?_⟩
    rcases List.mem_cons.mp hp with z | z
    · rw [z]; exact o
    · exact e2 p z
end
section
variable {X : Cx} {a b o e f it tg : Expr} {ca cb co ci cx : Ex} {pos p apos cpos : Pos} {es : List Expr} {cs : Ax} {s : Stmt} {c : Sx}
theorem lock_cell {K : Frag} {mg : Str → Option Value} {B : Addr → Prop} {φ : List Addr} {H : Hp} {a : Addr} {c c0 l : Cell} (rc : RC K mg B φ H a c) (h : lockP c = some (c0, l)) : c0 = c ∧ ∃ u, H a = some u ∧ Mut (some u) ∧ isMut u ∧ (∀ od, isMut (.frz od u)) ∧ (∀ q x, u ≠ .frz q x) ∧
    (∀ od H1, (∀ {v d}, RD K B φ H v d → RD K B φ H1 v d) → H1 a = some (.frz od u) → RC K mg B φ H1 a l) ∧
    (∀ B' φ' H1, (∀ {v d}, RD K B φ H v d → RD K B' φ' H1 v d) → H1 a = some u → RC K mg B' φ' H1 a c) := by
  cases c with
  | dct kvs =>
    cases h
    obtain ⟨ks, e, q⟩ := rc
    exact ⟨rfl, _, e, trivial, trivial, fun _ => trivial, (fun _ _ z => nomatch z), fun od H1 f e1 => ⟨od, ks, e1, q.on f⟩, fun B' φ' H1 f e1 => ⟨ks, e1, q.on f⟩⟩
  | lst xs =>
    cases h
    obtain ⟨vs, e, q⟩ := rc
    exact ⟨rfl, _, e, trivial, trivial, fun _ => trivial, (fun _ _ z => nomatch z), fun od H1 f e1 => ⟨od, vs, e1, RDs.map f q⟩, fun B' φ' H1 f e1 => ⟨vs, e1, RDs.map f q⟩⟩
  | _ => cases h
theorem rs_lock {i : Nat} (h : RSt X s c) : RSt X s (sLock i c) := fun W tk => (ps_lock (h W tk)).imp fun D σ H ⟨B, φ, e, st, r, st', re, rs, hc, fin⟩ => by
  unfold sLock at hc
  split at hc
  · rename_i n he
    split at hc
    · rename_i cc0 ll hs
      cases hs0 : st[n]? with
      | none => rw [hs0] at hs; cases hs
      | some cell =>
      rw [hs0, Option.bind_some] at hs
      obtain ⟨v, hv, rv⟩ := re.2 i _ he
      obtain ⟨a, rfl, ha, rc⟩ : ∃ a, v = .ref a ∧ φ[n]? = some a ∧ RC X.K X.mg B φ H a cell := by
        cases rv with | loc e =>
        obtain ⟨b, e', rc⟩ := rs.at_ n _ hs0
        rw [e] at e'
        cases e'
        exact ⟨_, rfl, e, rc⟩
      obtain ⟨rfl, u, hH, mu, mu2, mu3, nfz, lk, ulk⟩ := lock_cell rc hs
      refine ⟨a, u, hH, mu, fun od => ?_⟩
      cases hc1 : c e (st.set n ll) with
      | none => rw [hc1] at hc; cases hc
      | some pr =>
        obtain ⟨r', st2⟩ := pr
        rw [hc1] at hc
        obtain ⟨rs1, f1⟩ := rs.write0 (o := .frz od u) (c := ll) ha (mu3 od) fun H1 f e => lk od H1 f e
        have re1 : REnv X.K B φ (upd H a (.frz od u)) σ e := ⟨re.1, fun j d hj => by
          obtain ⟨w, h1, h2⟩ := re.2 j d hj
          exact ⟨w, h1, f1 h2⟩⟩
        have ins : a ∈ φ := List.mem_of_getElem? ha
        -- unlocked
        have back : ∀ {B' : Addr → Prop} {φ' : List Addr} {H' : Hp}, Go φ B (upd H a (.frz od u)) φ' B' H' → RS X.K X.mg B' φ' H' st2 →
            H' a = some (.frz od u) ∧ Go φ B H φ' B' (upd H' a u) ∧ RS X.K X.mg B' φ' (upd H' a u) (st2.set n cc0) ∧ ∀ {v d}, RD X.K B' φ' H' v d → RD X.K B' φ' (upd H' a u) v d := fun {B' φ' H'} g rs2 => by
          have e1 : H' a = some (.frz od u) := g.frz a _ _ upd_same
          obtain ⟨rs3, f3⟩ := rs2.write0 (o := u) (c := cc0) (pre_get g.pre ha) mu2 fun H1 f e => ulk B' φ' H1 (fun r => f (RD.go rs1 g (f1 r))) e
          refine ⟨e1, ⟨rs.sub, fun b x hb nb nt => ?_, g.pre, g.mono, fun b hb => ?_, fun b hb => ?_, fun b x u' hb => ?_⟩, rs3, f3⟩
          · have nba : b ≠ a := fun z => nb (z ▸ ins)
            rw [upd_ne nba]
            exact g.keep b x (by rw [upd_ne nba]; exact hb) nb nt
          · rcases g.fresh b hb with z | z
            · exact .inl z
            · by_cases nba : b = a
              · rw [nba]; exact .inl (rs.sub a ins)
              · exact .inr fun ⟨o, h, nt⟩ => z ⟨o, by rw [upd_ne nba]; exact h, nt⟩
          · rcases g.inφ b hb with z | z
            · exact .inl z
            · by_cases nba : b = a
              · rw [nba]; exact .inl ins
              · exact .inr fun ⟨o, h, nt⟩ => z ⟨o, by rw [upd_ne nba]; exact h, nt⟩
          · have nba : b ≠ a := fun z => by rw [z, hH] at hb; cases hb; exact nfz _ _ rfl
            rw [upd_ne nba]
            exact g.frz b x u' (by rw [upd_ne nba]; exact hb)
        refine ⟨B, φ, e, _, r', st2, re1, rs1, hc1, ?_⟩
        have env : ∀ {B' : Addr → Prop} {φ' : List Addr} {H' : Hp} {σ' : L2.St} {e' : Env}, (∀ {v d}, RD X.K B' φ' H' v d → RD X.K B' φ' (upd H' a u) v d) → REnv X.K B' φ' H' σ' e' → REnv X.K B' φ' (upd H' a u) σ' e' := fun f3 r => ⟨r.1, fun j d hj => by
          obtain ⟨w, h1, h2⟩ := r.2 j d hj
          exact ⟨w, h1, f3 h2⟩⟩
        cases r' with
        | ex x e' => cases hc
        | nx e' =>
          cases hc
          intro σ' B' φ' H' g rs2 re2
          obtain ⟨h1, h2, h3, h4⟩ := back g rs2
          exact ⟨h1, fin σ' B' φ' _ h2 h3 (env h4 re2)⟩
        | bk e' =>
          cases hc
          intro σ' B' φ' H' g rs2 re2
          obtain ⟨h1, h2, h3, h4⟩ := back g rs2
          exact ⟨h1, fin σ' B' φ' _ h2 h3 (env h4 re2)⟩
        | ct e' =>
          cases hc
          intro σ' B' φ' H' g rs2 re2
          obtain ⟨h1, h2, h3, h4⟩ := back g rs2
          exact ⟨h1, fin σ' B' φ' _ h2 h3 (env h4 re2)⟩
        | rt d =>
          cases hc
          intro v B' φ' H' g rs2 rd
          obtain ⟨h1, h2, h3, h4⟩ := back g rs2
          exact ⟨h1, fin v B' φ' _ h2 h3 (h4 rd)⟩
    · cases hc
  · cases hc
theorem ri_locked (ha : RE X a ca) : RI X tg a (iLocked ca) := fun W tk => ((pi_keys (ha W tk).know).or (pi_list (ha W tk).know)).imp fun σ H R ⟨B, φ, e, st, r, st', re, rs, hc, fin⟩ => by
  unfold iLocked Act.bind at hc
  cases ha' : ca e st with
  | none => rw [ha'] at hc; cases hc
  | some p =>
    obtain ⟨q, st1⟩ := p
    rw [ha'] at hc
    cases q with
    | error x =>
      simp only [Option.some.injEq, Prod.mk.injEq] at hc
      obtain ⟨rfl, rfl⟩ := hc
      exact .inl ⟨B, φ, e, st, _, _, re, rs, ha', fin⟩
    | ok d =>
      obtain ⟨ds, rfl, rfl, hd⟩ := look_eq hc
      unfold walkOf at hd
      split at hd
      · rename_i n
        split at hd
        · rename_i kvs hs
          cases hd
          refine .inl ⟨B, φ, e, st, _, _, re, rs, ha', fun v B1 φ1 H1 g rs1 rd => ?_⟩
          rintro ⟨pins, s, I⟩
          obtain ⟨x, od, vs, rfl, hφ, hH, q⟩ := loc_dlk rs1 rd hs
          have hsz : vs.length ≤ sizeLine := (I.hok _ _ hH).2.1
          obtain ⟨e1, e2⟩ := q.keys
          refine ⟨x, od, rfl, .inl ⟨vs, hH, fin _ B1 φ1 H1 g rs1 ?_ (by rw [List.length_map, ← q.length]; exact hsz)⟩⟩
          intro B' φ' H' st2 g2 rs2 i
          have hH' := g2.frz _ _ _ hH
          refine ⟨fun hi => ⟨hH', by rw [List.length_map, ← q.length] at hi; exact hi⟩, fun y hy => ?_⟩
          have hlt : i < vs.length := by
            have := (List.getElem?_eq_some_iff.mp hy).1
            rwa [List.length_map, ← q.length] at this
          refine ⟨⟨hH', hlt⟩, ?_⟩
          rintro w H'' ⟨rfl, k, v, hk, rfl⟩
          rw [e1, List.getElem?_map, hk] at hy
          cases hy
          exact ⟨B', .refl rs2, rs2, keyD_rd (e2 _ (List.mem_of_getElem? hk))⟩
        · rename_i xs hs
          cases hd
          refine .inr ⟨B, φ, e, st, _, _, re, rs, ha', fun v B1 φ1 H1 g rs1 rd => ?_⟩
          rintro ⟨pins, s, I⟩
          cases rd with | loc e1 =>
          obtain ⟨b, e', od, vs, hH, q⟩ := rs1.at_ n _ hs
          rw [e1] at e'
          cases e'
          have hsz : vs.length ≤ sizeLine := (I.hok _ _ hH).2.1
          refine ⟨_, rfl, ⟨vs, .inl (.inr ⟨od, hH⟩)⟩, fin _ B1 φ1 H1 g rs1 ?_ (by rw [← q.length]; exact hsz)⟩
          intro B' φ' H' st2 g2 rs2 i
          have hH' := g2.frz _ _ _ hH
          have sq : SqL X.K H' _ vs := .inl (.inr ⟨od, hH'⟩)
          refine ⟨fun hi => ⟨vs, sq, by rw [q.length]; exact hi⟩, fun y hy => ?_⟩
          obtain ⟨v, hv, rv⟩ := q.get hy
          refine ⟨⟨vs, v, sq, hv⟩, ?_⟩
          rintro w H'' ⟨rfl, hx⟩
          have := (hx vs sq).symm.trans hv
          cases this
          exact ⟨B', .refl rs2, rs2, RD.go rs1 g2 rv⟩
        · cases hd
      · cases hd
theorem re_get2 (hu : X.A.units + 1 < cLine) (ho : RE X o co) (he : RE X e ci) (hf : RE X f cx)
    (hbase : attributeBase o "get" X.env (eval o X.env) = eval o X.env := by rfl)
    (hfew : ((backTo cpos (starEach [e, f] X.env)).all (fun x => !x.1) && (backToKw cpos (keywordEach [] X.env)).all (fun x => x.1.isSome)
      && decide (([e, f] : List Expr).length + ([] : List Keyword).length + (if ([] : List Keyword).isEmpty then 0 else 1) < 30)) = true := by rfl)
    (hline : (apos.endLine == cpos.line) = true := by rfl) (htr : backTo cpos (starEach [e, f] X.env) = [(false, eval e X.env), (false, eval f X.env)] := by rfl) :
    RE X (.Call (.Attribute o "get" apos) [e, f] [] cpos) (eGet2 co ci cx) := fun W tk =>
  (pe_dget2 hu (ho W tk) (he W tk) (hf W tk) ⟨hbase, hfew, hline, htr⟩).imp fun σ H Q h => (Tr.bind h).mono fun x H1 h1 => by
    obtain ⟨B, φ, en, st, d, r, st', re, rs, rd, hc, fin⟩ := h1
    unfold Act.bind at hc
    dsimp only at hc
    cases hd : look (fun st => (dctOf st d).map fun _ => ()) en st with
    | none => rw [hd] at hc; cases hc
    | some pr =>
      obtain ⟨q1, st1⟩ := pr
      obtain ⟨u, rfl, rfl, hu1⟩ := look_eq hd
      rw [hd] at hc
      cases hd0 : dctOf st1 d with
      | none => rw [hd0] at hu1; cases hu1
      | some kvs0 =>
        obtain ⟨l, ks0, rfl, hH0, q0⟩ := dctOf_cases rs rd hd0
        refine ⟨l, rfl, .inl ⟨_, hH0⟩, ?_⟩
        have h2 : TrK X.K X.mg (RD X.K) (RD X.K) (fun d => ci.bind fun y => cx.bind fun z => look fun st => (dctOf st d).bind fun kvs => if isKey y = true then some ((getKv kvs y).getD z) else none) W (.ref l) σ H1 Q := ⟨B, φ, en, st1, d, r, st', re, rs, rd, hc, fin⟩
        refine (TrK.bind mono_d h2).mono fun y H2 h3 => (TrK.bind (mono_2 mono_d mono_d) h3).mono fun z H3 h4 => ?_
        obtain ⟨B4, φ4, e4, st4, d4, r4, st4', re4, rs4, rd4, hc4, fin4⟩ := h4
        obtain ⟨w, rfl, rfl, hw⟩ := look_eq hc4
        obtain ⟨⟨dd, yy⟩, zz⟩ := d4
        obtain ⟨⟨rdd, ryy⟩, rzz⟩ := rd4
        dsimp only at hw rdd ryy rzz
        cases hd4 : dctOf st4' dd with
        | none => rw [hd4] at hw; cases hw
        | some kvs =>
          rw [hd4, Option.bind_some] at hw
          split at hw
          · rename_i hk
            cases hw
            obtain ⟨l4, ks, el, hH4, q4⟩ := dctOf_cases rs4 rdd hd4
            cases el
            obtain ⟨κ, rfl, rfl, okk⟩ := key_of_isKey ryy hk
            refine ⟨_, dget_k hH4, ?_⟩
            obtain ⟨g1, g2⟩ := q4.get (κ := κ)
            cases hg : getKv kvs (keyD κ) with
            | none =>
              rw [g2 hg]
              rw [hg] at fin4
              exact fin4 _ _ _ _ (.refl rs4) rs4 rzz
            | some t =>
              obtain ⟨v, hv, rv⟩ := g1 t hg
              rw [hv]
              rw [hg] at fin4
              exact fin4 _ _ _ _ (.refl rs4) rs4 rv
          · cases hw
theorem ra_star (he : RE X e ci) (hr : RA X es cs) (hs : starEach (.Starred e p :: es) X.env = (true, eval e X.env) :: starEach es X.env := by rfl) : RA X (.Starred e p :: es) (aStar ci cs) := fun W tk =>
  (StX.pa_star (he W tk) (hr W tk) hs).imp fun σ H Q h => (Tr.bind h).mono fun x H1 h1 => by
    obtain ⟨B, φ, en, st, d, r, st', re, rs, rd, hc, fin⟩ := h1
    unfold Act.bind at hc
    dsimp only at hc
    cases hd : look (fun st => seq? st d) en st with
    | none => rw [hd] at hc; cases hc
    | some pr =>
      obtain ⟨q1, st1⟩ := pr
      obtain ⟨xs, rfl, rfl, hx⟩ := look_eq hd
      rw [hd] at hc
      obtain ⟨l, vs, rfl, q, alt⟩ := seq_cases rs rd hx
      refine ⟨l, vs, rfl, ?_, ?_⟩
      · rcases alt with ⟨z, _⟩ | ⟨z, _⟩
        · exact .inl z.t
        · exact .inr (SqL.of z)
      · have h2 : TrK X.K X.mg (RDs X.K) (RDs X.K) (fun xs => cs.bind fun ys => fun _ st => some (.ok (xs ++ ys), st)) W vs σ H1 Q := ⟨B, φ, en, st1, xs, r, st', re, rs, q, hc, fin⟩
        refine (TrK.bind mono_ds h2).mono fun ys H2 ⟨B4, φ4, e4, st4, d4, r4, st4', re4, rs4, rd4, hc4, fin4⟩ => ?_
        cases hc4
        exact fin4 _ _ _ _ (.refl rs4) rs4 (RDs.append rd4.1 rd4.2)
theorem o_addC : OpR X (binaryOp .Add) (fun x y H Q => ∃ B φ st d e z st', RS X.K X.mg B φ H st ∧ RD X.K B φ H x d ∧ RD X.K B φ H y e ∧ vAddC st d e = some (z, st') ∧ ∀ v B' φ' H', Go φ B H φ' B' H' → RS X.K X.mg B' φ' H' st' → RD X.K B' φ' H' v z → Q v H') := by
  intro pins s σ H x y v u Q I rv ru ⟨B, φ, st, d, e, z, st', rs, r1, r2, hz, fin⟩
  unfold vAddC at hz
  cases h1 : lstOf st d with
  | none => rw [h1] at hz; cases hz
  | some xs =>
    rw [h1, Option.bind_some] at hz
    cases h2 : lstOf st e with
    | none => rw [h2] at hz; cases hz
    | some ys =>
      rw [h2, Option.bind_some] at hz
      split at hz
      · rename_i hl
        cases hz
        obtain ⟨a, vs, rfl, q1, s1⟩ := lst_cases rs r1 h1
        obtain ⟨b, ws, rfl, q2, s2⟩ := lst_cases rs r2 h2
        exact op_cat pins s σ H _ _ v u Q I rv ru ⟨_, _, _, _, rfl, rfl, s1, s2, by rw [q1.length, q2.length]; exact hl, fun p hp => finC rs fin (q1.append q2) hp⟩
      · cases hz
/-- a + b, lists, what comes is a cell -/
theorem re_addC (ha : RE X a ca) (hb : RE X b cb) : RE X (.BinOp a .Add b pos) (op2S vAddC ca cb) := fun W tk =>
  (pe_op o_addC (ha W tk) (hb W tk)).imp fun σ H Q h => (Tr.bind h).mono fun x H1 h1 => (TrK.bind mono_d h1).mono fun y H2 h2 => op2S_tr h2
end
end Sw

/-! Rules17: displays of dicts. -/
set_option Elab.async false
set_option linter.all false
set_option maxRecDepth 100000
set_option maxHeartbeats 4000000
namespace Sw
open PySem PySem.Spec PyProof.Rows L2
variable [LamT]
inductive RDp (K : Frag) (B : Addr → Prop) (φ : List Addr) (H : Hp) : List (V × V) → List (D × D) → Prop
  | nil : RDp K B φ H [] []
  | cons {v w : V} {d e : D} {vs : List (V × V)} {ds : List (D × D)} : RD K B φ H v d → RD K B φ H w e → RDp K B φ H vs ds → RDp K B φ H ((v, w) :: vs) ((d, e) :: ds)
theorem RDp.map {K : Frag} {B B' : Addr → Prop} {φ φ' : List Addr} {H H' : Hp} (f : ∀ {v d}, RD K B φ H v d → RD K B' φ' H' v d) : ∀ {vs : List (V × V)} {ds : List (D × D)}, RDp K B φ H vs ds → RDp K B' φ' H' vs ds
  | _, _, .nil => .nil
  | _, _, .cons r q t => .cons (f r) (f q) (RDp.map f t)
theorem mono_p {K : Frag} {mg : Str → Option Value} : Mono K mg (RDp K) := fun rs g _ _ r => r.map (RD.go rs g)
theorem RDp.keys {K : Frag} {B : Addr → Prop} {φ : List Addr} {H : Hp} : ∀ {vs : List (V × V)} {ps : List (D × D)}, RDp K B φ H vs ps → (ps.all fun p => isKey p.1) = true →
    ∃ (ks : List Key) (ws : List V) (ys : List D), vs = (ks.zip ws).map (fun kv => (kV kv.1, kv.2)) ∧ ps = (ks.map keyD).zip ys ∧ ks.length = ws.length ∧ RDs K B φ H ws ys ∧ ∀ k ∈ ks, okKD (keyD k)
  | _, _, .nil, _ => ⟨[], [], [], rfl, rfl, rfl, .nil, by simp⟩
  | _, _, .cons r q t, h => by
    simp only [List.all_cons, Bool.and_eq_true] at h
    obtain ⟨ks, ws, ys, e1, e2, e3, e4, e5⟩ := RDp.keys t h.2
    obtain ⟨κ, rfl, rfl, okk⟩ := key_of_isKey r h.1
    refine ⟨κ :: ks, _ :: ws, _ :: ys, by rw [e1]; rfl, by rw [e2]; rfl, by simp [e3], .cons q e4, fun k hk => ?_⟩
    rcases List.mem_cons.mp hk with z | z
    · rw [z]; exact okk
    · exact e5 k z
def RPs (X : Cx) (pos : Pos) (ks : List (Option Expr)) (vs : List Expr) (c : Dx) : Prop := ∀ W, Takes X W → ∃ trs, PPs X pos ks vs trs ∧ ∀ σ H Q, Tr X.K X.mg (RDp X.K) c W σ H Q → tPairs trs σ H Q
section
variable {X : Cx} {k v : Expr} {ck cv : Ex} {pos : Pos} {ks : List (Option Expr)} {vs : List Expr} {c : Dx}
theorem rp_nil : RPs X pos [] [] dNil := fun W tk => ⟨[], pps_nil, fun σ H Q ⟨B, φ, e, st, r, st', re, rs, hc, fin⟩ => by
  cases hc
  exact fin.here rs .nil⟩
theorem rp_cons (hk : RE X k ck) (hv : RE X v cv) (hr : RPs X pos ks vs c) : RPs X pos (some k :: ks) (v :: vs) (dCons ck cv c) := fun W tk => by
  obtain ⟨trs, h1, h2⟩ := hr W tk
  refine ⟨_, pps_cons (hk W tk) (hv W tk) h1, fun σ H Q h => (Tr.bind h).mono fun x H1 q1 => (TrK.bind mono_d q1).mono fun y H2 q2 => h2 σ H2 _ ((TrK.bind (mono_2 mono_d mono_d) q2).mono fun ps H3 ⟨B4, φ4, e4, st4, d4, r4, st4', re4, rs4, rd4, hc4, fin4⟩ => ?_)⟩
  cases hc4
  exact fin4 _ _ _ _ (.refl rs4) rs4 (.cons rd4.1.1 rd4.1.2 rd4.2)
theorem re_disp (h : RPs X pos ks vs c) (hall : ks.all (·.isSome) = true := by rfl) (hl : ks.length = vs.length := by rfl) (h0 : ks ≠ [] := by exact List.cons_ne_nil _ _) (h15 : ks.length ≤ 15 := by decide) : RE X (.Dict ks vs pos) (eDisp c) := fun W tk => by
  obtain ⟨trs, h1, h2⟩ := h W tk
  refine (pe_disp h1 hall hl h0 h15).imp fun σ H Q ⟨B, φ, e, st, r, st', re, rs, hc, fin⟩ => ?_
  intro p hp
  refine h2 _ _ _ ?_
  have npφ : p ∉ φ := fun hm => rs.there p (rs.sub p hm) hp
  obtain ⟨rs2, g2⟩ := rs.newThing (o := .dK []) hp
  have g3 : Go φ B H φ (fun a => B a ∨ a = p) (upd H p (.dK [])) := ⟨rs.sub, g2.keep, g2.pre, fun _ h => .inl h, fun a h => h.imp id (fun e => by rw [e]; exact nSd hp), g2.inφ, g2.frz⟩
  have f : ∀ {v d}, RD X.K B φ H v d → RD X.K (fun a => B a ∨ a = p) φ (upd H p (.dK [])) v d := fun r => by
    refine RD.on (fun b xs h => ?_) (fun b xs h nb => ?_) (fun b q u h _ => ?_) (fun _ _ h => h) r
    · exact Rd.go (fun o e => by rw [upd_ne (ne_of_none e hp)]; exact e) h
    · have nbp : b ≠ p := ne_of_none h hp
      exact ⟨by rw [upd_ne nbp]; exact h, fun z => z.elim nb nbp⟩
    · exact ⟨by rw [upd_ne (ne_of_none h hp)]; exact h, fun nb z => z.elim nb (ne_of_none h hp)⟩
  have rs3 : RS X.K X.mg (fun a => B a ∨ a = p) φ (upd H p (.dK [])) st := by
    refine ⟨rs2.len, rs2.nd, fun a h => .inl (rs2.sub a h), fun a h => ?_, fun n c h => ?_, rs2.tabs⟩
    · rcases h with h | h
      · exact rs2.sd a h
      · rw [h]; exact ⟨_, upd_same, fun _ z => by cases z⟩
    · obtain ⟨a, e1, rc⟩ := rs.at_ n c h
      obtain ⟨o, ho, _⟩ := rc.mut
      exact ⟨a, e1, rc.on f (RDs.map f) (upd_ne (ne_of_none ho hp))⟩
  have re3 : REnv X.K (fun a => B a ∨ a = p) φ (upd H p (.dK [])) σ e := ⟨re.1, fun j d hj => by
    obtain ⟨w, h1, h2⟩ := re.2 j d hj
    exact ⟨w, h1, f h2⟩⟩
  unfold eDisp Act.bind at hc
  cases ha : c e st with
  | none => rw [ha] at hc; cases hc
  | some pr =>
    obtain ⟨q, st1⟩ := pr
    rw [ha] at hc
    cases q with
    | error x =>
      simp only [Option.some.injEq, Prod.mk.injEq] at hc
      obtain ⟨rfl, rfl⟩ := hc
      exact ⟨_, φ, e, st, _, _, re3, rs3, ha, fun cls dx B' φ' H' g rs' rx => fin cls dx B' φ' H' (g3.trans g) rs' rx⟩
    | ok ps =>
      dsimp only at hc
      split at hc
      · rename_i hk
        cases hc
        refine ⟨_, φ, e, st, _, _, re3, rs3, ha, fun vs' B' φ' H' g rs' rd => ?_⟩
        have e1 : H' p = some (.dK []) := g.keep p _ upd_same npφ (fun _ z => by cases z)
        obtain ⟨ks', ws, ys, e2, e3, e4, e5, e6⟩ := rd.keys hk.1
        have np' : p ∉ φ' := fun hm => by
          rcases g.inφ p hm with z | z
          · exact npφ z
          · exact z ⟨_, upd_same, fun _ z => by cases z⟩
        have bp : B' p := g.mono p (.inr rfl)
        obtain ⟨n1, n2⟩ := dK_notRd e1
        obtain ⟨rs5, f5⟩ := rs'.own (o' := .dK (mergeK [] (ks'.zip ws))) e1 bp np' n1 n2
        have hl2 : (ks'.zip ws).length = ps.length := by
          rw [e3, List.length_zip, List.length_zip, List.length_map, e4, e5.length]
        refine ⟨e1, ks'.zip ws, e2, by rw [hl2]; exact hk.2, ?_⟩
        have gF : Go φ B H (φ' ++ [p]) B' (upd H' p (.dK (mergeK [] (ks'.zip ws)))) := by
          have gg := g3.trans g
          refine ⟨gg.sub, fun a o ha hn nt => by rw [upd_ne (ne_of_none ha hp)]; exact gg.keep a o ha hn nt, gg.pre.trans (List.prefix_append _ _), gg.mono, gg.fresh, fun a h => ?_, fun a o u ha => by rw [upd_ne (ne_of_none ha hp)]; exact gg.frz a o u ha⟩
          rcases List.mem_append.mp h with z | z
          · exact gg.inφ a z
          · have : a = p := by simpa using z
            rw [this]; exact .inr (nSd hp)
        have kv : RKv X.K B' φ' (upd H' p (.dK (mergeK [] (ks'.zip ws)))) keyD (mergeK [] (ks'.zip ws)) (mkKv ps) := by
          rw [e3]
          exact rkv_mk e6 (RDs.map f5 e5) .nil
        refine fin (.ref p) B' (φ' ++ [p]) _ gF (rs5.addCell bp np' ⟨_, upd_same, kv.on (fun r => r.ext)⟩) (.loc ?_)
        rw [List.getElem?_append_right (by rw [rs5.len]; exact Nat.le_refl _), rs5.len]
        simp
      · cases hc
end
end Sw

/-! ZipEnum: enumerate(zip(a, b)) of two lists. -/
set_option Elab.async false
set_option linter.all false
set_option maxRecDepth 100000
set_option maxHeartbeats 4000000
namespace Sw.ZE
open PySem PySem.Spec PyProof.Rows
/-- a zip's record -/
abbrev zRec (h : Heap) (z TI TO : Addr) (f0 : Value) (f : Bool) : Prop := h.get? z = some { cls := .type "zip", dict := none, data := .fields #[f0, .bool f, .bool false, .ref TI, .ref TO], slots := #[] }
abbrev prO (u v : Value) : Obj := { cls := .type "tuple", data := .seq #[u, v] }
section
variable {prog : Program} {w : World} {A : Around} {E : Value → Shared → Prop}
theorem dead {s : Shared} {a : Addr} {Q : Option Obj → Shared → Prop} (ho : s.heap.get? a = none) (h : Q none s) : wpAny (model prog w) A (loadIfAlive a) Q E s := by
  have h2 : Q (s.heap.get? a) s := by rw [ho]; exact h
  exact fun _ _ _ => h2
end
section
variable {prog : Program} {w : World} {A : Around} {E : Value → Shared → Prop} {s : Shared} {z TI TO i1 i2 : Addr} {fp1 fp2 : List Addr} {n1 n2 i : Nat} {P1 P2 : Nat → Value → Prop} {St1 St2 : Nat → Heap → Prop} {a1 a2 f0 : Value} {f : Bool}
/-- next, the pair that was out is gone, or none was -/
theorem free_item {Q : Value → Shared → Prop} (S : ZipSep2 z TI TO i1 i2 fp1 fp2) (D1 : Draws prog w A i1 fp1 n1 P1 St1) (D2 : Draws prog w A i2 fp2 n2 P2 St2)
    (hz : zRec s.heap z TI TO f0 f) (hfree : f0 = .none ∨ ∃ T : Addr, f0 = rawInt T ∧ s.heap.get? T = none) (hTI : IsTupOf2 s.heap TI (.ref i1) (.ref i2)) (hTO : IsTupOf2 s.heap TO a1 a2) (st1 : St1 i s.heap) (st2 : St2 i s.heap) (hlt1 : i < n1) (hlt2 : i < n2)
    (hQ : ∀ x1 x2 h' tk, P1 i x1 → P2 i x2 → zRec h' z TI TO (rawInt s.heap.objs.size) false → IsTupOf2 h' TO x1 x2 → St1 (i + 1) h' → St2 (i + 1) h' → IsTupOf2 h' s.heap.objs.size x1 x2 → h'.objs.size = s.heap.objs.size + 1 →
      (∀ c o, c ≠ z → c ≠ TO → c ≠ i1 → c ≠ i2 → s.heap.get? c = some o → h'.get? c = some o) → Q (.ref s.heap.objs.size) { s with heap := h', toks := tk }) :
    wpAny (model prog w) A (Builtin.«zip.__next__» ⟨[.ref z], []⟩) (fun fin s' => ∃ v, fin = .done (.ret v) ∧ Q v s') E s := by
  obtain ⟨p0, gs, dr, k0, os⟩ := s
  have isFree : ∀ {Q : Bool → Shared → Prop}, Q true ⟨p0, gs, dr, k0, os⟩ → wpAny (model prog w) A (Builtin.SmallTypes.ownedTupleIsFree (.ref z)) Q E ⟨p0, gs, dr, k0, os⟩ := fun {Q} q => by
    unfold Builtin.SmallTypes.ownedTupleIsFree
    rcases hfree with rfl | ⟨T, rfl, hT⟩
    · exact wpAny_bind (wpAny_field hz rfl (x := .none) rfl (wpAny_pure q))
    · refine wpAny_bind (wpAny_field hz rfl (x := rawInt T) rfl ?_)
      show wpAny _ _ (loadIfAlive ((T : Int).toNat) >>= _) _ _ _
      rw [Int.toNat_natCast]
      refine wpAny_bind (dead hT ?_)
      exact wpAny_pure q
  -- its fields, the iterators
  show wpAny _ _ (field (.ref z) 2 >>= fun done => _) _ _ _
  refine wpAny_bind (wpAny_field hz rfl (x := .bool false) rfl ?_)
  show wpAny _ _ (field (.ref z) 3 >>= fun its => _) _ _ _
  refine wpAny_bind (wpAny_field hz rfl (x := .ref TI) rfl (wpAny_bind (wpAny_seqItems hTI rfl ?_)))
  refine wpAny_bind (isFree ?_)
  simp only [if_true]
  refine wpAny_bind (wpAny_rule (wpAny_bind (wpAny_field hz rfl (x := .ref TO) rfl (wpAny_bind (wpAny_setField_rec hz (by simp) fun q0 hq0 sb0 => ?_)))))
  have z0 : zRec q0 z TI TO .ellipsis f := hq0
  have sb0 : Heap.SameBut z p0 q0 := sb0
  refine wpAny_bind ?_
  simp only [List.zipIdx_cons, List.zipIdx_nil, List.forIn_cons, List.forIn_nil]
  refine wpAny_bind (wpAny_bind (wpAny_onRaise ?_))
  show wpAny _ _ (Builtin.SmallTypes.nextOf (.ref i1) >>= fun x => _) _ _ ⟨q0, gs, dr, k0, os⟩
  refine wpAny_bind (D1.item i _ _ _ hlt1 (D1.over st1 sb0 S.zf1) fun x1 q1 k1 hx1 n1s sb1 => wpAny_pure ?_)
  have sb1 : Heap.SameBut i1 q0 q1 := sb1
  have o1 : IsTupOf2 q1 TO a1 a2 := sb1.extBut TO _ S.Ti1 (sb0.extBut TO _ S.TOz hTO)
  refine wpAny_bind (wpAny_seqItems (s := ⟨q1, gs, dr, k1, os⟩) o1 rfl (wpAny_bind (updateSeq_IsTupOf2 (s := ⟨q1, gs, dr, k1, os⟩) o1 fun r1 o2 sc1 => ?_)))
  have o2 : IsTupOf2 r1 TO x1 a2 := o2
  have sc1 : Heap.SameBut TO q1 r1 := sc1
  refine wpAny_bind (wpAny_letGo (wpAny_pure (wpAny_bind (wpAny_bind (wpAny_onRaise ?_)))))
  show wpAny _ _ (Builtin.SmallTypes.nextOf (.ref i2) >>= fun x => _) _ _ ⟨r1, gs, dr, k1, os⟩
  refine wpAny_bind (D2.item i _ _ _ hlt2 (D2.over (D2.over (D2.over st2 sb0 S.zf2) sb1 S.sep1_2) sc1 S.Tf2) fun x2 q2 k2 hx2 n2s sb2 => wpAny_pure ?_)
  have sb2 : Heap.SameBut i2 r1 q2 := sb2
  have o3 : IsTupOf2 q2 TO x1 a2 := sb2.extBut TO _ S.Ti2 o2
  refine wpAny_bind (wpAny_seqItems (s := ⟨q2, gs, dr, k2, os⟩) o3 rfl (wpAny_bind (updateSeq_IsTupOf2 (s := ⟨q2, gs, dr, k2, os⟩) o3 fun r2 o4 sc2 => ?_)))
  have o4 : IsTupOf2 r2 TO x1 x2 := o4
  have sc2 : Heap.SameBut TO q2 r2 := sc2
  refine wpAny_bind (wpAny_letGo (wpAny_pure (wpAny_pure (wpAny_bind (wpAny_seqItems (s := ⟨r2, gs, dr, k2, os⟩) o4 rfl (wpAny_bind (wpAny_newTuple ?_)))))))
  have size2 : r2.objs.size = p0.objs.size := by rw [sc2.1, sb2.1, sc1.1, sb1.1, sb0.1]
  have zz : zRec r2 z TI TO .ellipsis f := sc2.extBut z _ S.TOz.symm (sb2.extBut z _ S.zi2 (sc1.extBut z _ S.TOz.symm (sb1.extBut z _ S.zi1 z0)))
  have keep : ∀ c o, c ≠ z → c ≠ TO → c ≠ i1 → c ≠ i2 → p0.get? c = some o → r2.get? c = some o := fun c o h1 h2 h3 h4 e => sc2.extBut c o h2 (sb2.extBut c o h4 (sc1.extBut c o h2 (sb1.extBut c o h3 (sb0.extBut c o h1 e))))
  have m1 : St1 (i + 1) r2 := D1.over (D1.over (D1.over n1s sc1 S.Tf1) sb2 S.sep2_1) sc2 S.Tf1
  have m2 : St2 (i + 1) r2 := D2.over n2s sc2 S.Tf2
  have zlt : z < r2.objs.size := Heap.lt_size zz
  have pushed : zRec (r2.push (prO x1 x2)) z TI TO .ellipsis f := Heap.get?_push_of_some _ zz
  show wpAny _ _ (Builtin.SmallTypes.ownedTupleHandOut (.ref z) (.ref r2.objs.size) >>= fun _ => _) _ _ ⟨r2.push (prO x1 x2), gs, dr, k2, os⟩
  refine wpAny_bind ?_
  unfold Builtin.SmallTypes.ownedTupleHandOut
  refine wpAny_bind (wpAny_setField_rec pushed (by simp) fun q7 z7 sb7 => ?_)
  have z7 : zRec q7 z TI TO (rawInt r2.objs.size) f := z7
  have sb7 : Heap.SameBut z (r2.push (prO x1 x2)) q7 := sb7
  refine wpAny_setField_rec z7 (by simp) fun q8 z8 sb8 => ?_
  have z8 : zRec q8 z TI TO (rawInt r2.objs.size) false := z8
  have sb8 : Heap.SameBut z q7 q8 := sb8
  have up : ∀ c o, c ≠ z → r2.get? c = some o → q8.get? c = some o := fun c o h e => sb8.extBut c o h (sb7.extBut c o h (Heap.get?_push_of_some _ e))
  have pr8 : IsTupOf2 q8 r2.objs.size x1 x2 := sb8.extBut _ _ (Nat.ne_of_gt zlt) (sb7.extBut _ _ (Nat.ne_of_gt zlt) (Heap.get?_push_size _ rfl))
  have size8 : q8.objs.size = r2.objs.size + 1 := by rw [sb8.1, sb7.1, Heap.size_push]
  rw [size2] at z8 pr8 size8
  refine wpAny_pure ⟨_, rfl, ?_⟩
  show Q (.ref r2.objs.size) ⟨q8, gs, dr, k2, os⟩
  rw [size2]
  exact hQ x1 x2 q8 k2 hx1 hx2 z8 (up TO _ S.TOz o4) (D1.frame _ _ _ m1 fun b hb o e => up b o (fun q => S.zf1 (q ▸ hb)) e) (D2.frame _ _ _ m2 fun b hb o e => up b o (fun q => S.zf2 (q ▸ hb)) e) pr8 size8
    fun c o h1 h2 h3 h4 e => up c o h1 (keep c o h1 h2 h3 h4 e)
/-- how the zip stands ahead of pair i -/
def ZA (z TI TO i1 i2 : Addr) (St1 St2 : Nat → Heap → Prop) (i : Nat) (h : Heap) : Prop :=
  IsTupOf2 h TI (.ref i1) (.ref i2) ∧ St1 i h ∧ St2 i h ∧ (∃ a1 a2, IsTupOf2 h TO a1 a2) ∧ ∃ f0 f, zRec h z TI TO f0 f ∧ (f0 = .none ∨ ∃ T : Addr, f0 = rawInt T)
theorem zip_item {Q : Value → Shared → Prop} (S : ZipSep2 z TI TO i1 i2 fp1 fp2) (D1 : Draws prog w A i1 fp1 n1 P1 St1) (D2 : Draws prog w A i2 fp2 n2 P2 St2) (st : ZA z TI TO i1 i2 St1 St2 i s.heap) (hlt1 : i < n1) (hlt2 : i < n2)
    (hQ : ∀ x1 x2 h' tk, P1 i x1 → P2 i x2 → ZA z TI TO i1 i2 St1 St2 (i + 1) h' → IsTupOf2 h' s.heap.objs.size x1 x2 → h'.objs.size = s.heap.objs.size + 1 →
      (∀ c o, c ≠ z → c ≠ TO → c ≠ i1 → c ≠ i2 → s.heap.get? c = some o → h'.get? c = some o) → Q (.ref s.heap.objs.size) { s with heap := h', toks := tk }) :
    wpAny (model prog w) A (Builtin.«zip.__next__» ⟨[.ref z], []⟩) (fun fin s' => ∃ v, fin = .done (.ret v) ∧ Q v s') E s := by
  obtain ⟨hTI, st1, st2, ⟨a1, a2, hTO⟩, f0, f, hz, hf⟩ := st
  have free : (f0 = .none ∨ ∃ T : Addr, f0 = rawInt T ∧ s.heap.get? T = none) → wpAny (model prog w) A (Builtin.«zip.__next__» ⟨[.ref z], []⟩) (fun fin s' => ∃ v, fin = .done (.ret v) ∧ Q v s') E s := fun hfree =>
    free_item S D1 D2 hz hfree hTI hTO st1 st2 hlt1 hlt2 fun x1 x2 h' tk p1 p2 b1 b2 b3 b4 b5 b6 hk => hQ x1 x2 h' tk p1 p2 ⟨hk _ _ S.TIz S.TITO S.TIi1 S.TIi2 hTI, b3, b4, ⟨_, _, b2⟩, _, _, b1, .inr ⟨_, rfl⟩⟩ b5 b6 hk
  rcases hf with rfl | ⟨T, rfl⟩
  · exact free (.inl rfl)
  · cases hT : s.heap.get? T with
    | none => exact free (.inr ⟨T, rfl, hT⟩)
    | some oT =>
      exact LZ.held_item S D1 D2 hz hT hTI st1 st2 hlt1 hlt2 fun x1 x2 h' tk p1 p2 b1 b2 b3 b4 b5 hk => hQ x1 x2 h' tk p1 p2 ⟨hk _ _ S.TIz S.TIi1 S.TIi2 hTI, b2, b3, ⟨a1, a2, hk _ _ S.TOz S.Ti1 S.Ti2 hTO⟩, _, _, b1, .inr ⟨T, rfl⟩⟩ b4 b5
        fun c o c1 _ c3 c4 e => hk c o c1 c3 c4 e
theorem zip_nextOf {Q : Value → Shared → Prop} (S : ZipSep2 z TI TO i1 i2 fp1 fp2) (D1 : Draws prog w A.in1 i1 fp1 n1 P1 St1) (D2 : Draws prog w A.in1 i2 fp2 n2 P2 St2) (st : ZA z TI TO i1 i2 St1 St2 i s.heap) (hlt1 : i < n1) (hlt2 : i < n2)
    (hQ : ∀ x1 x2 h' tk, P1 i x1 → P2 i x2 → ZA z TI TO i1 i2 St1 St2 (i + 1) h' → IsTupOf2 h' s.heap.objs.size x1 x2 → h'.objs.size = s.heap.objs.size + 1 →
      (∀ c o, c ≠ z → c ≠ TO → c ≠ i1 → c ≠ i2 → s.heap.get? c = some o → h'.get? c = some o) → Q (.ref s.heap.objs.size) { s with heap := h', toks := tk }) :
    wpAny (model prog w) A (Builtin.SmallTypes.nextOf (.ref z)) Q E s := by
  have hTy : s.TypeIs (.ref z) "zip" := by
    obtain ⟨_, _, _, _, f0, f, hz, _⟩ := id st
    exact ⟨_, hz, rfl⟩
  unfold Builtin.SmallTypes.nextOf
  exact wpAny_bind (wpAny_callSpecial?_slot (name := Str.ofString "__next__") hTy PySem.F.slot_zip_next (wpAny_call_entry PySem.F.slot_zip_next hTy PySem.F.entry_zip_next
    (zip_item S D1 D2 st hlt1 hlt2 fun x1 x2 h' tk a1 a2 a3 a4 a5 a6 => wpAny_pure (hQ x1 x2 h' tk a1 a2 a3 a4 a5 a6)) (PySem.F.args_zip_next_1 _)))
/-- next, at the end, no tuple held -/
theorem free_end {Q : PySem.Fin → Shared → Prop} (S : ZipSep2 z TI TO i1 i2 fp1 fp2) (D1 : Draws prog w A i1 fp1 n1 P1 St1) (D2 : Draws prog w A i2 fp2 n2 P2 St2)
    (hz : zRec s.heap z TI TO f0 f) (hfree : f0 = .none ∨ ∃ T : Addr, f0 = rawInt T ∧ s.heap.get? T = none) (hTI : IsTupOf2 s.heap TI (.ref i1) (.ref i2)) (hTO : IsTupOf2 s.heap TO a1 a2) (st1 : St1 i s.heap) (st2 : St2 i s.heap) (hle1 : i ≤ n1) (hle2 : i ≤ n2) (hend : i = n1 ∨ i = n2)
    (hE : ∀ h' tk e, (∀ c o, c ≠ z → c ≠ TO → c ≠ i1 → c ≠ i2 → s.heap.get? c = some o → h'.get? c = some o) → (∃ o, h'.get? e = some o ∧ o.cls = .type "StopIteration") → E (.ref e) { s with heap := h', toks := tk }) :
    wpAny (model prog w) A (Builtin.«zip.__next__» ⟨[.ref z], []⟩) Q E s := by
  obtain ⟨hp, g, d, tk0, os⟩ := s
  have isFree : ∀ {Q : Bool → Shared → Prop}, Q true ⟨hp, g, d, tk0, os⟩ → wpAny (model prog w) A (Builtin.SmallTypes.ownedTupleIsFree (.ref z)) Q E ⟨hp, g, d, tk0, os⟩ := fun {Q} q => by
    unfold Builtin.SmallTypes.ownedTupleIsFree
    rcases hfree with rfl | ⟨T, rfl, hT⟩
    · exact wpAny_bind (wpAny_field hz rfl (x := .none) rfl (wpAny_pure q))
    · refine wpAny_bind (wpAny_field hz rfl (x := rawInt T) rfl ?_)
      show wpAny _ _ (loadIfAlive ((T : Int).toNat) >>= _) _ _ _
      rw [Int.toNat_natCast]
      refine wpAny_bind (dead hT ?_)
      exact wpAny_pure q
  show wpAny _ _ (field (.ref z) 2 >>= fun done => _) _ _ _
  refine wpAny_bind (wpAny_field hz rfl (x := .bool false) rfl ?_)
  show wpAny _ _ (field (.ref z) 3 >>= fun its => _) _ _ _
  refine wpAny_bind (wpAny_field hz rfl (x := .ref TI) rfl (wpAny_bind (wpAny_seqItems hTI rfl ?_)))
  refine wpAny_bind (isFree ?_)
  simp only [if_true]
  refine wpAny_bind (wpAny_rule (wpAny_bind (wpAny_field hz rfl (x := .ref TO) rfl (wpAny_bind (wpAny_setField_rec hz (by simp) fun g0 hz0 hs0 => ?_)))))
  replace hz0 : zRec g0 z TI TO .ellipsis f := hz0
  replace hs0 : Heap.SameBut z hp g0 := hs0
  refine wpAny_bind ?_
  simp only [List.zipIdx_cons, List.zipIdx_nil, List.forIn_cons, List.forIn_nil]
  refine wpAny_bind (wpAny_bind (wpAny_onRaise ?_))
  show wpAny _ _ (Builtin.SmallTypes.nextOf (.ref i1) >>= _) _ _ ⟨g0, g, d, tk0, os⟩
  by_cases hlt1 : i < n1
  · refine wpAny_bind (D1.item i _ _ _ hlt1 (D1.over st1 hs0 S.zf1) fun x1 p1 tk1 hx1 sn1 hp1 => wpAny_pure ?_)
    replace hp1 : Heap.SameBut i1 g0 p1 := hp1
    have hU1 : IsTupOf2 p1 TO a1 a2 := hp1.extBut _ _ S.Ti1 (hs0.extBut _ _ S.TOz hTO)
    refine wpAny_bind (wpAny_seqItems (s := ⟨p1, g, d, tk1, os⟩) hU1 rfl ?_)
    refine wpAny_bind (updateSeq_IsTupOf2 (s := ⟨p1, g, d, tk1, os⟩) hU1 fun g1 hT1 hs1 => ?_)
    replace hT1 : IsTupOf2 g1 TO x1 a2 := hT1
    replace hs1 : Heap.SameBut TO p1 g1 := hs1
    refine wpAny_bind (wpAny_letGo (wpAny_pure ?_))
    have hi2 : i = n2 := by omega
    refine wpAny_bind (wpAny_bind (wpAny_onRaise ?_))
    show wpAny _ _ (Builtin.SmallTypes.nextOf (.ref i2) >>= _) _ _ ⟨g1, g, d, tk1, os⟩
    refine wpAny_bind (D2.done ⟨g1, g, d, tk1, os⟩ _ _ (by rw [← hi2]; exact (D2.over (D2.over (D2.over st2 hs0 S.zf2) hp1 S.sep1_2) hs1 S.Tf2)) fun q e hq he => ?_)
    replace hq : Heap.ExtBut i2 g1 q := hq
    obtain ⟨oe, hoe, hce⟩ := he
    replace hoe : q.get? e = some oe := hoe
    have hzq : zRec q z TI TO .ellipsis f := hq _ _ S.zi2 (hs1.extBut _ _ S.TOz.symm (hp1.extBut _ _ S.zi1 hz0))
    have hez : e ≠ z := fun x => by subst x; rw [hzq] at hoe; cases hoe; simp at hce
    refine wpAny_setField_rec (s := ⟨q, g, d, tk1, os⟩) hzq (by simp) fun q' _ hq' => ?_
    replace hq' : Heap.SameBut z q q' := hq'
    exact hE q' tk1 e (fun c o cz cT c1 c2 x => hq'.extBut _ _ cz (hq _ _ c2 (hs1.extBut _ _ cT (hp1.extBut _ _ c1 (hs0.extBut _ _ cz x))))) ⟨oe, hq'.extBut _ _ hez hoe, hce⟩
  · have hi1 : i = n1 := by omega
    refine wpAny_bind (D1.done ⟨g0, g, d, tk0, os⟩ _ _ (by rw [← hi1]; exact (D1.over st1 hs0 S.zf1)) fun q e hq he => ?_)
    replace hq : Heap.ExtBut i1 g0 q := hq
    obtain ⟨oe, hoe, hce⟩ := he
    replace hoe : q.get? e = some oe := hoe
    have hzq : zRec q z TI TO .ellipsis f := hq _ _ S.zi1 hz0
    have hez : e ≠ z := fun x => by subst x; rw [hzq] at hoe; cases hoe; simp at hce
    refine wpAny_setField_rec (s := ⟨q, g, d, tk0, os⟩) hzq (by simp) fun q' _ hq' => ?_
    replace hq' : Heap.SameBut z q q' := hq'
    exact hE q' tk0 e (fun c o cz cT c1 c2 x => hq'.extBut _ _ cz (hq _ _ c1 (hs0.extBut _ _ cz x))) ⟨oe, hq'.extBut _ _ hez hoe, hce⟩
theorem zip_end {Q : PySem.Fin → Shared → Prop} (S : ZipSep2 z TI TO i1 i2 fp1 fp2) (D1 : Draws prog w A i1 fp1 n1 P1 St1) (D2 : Draws prog w A i2 fp2 n2 P2 St2) (st : ZA z TI TO i1 i2 St1 St2 i s.heap) (hle1 : i ≤ n1) (hle2 : i ≤ n2) (hend : i = n1 ∨ i = n2)
    (hE : ∀ h' tk e, (∀ c o, c ≠ z → c ≠ TO → c ≠ i1 → c ≠ i2 → s.heap.get? c = some o → h'.get? c = some o) → (∃ o, h'.get? e = some o ∧ o.cls = .type "StopIteration") → E (.ref e) { s with heap := h', toks := tk }) :
    wpAny (model prog w) A (Builtin.«zip.__next__» ⟨[.ref z], []⟩) Q E s := by
  obtain ⟨hTI, st1, st2, ⟨a1, a2, hTO⟩, f0, f, hz, hf⟩ := st
  rcases hf with rfl | ⟨T, rfl⟩
  · exact free_end S D1 D2 hz (.inl rfl) hTI hTO st1 st2 hle1 hle2 hend hE
  · cases hT : s.heap.get? T with
    | none => exact free_end S D1 D2 hz (.inr ⟨T, rfl, hT⟩) hTI hTO st1 st2 hle1 hle2 hend hE
    | some oT => exact LZ.held_end S D1 D2 hz hT hTI st1 st2 hle1 hle2 hend fun h' tk e hk he => hE h' tk e (fun c o c1 _ c3 c4 x => hk c o c1 c3 c4 x) he
theorem zip_nextOf_end {Q : Value → Shared → Prop} (S : ZipSep2 z TI TO i1 i2 fp1 fp2) (D1 : Draws prog w A.in1 i1 fp1 n1 P1 St1) (D2 : Draws prog w A.in1 i2 fp2 n2 P2 St2) (st : ZA z TI TO i1 i2 St1 St2 i s.heap) (hle1 : i ≤ n1) (hle2 : i ≤ n2) (hend : i = n1 ∨ i = n2)
    (hE : ∀ h' tk e, (∀ c o, c ≠ z → c ≠ TO → c ≠ i1 → c ≠ i2 → s.heap.get? c = some o → h'.get? c = some o) → (∃ o, h'.get? e = some o ∧ o.cls = .type "StopIteration") → E (.ref e) { s with heap := h', toks := tk }) :
    wpAny (model prog w) A (Builtin.SmallTypes.nextOf (.ref z)) Q E s := by
  have hTy : s.TypeIs (.ref z) "zip" := by
    obtain ⟨_, _, _, _, f0, f, hz, _⟩ := id st
    exact ⟨_, hz, rfl⟩
  unfold Builtin.SmallTypes.nextOf
  exact wpAny_bind (wpAny_callSpecial?_slot (name := Str.ofString "__next__") hTy PySem.F.slot_zip_next (wpAny_call_entry PySem.F.slot_zip_next hTy PySem.F.entry_zip_next
    (zip_end S D1 D2 st hle1 hle2 hend hE) (PySem.F.args_zip_next_1 _)))
theorem ZA.keepW {h h' : Heap} (S : ZipSep2 z TI TO i1 i2 fp1 fp2) (D1 : Draws prog w A i1 fp1 n1 P1 St1) (D2 : Draws prog w A i2 fp2 n2 P2 St2) (st : ZA z TI TO i1 i2 St1 St2 i h) (k : ∀ b, b = z ∨ b = TI ∨ b = TO ∨ b ∈ fp1 ∨ b ∈ fp2 → ∀ o, h.get? b = some o → h'.get? b = some o) : ZA z TI TO i1 i2 St1 St2 i h' := by
  obtain ⟨hTI, st1, st2, ⟨a1, a2, hTO⟩, f0, f, hz, hf⟩ := st
  exact ⟨k _ (by simp) _ hTI, D1.frame _ _ _ st1 fun b hb => k b (by simp [hb]), D2.frame _ _ _ st2 fun b hb => k b (by simp [hb]), ⟨a1, a2, k _ (by simp) _ hTO⟩, f0, f, k _ (by simp) _ hz, hf⟩
/-- the next of enumerate(zip) -/
theorem enum_next_item {e : Addr} {c : Int} {old : Value} {Q : Value → Shared → Prop} (S : ZipSep2 z TI TO i1 i2 fp1 fp2) (D1 : Draws prog w A.in1 i1 fp1 n1 P1 St1) (D2 : Draws prog w A.in1 i2 fp2 n2 P2 St2)
    (he : IsEnum s.heap e z c old) (st : ZA z TI TO i1 i2 St1 St2 i s.heap) (hlt1 : i < n1) (hlt2 : i < n2) (hez : e ≠ z ∧ e ≠ TI ∧ e ≠ TO ∧ e ∉ fp1 ∧ e ∉ fp2)
    (hQ : ∀ x1 x2 h' tk, P1 i x1 → P2 i x2 → IsEnumOut h' e z (c + 1) (.ref s.heap.objs.size) (s.heap.objs.size + 1) → ZA z TI TO i1 i2 St1 St2 (i + 1) h' → IsTupOf2 h' s.heap.objs.size x1 x2 →
      h'.get? (s.heap.objs.size + 1) = some { cls := .type "tuple", data := .seq #[.int c tk, .ref s.heap.objs.size] } →
      (∀ b o, b ≠ e → b ≠ z → b ≠ TO → b ≠ i1 → b ≠ i2 → s.heap.get? b = some o → h'.get? b = some o) → Q (.ref (s.heap.objs.size + 1)) { s with heap := h', toks := tk + 1 }) :
    wpAny (model prog w) A (Builtin.«enumerate.__next__» ⟨[.ref e], []⟩) (fun fin s' => ∃ v, fin = .done (.ret v) ∧ Q v s') E s := by
  obtain ⟨hp, g, d, tk₀, os⟩ := s
  obtain ⟨e1, e2, e3, e4, e5⟩ := hez
  have ei1 : e ≠ i1 := fun q => e4 (q ▸ S.mem1)
  have ei2 : e ≠ i2 := fun q => e5 (q ▸ S.mem2)
  show wpAny _ _ (field (.ref e) 2 >>= _) _ _ _
  refine wpAny_bind (wpAny_field he rfl (x := .ref z) rfl ?_)
  refine wpAny_bind (zip_nextOf (A := A) S D1 D2 st hlt1 hlt2 fun x1 x2 h₁ tk hx1 hx2 st₁ hT₁ hz₁ hk₁ => ?_)
  replace hz₁ : h₁.objs.size = hp.objs.size + 1 := hz₁
  replace hT₁ : IsTupOf2 h₁ hp.objs.size x1 x2 := hT₁
  have he₁ : IsEnum h₁ e z c old := hk₁ e _ e1 e3 ei1 ei2 he
  show wpAny _ _ (field (.ref e) 3 >>= _) _ _ ⟨h₁, g, d, tk, os⟩
  refine wpAny_bind (wpAny_field he₁ rfl (x := rawInt c) rfl ?_)
  show wpAny _ _ (field (.ref e) 4 >>= _) _ _ ⟨h₁, g, d, tk, os⟩
  refine wpAny_bind (wpAny_field he₁ rfl (x := .none) rfl ?_)
  show wpAny _ _ (mkInt c >>= _) _ _ ⟨h₁, g, d, tk, os⟩
  refine wpAny_bind (wpAny_mkInt ?_)
  show wpAny _ _ (setField (.ref e) 3 (rawInt (c + 1)) >>= _) _ _ ⟨h₁, g, d, tk + 1, os⟩
  refine wpAny_bind (wpAny_setField_rec he₁ (by simp) fun h₂ he₂ hs₂ => ?_)
  replace hs₂ : Heap.SameBut e h₁ h₂ := hs₂
  replace he₂ : IsEnum h₂ e z (c + 1) old := he₂
  show wpAny _ _ (setField (.ref e) 4 .none >>= _) _ _ ⟨h₂, g, d, tk + 1, os⟩
  refine wpAny_bind (wpAny_setField_rec he₂ (by simp) fun h₃ he₃ hs₃ => ?_)
  replace hs₃ : Heap.SameBut e h₂ h₃ := hs₃
  replace he₃ : IsEnum h₃ e z (c + 1) old := he₃
  show wpAny _ _ (newTuple [.int c tk, .ref hp.objs.size] >>= _) _ _ ⟨h₃, g, d, tk + 1, os⟩
  refine wpAny_bind (wpAny_newTuple ?_)
  have he₄ : IsEnum (h₃.push { cls := .type "tuple", data := .seq #[.int c tk, .ref hp.objs.size] }) e z (c + 1) old := Heap.get?_push_of_some _ he₃
  generalize hh₄ : h₃.push { cls := .type "tuple", data := .seq #[.int c tk, .ref hp.objs.size] } = h₄ at he₄
  have hsz : h₃.objs.size = hp.objs.size + 1 := by rw [hs₃.1, hs₂.1, hz₁]
  have hel : e < hp.objs.size := Heap.lt_size he
  have ht₄ : h₄.get? (hp.objs.size + 1) = some { cls := .type "tuple", data := .seq #[.int c tk, .ref hp.objs.size] } := by rw [← hh₄, ← hsz]; exact Heap.get?_push_size _ rfl
  have up₄ : ∀ b o, b ≠ e → h₁.get? b = some o → h₄.get? b = some o := fun b o hbe hb => by
    rw [← hh₄]; exact Heap.get?_push_of_some _ (hs₃.extBut b o hbe (hs₂.extBut b o hbe hb))
  show wpAny _ _ (Builtin.SmallTypes.ownedTupleIsFree (.ref e) >>= _) _ _ ⟨h₄, g, d, tk + 1, os⟩
  rw [hsz]
  refine wpAny_bind ?_
  unfold Builtin.SmallTypes.ownedTupleIsFree
  refine wpAny_bind (wpAny_field he₄ rfl (x := .none) rfl (wpAny_pure ?_))
  simp only [if_true]
  refine wpAny_bind (wpAny_rule ?_)
  refine wpAny_bind (wpAny_field he₄ rfl (x := old) rfl ?_)
  refine wpAny_bind (wpAny_setField_rec he₄ (by simp) fun h₅ he₅ hs₅ => ?_)
  replace hs₅ : Heap.SameBut e h₄ h₅ := hs₅
  replace he₅ : IsEnum h₅ e z (c + 1) (.ref hp.objs.size) := he₅
  show wpAny _ _ (Builtin.SmallTypes.ownedTupleHandOut (.ref e) (.ref (hp.objs.size + 1)) >>= _) _ _ ⟨h₅, g, d, tk + 1, os⟩
  refine wpAny_bind ?_
  unfold Builtin.SmallTypes.ownedTupleHandOut
  refine wpAny_bind (wpAny_setField_rec he₅ (by simp) fun h₆ he₆ hs₆ => ?_)
  replace hs₆ : Heap.SameBut e h₅ h₆ := hs₆
  replace he₆ : IsEnumOut h₆ e z (c + 1) (.ref hp.objs.size) (hp.objs.size + 1) := he₆
  refine wpAny_setField_rec he₆ (by simp) fun h₇ he₇ hs₇ => ?_
  replace hs₇ : Heap.SameBut e h₆ h₇ := hs₇
  replace he₇ : IsEnumOut h₇ e z (c + 1) (.ref hp.objs.size) (hp.objs.size + 1) := he₇
  have up₇ : ∀ b o, b ≠ e → h₄.get? b = some o → h₇.get? b = some o := fun b o hbe hb => hs₇.extBut b o hbe (hs₆.extBut b o hbe (hs₅.extBut b o hbe hb))
  refine wpAny_bind (wpAny_letGo (wpAny_pure ⟨_, rfl, hQ x1 x2 h₇ tk hx1 hx2 he₇ ?_ ?_ ?_ ?_⟩))
  · exact st₁.keepW S D1 D2 fun b hb o q => up₇ b o (fun x => by
      subst x
      rcases hb with h | h | h | h | h
      · exact e1 h
      · exact e2 h
      · exact e3 h
      · exact e4 h
      · exact e5 h) (up₄ b o (fun x => by
      subst x
      rcases hb with h | h | h | h | h
      · exact e1 h
      · exact e2 h
      · exact e3 h
      · exact e4 h
      · exact e5 h) q)
  · exact up₇ _ _ (Nat.ne_of_gt hel) (up₄ _ _ (Nat.ne_of_gt hel) hT₁)
  · exact up₇ _ _ (Nat.ne_of_gt (Nat.lt_succ_of_lt hel)) ht₄
  · exact fun b o hbe b1 b2 b3 b4 hb => up₇ b o hbe (up₄ b o hbe (hk₁ b o b1 b2 b3 b4 hb))
theorem pyNext_enum_item {e : Addr} {c : Int} {old : Value} {Q : Option Value → Shared → Prop} (S : ZipSep2 z TI TO i1 i2 fp1 fp2) (D1 : Draws prog w A.in1.in1 i1 fp1 n1 P1 St1) (D2 : Draws prog w A.in1.in1 i2 fp2 n2 P2 St2)
    (he : IsEnum s.heap e z c old) (st : ZA z TI TO i1 i2 St1 St2 i s.heap) (hlt1 : i < n1) (hlt2 : i < n2) (hez : e ≠ z ∧ e ≠ TI ∧ e ≠ TO ∧ e ∉ fp1 ∧ e ∉ fp2)
    (hQ : ∀ x1 x2 h' tk, P1 i x1 → P2 i x2 → IsEnumOut h' e z (c + 1) (.ref s.heap.objs.size) (s.heap.objs.size + 1) → ZA z TI TO i1 i2 St1 St2 (i + 1) h' → IsTupOf2 h' s.heap.objs.size x1 x2 →
      h'.get? (s.heap.objs.size + 1) = some { cls := .type "tuple", data := .seq #[.int c tk, .ref s.heap.objs.size] } →
      (∀ b o, b ≠ e → b ≠ z → b ≠ TO → b ≠ i1 → b ≠ i2 → s.heap.get? b = some o → h'.get? b = some o) → Q (some (.ref (s.heap.objs.size + 1))) { s with heap := h', toks := tk + 1 }) :
    wpAny (model prog w) A (pyNext (.ref e)) Q E s := by
  have hT : s.TypeIs (.ref e) "enumerate" := ⟨_, he, rfl⟩
  unfold pyNext
  exact wpAny_bind (wpAny_attempt (wpAny_callSpecial?_slot (name := Str.ofString "__next__") hT PySem.F.slot_enumerate_next
    (wpAny_call_entry PySem.F.slot_enumerate_next hT PySem.F.entry_enumerate_next
      (enum_next_item S D1 D2 he st hlt1 hlt2 hez fun x1 x2 h' tk a b c d k q r => wpAny_pure (hQ x1 x2 h' tk a b c d k q r)) (PySem.F.args_enumerate_next_1 _))))
theorem pyNext_enum_end {e : Addr} {c : Int} {old : Value} {Q : Option Value → Shared → Prop} (S : ZipSep2 z TI TO i1 i2 fp1 fp2) (D1 : Draws prog w A.in1.in1 i1 fp1 n1 P1 St1) (D2 : Draws prog w A.in1.in1 i2 fp2 n2 P2 St2)
    (he : IsEnum s.heap e z c old) (st : ZA z TI TO i1 i2 St1 St2 i s.heap) (hle1 : i ≤ n1) (hle2 : i ≤ n2) (hend : i = n1 ∨ i = n2)
    (hQ : ∀ h' tk, (∀ c o, c ≠ z → c ≠ TO → c ≠ i1 → c ≠ i2 → s.heap.get? c = some o → h'.get? c = some o) → Q none { s with heap := h', toks := tk }) :
    wpAny (model prog w) A (pyNext (.ref e)) Q E s := by
  have hT : s.TypeIs (.ref e) "enumerate" := ⟨_, he, rfl⟩
  unfold pyNext
  refine wpAny_bind (wpAny_attempt (wpAny_callSpecial?_slot (name := Str.ofString "__next__") hT PySem.F.slot_enumerate_next
    (wpAny_call_entry PySem.F.slot_enumerate_next hT PySem.F.entry_enumerate_next ?_ (PySem.F.args_enumerate_next_1 _))))
  show wpAny _ _ (field (.ref e) 2 >>= _) _ _ _
  refine wpAny_bind (wpAny_field he rfl (x := .ref z) rfl ?_)
  refine wpAny_bind (zip_nextOf_end (A := A.in1) S D1 D2 st hle1 hle2 hend fun h' tk e hk he' => ?_)
  obtain ⟨o, ho, hc⟩ := he'
  refine wpAny_bind (wpAny_isInstance (T := "StopIteration") (b := true) ⟨o, ho, hc⟩ isSubtype_stop ?_)
  exact wpAny_pure (hQ _ _ hk)
end
end Sw.ZE

/-! EnumZip: for i, (a, b) in enumerate(zip(x, y)), of two lists. -/
set_option Elab.async false
set_option linter.all false
set_option maxRecDepth 100000
set_option maxHeartbeats 4000000
namespace Sw.ZE
open PySem PySem.Spec PyProof.Rows L2
/-- an iterator's turn, and new objects are laid -/
theorem turnedMany {X : Cx} {pins : List (Addr × Obj)} {σ : L2.St} {H H' : Hp} {s : Shared} {h' : Heap} {t' : Nat} {ch : List Addr} (I : Inv X pins σ H s) (k : ∀ b o, b ∉ ch → s.heap.get? b = some o → h'.get? b = some o) (hf : ∀ b ∈ ch, FpOk X pins H b)
    (kp : ∀ b u, H b = some u → H' b = some u) (low : ∀ b, b < s.heap.objs.size → H' b = H b) (new : ∀ b u, H b = none → H' b = some u → ObjOk X.prog X.w H' h' b u) : Inv X pins σ H' { s with heap := h', toks := t' } := by
  have nit : ∀ b u, H b = some u → b ∉ ch := fun b u e z => by
    have q := (hf b z).1
    rw [q] at e; cases e
  refine I.step (g' := s.gens) (d' := s.drawn) (ch := ch) (fun b hb => ⟨(hf b hb).2.2.2.1, (hf b hb).2.1, (hf b hb).2.2.2.2.1, (hf b hb).2.2.2.2.2⟩) (fun b o _ _ hc e _ => k b o hc e) (fun b o _ _ hc e _ => ⟨o.slots, k b o hc e⟩)
    (fun b o _ e n => ?_) (fun b o hc e => ⟨o, k b o hc e⟩) (fun b xs e => kp b _ e) (fun b o u e => kp b _ e) (fun b ps e => ⟨#[], by rw [kp b _ e]; simp⟩) (fun m hm => ?_) (fun b u e => ?_) I.bare
  · rw [low b (Heap.lt_size e)]; exact n
  · obtain ⟨o, es, ep, ho, r⟩ := hm
    exact ⟨o, es, ep, k _ o (fun z => (hf _ z).2.1 rfl) ho, r⟩
  · cases hb : H b with
    | none => exact new b u hb e
    | some v =>
      have := kp b v hb
      rw [e] at this
      cases this
      refine (I.hok b u hb).stay (fun c v hc q => k c v ?_ q) (fun c q => kp c _ q) fun c xs q => kp c _ q
      rcases hc with z | z
      · rw [z]; exact nit b u hb
      · exact nit c _ z
/-- the walk: a new pair in a new pair -/
def Itez (K : PySem.W.Frag) (a b : Addr) (n1 n2 : Nat) : It :=
  ⟨fun i H => ∃ (xs ys : List V) (x y : V), SqL K H a xs ∧ SqL K H b ys ∧ xs.length = n1 ∧ ys.length = n2 ∧ xs[i]? = some x ∧ ys[i]? = some y,
    fun i H v H' => ∃ T T2 x y, v = .ref T2 ∧ H T = none ∧ (upd H T (.tup [x, y])) T2 = none ∧ H' = upd (upd H T (.tup [x, y])) T2 (.tup [.int (i : Nat), .ref T]) ∧ (∀ xs, SqL K H a xs → xs[i]? = some x) ∧ ∀ ys, SqL K H b ys → ys[i]? = some y,
    fun i H => ∃ xs ys : List V, SqL K H a xs ∧ SqL K H b ys ∧ xs.length = n1 ∧ ys.length = n2 ∧ min n1 n2 ≤ i⟩
abbrev zaT (z TI TO i1 i2 a b : Addr) : Nat → Heap → Prop := ZA z TI TO i1 i2 (fun i h => h.IsListIter i1 a i) (fun i h => h.IsListIter i2 b i)
theorem turn_enumzip {P : Program} {w : World} {K : PySem.W.Frag} {elts : List Expr} {kk : Nat} {tpos : Pos} {a b e z TI TO i1 i2 : Addr} {n1 n2 : Nat} (D : ZipSep2 z TI TO i1 i2 [i1, a] [i2, b]) (hez : e ≠ z ∧ e ≠ TI ∧ e ≠ TO ∧ e ∉ [i1, a] ∧ e ∉ [i2, b]) (ne1 : a ≠ i1) (ne2 : b ≠ i2) :
    Turn P w K (.Tuple elts kk tpos) (Itez K a b n1 n2) [e, z, TI, TO, i1, i2] e (fun i h => (i ≤ min n1 n2 ∧ ∃ old, IsEnum h e z ((i : Nat) : Int) old) ∧ zaT z TI TO i1 i2 a b i h) where
  mem := by simp
  obj := fun i h st c hc => by
    obtain ⟨⟨_, old, he⟩, hTI, ⟨o1, e1, _, d1⟩, ⟨o2, e2, _, d2⟩, ⟨x, y, hTO⟩, f0, f, hz, _⟩ := st
    have e' : c = e ∨ c = z ∨ c = TI ∨ c = TO ∨ c = i1 ∨ c = i2 := by simpa using hc
    rcases e' with q | q | q | q | q | q
    · rw [q]; exact ⟨_, he, fun v q => nomatch q⟩
    · rw [q]; exact ⟨_, hz, fun v q => nomatch q⟩
    · rw [q]; exact ⟨_, hTI, fun v q => nomatch q⟩
    · rw [q]; exact ⟨_, hTO, fun v q => nomatch q⟩
    · rw [q]; exact ⟨o1, e1, fun v q => by rw [d1] at q; cases q⟩
    · rw [q]; exact ⟨o2, e2, fun v q => by rw [d2] at q; cases q⟩
  keep := fun i h h' st k => by
    obtain ⟨⟨hle, old, he⟩, hTI, h1, h2, ⟨x, y, hTO⟩, f0, f, hz, hf⟩ := st
    exact ⟨⟨hle, old, k e (by simp) _ he⟩, k TI (by simp) _ hTI, h1.at fun o q => k i1 (by simp) o q, h2.at fun o q => k i2 (by simp) o q, ⟨x, y, k TO (by simp) _ hTO⟩, f0, f, k z (by simp) _ hz, hf⟩
  item := by
    intro X hP hw hK hc i pins s σ H E I hfp st hg
    subst hP hw hK
    obtain ⟨⟨hle, old, he⟩, hTI, h1, h2, hTO, f0, f, hz, hf⟩ := st
    obtain ⟨xs, ys, x, y, hqx, hqy, hn1, hn2, hx, hy⟩ := hg
    obtain ⟨its, rv, p, _⟩ := I.list hqx
    obtain ⟨its2, rv2, p2, _⟩ := I.list hqy
    obtain ⟨u, hu, ru⟩ := rv.get hx
    obtain ⟨u2, hu2, ru2⟩ := rv2.get hy
    have hh : X.A.in1.in1.handled = none := by simp [I.ok.hd hc]
    have hel : e < s.heap.objs.size := Heap.lt_size he
    have D1 := Draws.list (prog := X.prog) (w := X.w) hh i1 a ne1 its.toArray
    have D2 := Draws.list (prog := X.prog) (w := X.w) hh i2 b ne2 its2.toArray
    have st : ZA z TI TO i1 i2 (fun i h => h.IsListIter i1 a i ∧ h.IsList a its.toArray) (fun i h => h.IsListIter i2 b i ∧ h.IsList b its2.toArray) i s.heap := ⟨hTI, ⟨h1, p.isList⟩, ⟨h2, p2.isList⟩, hTO, f0, f, hz, hf⟩
    have hu' : its.toArray[i]? = some u := by simpa using hu
    have hu2' : its2.toArray[i]? = some u2 := by simpa using hu2
    refine pyNext_enum_item D D1 D2 he st (by exact (Array.getElem?_eq_some_iff.mp hu').1) (by exact (Array.getElem?_eq_some_iff.mp hu2').1) hez fun x1 x2 h' tk q1 q2 ho za hT hT2 hk => ?_
    have e1 : x1 = u := Option.some.inj (q1.symm.trans hu')
    have e2 : x2 = u2 := Option.some.inj (q2.symm.trans hu2')
    subst e1 e2
    refine ⟨_, rfl, wpAny_letOwnedTupleGo_enum (s := { s with heap := h', toks := tk + 1 }) ho fun h'' he' sb => ?_⟩
    have sb : Heap.SameBut e h' h'' := sb
    have hT' : h''.get? s.heap.objs.size = some { cls := .type "tuple", data := .seq #[x1, x2] } := (sb.2 _ (Nat.ne_of_gt hel)).trans hT
    have hT2' : h''.get? (s.heap.objs.size + 1) = some { cls := .type "tuple", data := .seq #[.int i tk, .ref s.heap.objs.size] } := (sb.2 _ (Nat.ne_of_gt (Nat.lt_succ_of_lt hel))).trans hT2
    have hn1 : H s.heap.objs.size = none := I.hok.fresh (Nat.le_refl _)
    have hn2 : (upd H s.heap.objs.size (.tup [x, y])) (s.heap.objs.size + 1) = none := by
      rw [upd_ne (Nat.succ_ne_self _)]; exact I.hok.fresh (Nat.le_succ _)
    have I1 : Inv X pins σ (upd (upd H s.heap.objs.size (.tup [x, y])) (s.heap.objs.size + 1) (.tup [.int (i : Nat), .ref s.heap.objs.size])) { s with heap := h'', toks := tk + 1 } := by
      have hk3 : ∀ b o, b ∉ [e, z, TI, TO, i1, i2] → s.heap.get? b = some o → h''.get? b = some o := fun b o hb e => by
        simp only [List.mem_cons, List.not_mem_nil, or_false, not_or] at hb
        exact (sb.2 b hb.1).trans (hk b o hb.1 hb.2.1 hb.2.2.2.1 hb.2.2.2.2.1 hb.2.2.2.2.2 e)
      refine turnedMany I hk3 hfp (fun b v e => ?_) (fun b hb => ?_) (fun b v e0 e => ?_)
      · have b1 : b ≠ s.heap.objs.size := ne_of_none e hn1
        rw [upd_ne (fun q => by rw [q, I.hok.fresh (Nat.le_succ _)] at e; cases e), upd_ne b1]; exact e
      · rw [upd_ne (Nat.ne_of_lt (Nat.lt_succ_of_lt hb)), upd_ne (Nat.ne_of_lt hb)]
      · by_cases b2 : b = s.heap.objs.size + 1
        · rw [b2, upd_same] at e
          cases e
          rw [b2]
          exact ⟨by show 2 ≤ sizeLine; decide, [.int i tk, .ref s.heap.objs.size], .cons ⟨_, rfl⟩ (.cons rfl .nil), ⟨_, hT2', rfl, _, rfl⟩⟩
        · rw [upd_ne b2] at e
          by_cases b1 : b = s.heap.objs.size
          · rw [b1, upd_same] at e
            cases e
            rw [b1]
            exact ⟨by show 2 ≤ sizeLine; decide, [x1, x2], .cons ru (.cons ru2 .nil), ⟨_, hT', rfl, _, rfl⟩⟩
          · rw [upd_ne b1, e0] at e; cases e
    refine ⟨.ref (s.heap.objs.size + 1), _, I1, rfl, ⟨_, _, x, y, rfl, hn1, hn2, rfl, fun xs' hq => by rw [I.list_inj hq hqx]; exact hx, fun ys' hq => by rw [I.list_inj hq hqy]; exact hy⟩, ⟨⟨?_, .ref s.heap.objs.size, ?_⟩, ?_⟩, fun b hb => ?_⟩
    · have b1 := (List.getElem?_eq_some_iff.mp hx).1
      have b2 := (List.getElem?_eq_some_iff.mp hy).1
      omega
    · have e1 : ((i + 1 : Nat) : Int) = (i : Int) + 1 := by omega
      rw [e1]; exact he'
    · obtain ⟨g1, ⟨g2, _⟩, ⟨g3, _⟩, ⟨v1, v2, g4⟩, f0', f', g5, g6⟩ := za
      have m1 : e ≠ i1 := fun q => hez.2.2.2.1 (by simp [q])
      have m2 : e ≠ i2 := fun q => hez.2.2.2.2 (by simp [q])
      exact ⟨(sb.2 _ hez.2.1.symm).trans g1, g2.at fun o q => (sb.2 _ m1.symm).trans q, g3.at fun o q => (sb.2 _ m2.symm).trans q, ⟨v1, v2, (sb.2 _ hez.2.2.1.symm).trans g4⟩, f0', f', (sb.2 _ hez.1.symm).trans g5, g6⟩
    · have hlt : b < s.heap.objs.size := by
        have e' : b = e ∨ b = z ∨ b = TI ∨ b = TO ∨ b = i1 ∨ b = i2 := by simpa using hb
        rcases e' with q | q | q | q | q | q
        · rw [q]; exact hel
        · rw [q]; exact Heap.lt_size hz
        · rw [q]; exact Heap.lt_size hTI
        · rw [q]; obtain ⟨_, _, e1⟩ := hTO; exact Heap.lt_size e1
        · rw [q]; obtain ⟨_, e1, _⟩ := h1; exact Heap.lt_size e1
        · rw [q]; obtain ⟨_, e2, _⟩ := h2; exact Heap.lt_size e2
      rw [upd_ne (Nat.ne_of_lt (Nat.lt_succ_of_lt hlt)), upd_ne (Nat.ne_of_lt hlt)]
      exact (hfp b hb).1
  done := by
    intro X hP hw hK hc i pins s σ H E I hfp st hg
    subst hP hw hK
    obtain ⟨⟨hle, old, he⟩, hTI, h1, h2, hTO, f0, f, hz, hf⟩ := st
    obtain ⟨xs, ys, hqx, hqy, hn1, hn2, hend⟩ := hg
    obtain ⟨its, rv, p, _⟩ := I.list hqx
    obtain ⟨its2, rv2, p2, _⟩ := I.list hqy
    have hh : X.A.in1.in1.handled = none := by simp [I.ok.hd hc]
    have D1 := Draws.list (prog := X.prog) (w := X.w) hh i1 a ne1 its.toArray
    have D2 := Draws.list (prog := X.prog) (w := X.w) hh i2 b ne2 its2.toArray
    have st : ZA z TI TO i1 i2 (fun i h => h.IsListIter i1 a i ∧ h.IsList a its.toArray) (fun i h => h.IsListIter i2 b i ∧ h.IsList b its2.toArray) i s.heap := ⟨hTI, ⟨h1, p.isList⟩, ⟨h2, p2.isList⟩, hTO, f0, f, hz, hf⟩
    have l1 := rv.length
    have l2 := rv2.length
    refine pyNext_enum_end D D1 D2 he st (by simp; omega) (by simp; omega) (by simp; omega) fun h' tk hk => ⟨rfl, ?_⟩
    refine turnedMany I (ch := [e, z, TI, TO, i1, i2]) (fun b o hb q => ?_) hfp (fun _ _ q => q) (fun _ _ => rfl) (fun b v e0 e1 => by rw [e0] at e1; cases e1)
    simp only [List.mem_cons, List.not_mem_nil, or_false, not_or] at hb
    exact hk b o hb.2.1 hb.2.2.2.1 hb.2.2.2.2.1 hb.2.2.2.2.2 q
  self := fun A i s Q E st h => let ⟨⟨_, _, he⟩, _⟩ := st; wpAny_pyIter_enum he h
theorem meets_enumerate_newZ {z TI TO : Addr} {f0 : Value} :
    Meets (Builtin.«enumerate.__new__» ⟨[.type "enumerate", .ref z], []⟩) (fun _ R s => IsZip s.heap z TI TO f0 ∧
      R (.ok (.ret (.ref s.heap.objs.size))) { s with heap := s.heap.push { cls := .type "enumerate", data := .fields #[.none, .bool false, .ref z, rawInt 0, .none, .none] } }) :=
  .of_wp fun prog w A R s h => by
    obtain ⟨hp, g, d, tk, os⟩ := s; obtain ⟨h1, h⟩ := h
    have hsub := sub_enumerate
    have q1 : ∀ {A' : Around} {E : Value → Shared → Prop} {Q : Value → Shared → Prop}, Q (.ref z) ⟨hp, g, d, tk, os⟩ → wpAny (model prog w) A' (pyIter (.ref z)) Q E ⟨hp, g, d, tk, os⟩ :=
      fun q => wpAny_pyIter_zip (s := ⟨hp, g, d, tk, os⟩) h1 q
    wp_walk using q1
    refine wpAny_stack_any fun st => wpAny_pure ?_
    split
    · rename_i c _ _ _ _ _
      cases (c == Value.type "enumerate")
      · wp_walk using q1
        exact ⟨_, rfl, h⟩
      · wp_walk using q1
        exact ⟨_, rfl, h⟩
    · wp_walk using q1
      exact ⟨_, rfl, h⟩
theorem call_enumerate_zip {prog : Program} {w : World} {A : Around} {E : Value → Shared → Prop} {s : Shared} {z TI TO : Addr} {f0 : Value} {Q : Value → Shared → Prop} (hz : IsZip s.heap z TI TO f0)
    (h : ∀ h', IsEnum h' s.heap.objs.size z 0 .none → (∀ b o, s.heap.get? b = some o → h'.get? b = some o) → Q (.ref s.heap.objs.size) { s with heap := h' }) :
    wpAny (model prog w) A (call (.type "enumerate") [.ref z]) Q E s := by
  refine callType_new PySem.F.called_enumerate (by decide) (PySem.F.typeCall_enumerate_1 _) (PySem.F.newCall_enumerate_1 _) (fun obj => PySem.F.args_object_init_2 obj _) PySem.F.entry_enumerate_new
    meets_enumerate_newZ ⟨hz, ?_⟩
  have he : IsEnum (s.heap.push { cls := .type "enumerate", data := .fields #[.none, .bool false, .ref z, rawInt 0, .none, .none] }) s.heap.objs.size z 0 .none := Heap.get?_push_size _ rfl
  exact ⟨⟨_, he, rfl⟩, h _ he fun b o x => Heap.get?_push_of_some _ x⟩
theorem pi_enumzip {X : Cx} {x y : Expr} {ta : TA} {p p2 pos q tpos : Pos} {elts : List Expr} {kk : Nat} (hg : Gl X "enumerate") (hm : X.mg "enumerate" = none) (hg2 : Gl X "zip") (hm2 : X.mg "zip" = none) (ha : PA X [x, y] ta)
    (hs : starEach [x, y] X.env = (false, eval x X.env) :: starEach [y] X.env := by rfl) (hpl : (backTo q (starEach [y] X.env)).any (·.1) = false := by rfl)
    (hs2 : starEach [.Call (.Name "zip" p2) [x, y] [] q] X.env = [(false, eval (.Call (.Name "zip" p2) [x, y] [] q) X.env)] := by rfl) :
    PI X (.Tuple elts kk tpos) (.Call (.Name "enumerate" p) [.Call (.Name "zip" p2) [x, y] [] q] [] pos) (fun σ H R => ta σ H fun vs H1 => ∃ (a b : Addr) (xs ys : List V), vs = [.ref a, .ref b] ∧ SqL X.K H1 a xs ∧ SqL X.K H1 b ys ∧ R (Itez X.K a b xs.length ys.length) H1) := by
  refine ⟨fun pins s σ H R I h => ?_⟩
  refine Call_ (ld_blt I hg hm boot_enumerate (PyProof.Rows.callWith_type1 (PyProof.Rows.args_cons ?_ hs2) hs2 rfl))
  refine Call_ (ld_blt I hg2 hm2 PyProof.Rows.boot_zip (PyProof.Rows.callWith_type1 (thn (ha.run q pins s σ H _ I h) fun us s1 ⟨vs, H1, I1, r1, q1⟩ => ?_) hs hpl))
  obtain ⟨a, b, xs, ys, ex, ha1, hb1, q1⟩ := q1
  subst ex
  cases r1 with
  | cons r rr =>
    cases rr with
    | cons r' rr =>
      cases rr
      cases r
      cases r'
      obtain ⟨its, rv, p1, hz1⟩ := I1.list ha1
      obtain ⟨its2, rv2, p2, hz2⟩ := I1.list hb1
      have l1 : a < s1.heap.objs.size := p1.lt
      have l2 : b < s1.heap.objs.size := p2.lt
      refine call_zip_2 p1.isList p2.isList fun h' hz hTI hTO h1 h2 hsz hk => PyProof.Rows.args_nil ?_
      have S := zip_sep2 (N := s1.heap.objs.size) (fp1 := [a]) (fp2 := [b]) (fun c hc => (List.mem_singleton.mp hc).symm ▸ l1) (fun c hc => (List.mem_singleton.mp hc).symm ▸ l2)
      refine call_enumerate_zip (s := { s1 with heap := h' }) hz fun h'' he hk2 => wpAny_pyIter_enum he ?_
      have esz : (Shared.heap { s1 with heap := h' }).objs.size = s1.heap.objs.size + 5 := hsz
      rw [esz] at he ⊢
      have hk3 : ∀ b o, s1.heap.get? b = some o → h''.get? b = some o := fun b o e => hk2 b o (hk b o e)
      have I2 : Inv X pins σ H1 { s1 with heap := h'' } := I1.kept (t' := s1.toks) hk3
      have n1 : a ≠ s1.heap.objs.size := Nat.ne_of_lt l1
      have n2 : b ≠ s1.heap.objs.size + 1 := Nat.ne_of_lt (Nat.lt_succ_of_lt l2)
      have ge : ∀ k, a ≠ s1.heap.objs.size + k := fun k => Nat.ne_of_lt (Nat.lt_of_lt_of_le l1 (Nat.le_add_right _ _))
      have ge2 : ∀ k, b ≠ s1.heap.objs.size + k := fun k => Nat.ne_of_lt (Nat.lt_of_lt_of_le l2 (Nat.le_add_right _ _))
      refine ⟨s1.heap.objs.size + 5, [s1.heap.objs.size + 5, s1.heap.objs.size + 4, s1.heap.objs.size + 2, s1.heap.objs.size + 3, s1.heap.objs.size, s1.heap.objs.size + 1], _, _, H1, rfl, I2, turn_enumzip S ⟨?_, ?_, ?_, ?_, ?_⟩ n1 n2,
        ⟨⟨Nat.zero_le _, .none, he⟩, hk2 _ _ hTI, h1.at fun o q => hk2 _ o q, h2.at fun o q => hk2 _ o q, ⟨_, _, hk2 _ _ hTO⟩, _, _, hk2 _ _ hz, .inl rfl⟩, fun c hc => ?_, q1⟩
      · exact fun q => by have := Nat.add_left_cancel q; omega
      · exact fun q => by have := Nat.add_left_cancel q; omega
      · exact fun q => by have := Nat.add_left_cancel q; omega
      · intro hm
        rcases List.mem_cons.mp hm with q | q
        · have := Nat.add_left_cancel (show s1.heap.objs.size + 5 = s1.heap.objs.size + 0 from q); omega
        · exact ge 5 (List.mem_singleton.mp q).symm
      · intro hm
        rcases List.mem_cons.mp hm with q | q
        · have := Nat.add_left_cancel (show s1.heap.objs.size + 5 = s1.heap.objs.size + 1 from q); omega
        · exact ge2 5 (List.mem_singleton.mp q).symm
      · have hle : s1.heap.objs.size ≤ c := by
          simp only [List.mem_cons, List.not_mem_nil, or_false] at hc
          rcases hc with z | z | z | z | z | z <;> rw [z] <;> first | exact Nat.le_add_right _ _ | exact Nat.le_refl _
        exact I1.fpOk hle (I1.hok.fresh hle)
end Sw.ZE
namespace Sw
open PySem PySem.Spec PyProof.Rows L2
variable [LamT]
section
variable {K : Frag} {mg : Str → Option Value} {B : Addr → Prop} {φ : List Addr} {H : Hp} {st : Store} {vs ws : List V} {a b : Addr}
theorem it_enumZ {xs ys : List D} (rs : RS K mg B φ H st) (sq : H a = some (.lst vs)) (nb : ¬ B a) (q : RDs K B φ H vs xs) (sq2 : H b = some (.lst ws)) (nb2 : ¬ B b) (q2 : RDs K B φ H ws ys) : ItRel K mg (ZE.Itez K a b vs.length ws.length) (enumZ xs ys) B φ H := fun B' φ' H' st' g rs' i => by
  have s1 : SqL K H' a vs := SqL.of (g.lstOn rs _ _ sq nb).1
  have s2 : SqL K H' b ws := SqL.of (g.lstOn rs _ _ sq2 nb2).1
  have h1 := q.length
  have h2 := q2.length
  unfold enumZ
  by_cases hlt : i < (xs.zip ys).length
  · rw [List.length_zip] at hlt
    refine ⟨fun hi => ?_, fun d hd => ?_⟩
    · rw [List.length_mapIdx, List.length_zip] at hi; omega
    · rw [List.getElem?_mapIdx] at hd
      cases hp : (xs.zip ys)[i]? with
      | none => rw [hp] at hd; cases hd
      | some p =>
        rw [hp] at hd
        cases hd
        rw [List.getElem?_zip_eq_some] at hp
        obtain ⟨v, hv, rv⟩ := q.get hp.1
        obtain ⟨w, hw, rw'⟩ := q2.get hp.2
        refine ⟨⟨vs, ws, v, w, s1, s2, rfl, rfl, hv, hw⟩, fun z H'' hz => ?_⟩
        obtain ⟨T, T2, x', y', rfl, hT, hT2, rfl, k1, k2⟩ := hz
        have e1 := (k1 vs s1).symm.trans hv
        have e2 := (k2 ws s2).symm.trans hw
        cases e1
        cases e2
        obtain ⟨B1, g1, rs1, r1⟩ := yld_pair rs' (RD.go rs g rv) (RD.go rs g rw') hT
        obtain ⟨B2, g2, rs2, r2⟩ := yld_pair rs1 (.int _) r1 hT2
        exact ⟨B2, g1.trans g2, rs2, r2⟩
  · rw [List.length_zip] at hlt
    refine ⟨fun hi => ⟨vs, ws, s1, s2, rfl, rfl, by omega⟩, fun d hd => ?_⟩
    have := (List.getElem?_eq_some_iff.mp hd).1
    rw [List.length_mapIdx, List.length_zip] at this
    omega
end
section
variable {X : Cx} {x y : Expr} {ca cb : Ex} {p p2 pos q tpos : Pos} {elts : List Expr} {kk : Nat}
theorem ri_enumzip (hg : Gl X "enumerate") (hm : X.mg "enumerate" = none) (hg2 : Gl X "zip") (hm2 : X.mg "zip" = none) (ha : RA X [x, y] (aCons ca (aCons cb aNil)))
    (hs : starEach [x, y] X.env = (false, eval x X.env) :: starEach [y] X.env := by rfl) (hpl : (backTo q (starEach [y] X.env)).any (·.1) = false := by rfl)
    (hs2 : starEach [.Call (.Name "zip" p2) [x, y] [] q] X.env = [(false, eval (.Call (.Name "zip" p2) [x, y] [] q) X.env)] := by rfl) :
    RI X (.Tuple elts kk tpos) (.Call (.Name "enumerate" p) [.Call (.Name "zip" p2) [x, y] [] q] [] pos) (iEnumZip ca cb) := fun W tk =>
  (ZE.pi_enumzip hg hm hg2 hm2 (ha W tk).know hs hpl hs2).imp fun σ H R h => args_two h fun v u H1 ⟨B, φ, e, st, d, d2, r, st', re, rs, rd, rd2, hc, fin⟩ => by
    obtain ⟨ds, rfl, rfl, hd⟩ := look_eq hc
    cases d <;> try (cases hd; done)
    all_goals cases d2 <;> try (cases hd; done)
    cases hd
    cases rd with | lst s1 n1 q1 => cases rd2 with | lst s2 n2 q2 =>
    rintro ⟨pins, s, I⟩
    obtain ⟨_, _, _, hl⟩ := I.list (SqL.of s1)
    exact ⟨_, _, _, _, rfl, SqL.of s1, SqL.of s2, fin _ _ _ _ (.refl rs) rs (it_enumZ rs s1 n1 q1 s2 n2 q2) (by unfold enumZ; rw [List.length_mapIdx, List.length_zip, ← q1.length]; omega)⟩
end
end Sw

/-! Init: an own exception whose __init__ says super().__init__(p, ..), then self.p = p for each p. -/
set_option Elab.async false
set_option linter.all false
set_option maxRecDepth 100000
set_option maxHeartbeats 4000000
namespace Sw
open PySem PySem.Spec PyProof.Rows L2
variable [LamT]
abbrev mwO (x : Addr) : Obj := W.kxs_mw "ValueError.__init__" x
section
variable {prog : Program} {w : World} {A : Around} {E : Value → Shared → Prop} {h : Heap} {g : Array GenState} {d : Drawn} {t : Nat} {os : OsState}
variable {nm q : Str} {C N : Addr} {bs bm : List Value} {hdct : Bool} {sn : List Str} {sub : List Value} {ab : Bool} {col : Option Bool} {dd : Option Addr} {k0 k1 k2 k3 k5 : Option Value}
theorem call_mw {u e t0 : Addr} {us : List Value} {Q : Value → Shared → Prop} (oC : h.get? C = some (excClassObj nm q C N bs bm hdct sn sub ab col dd k0 k1 k2 k3 k5 "ValueError.__new__"))
    (oe : h.get? e = some (HandSPX.excO C t0)) (ou : h.get? u = some (mwO e)) (lu : us.length ≤ sizeLine)
    (fin : ∀ h' t1, (∀ b o, b ≠ e → h.get? b = some o → h'.get? b = some o) → h'.get? e = some (HandSPX.excO C t1) → Q .none ⟨h', g, d, t, os⟩) :
    wpAny (model prog w) A (call (.ref u) us) Q E ⟨h, g, d, t, os⟩ := by
  refine wpAny_call (codeAny_of_tree (show wpAny _ A.in1 (callAny (.ref u) ⟨us, []⟩) _ _ _ from ?_))
  unfold callAny
  refine wpAny_bind (wpAny_load ou ?_)
  dsimp only [mwO, W.kxs_mw]
  refine W.KFB.if_so (by decide) ?_
  refine W.KFB.if_so (by decide) ?_
  refine wpAny_bind (W.check_bound_init F.excBase_ValueError.toExcCallFacts oC oe rfl (wpAny_bind (wpAny_pure (wpAny_pure ?_))))
  refine ⟨plainId_quiet F.excBase_ValueError.init.plain _, codeAny_builtin F.excBase_ValueError.initEntry ?_⟩
  exact W.exc_init_tree (cls := .ref C) (t0 := t0) (dv := none) (c2 := .none) (c3 := .none) (b4 := .bool false) oe lu fun h' k e1 _ => fin h' _ k e1
end
theorem lookup_rev {α : Type} {x : Str} {v : α} : ∀ {ps : List Str} {us : List α} {i : Nat}, ps.Nodup → ps[i]? = some x → us[i]? = some v → (ps.zip us).reverse.lookup x = some v
  | [], _, _, _, h, _ => by simp at h
  | _ :: _, [], _, _, _, h => by simp at h
  | p :: ps, u :: us, 0, nd, h1, h2 => by
    simp at h1 h2; subst h1; subst h2
    rw [List.zip_cons_cons, List.reverse_cons, List.lookup_append]
    have : (ps.zip us).reverse.lookup p = none := by
      rw [List.lookup_eq_none_iff]
      intro q hq
      have hq := List.of_mem_zip (List.mem_reverse.mp hq)
      have : p ≠ q.1 := fun e => (List.nodup_cons.mp nd).1 (e ▸ hq.1)
      simpa using this
    rw [this]
    simp
  | p :: ps, u :: us, i + 1, nd, h1, h2 => by
    rw [List.zip_cons_cons, List.reverse_cons, List.lookup_append, lookup_rev (List.nodup_cons.mp nd).2 (by simpa using h1) (by simpa using h2)]
    rfl
/-- the scope of such a def -/
structure ScopeI (ps : List Str) (sc : Scope) : Prop where
  kind : sc.kind = .function
  co : sc.isCoroutine = false
  gen : sc.isGenerator = false
  nd : ps.Nodup
  par : ∀ x ∈ ps, sc.names.lookup x = some .local
  nocell : ∀ x ∈ sc.names, x.2 ≠ .cell
  fr : ∀ x ∈ sc.names, x.2 = .free → x.1 = "__class__"
  cls : sc.names.lookup ("__class__" : Str) = some .free
  sup : sc.names.lookup ("super" : Str) = some .globalImplicit
def scopeIB (ps : List Str) (sc : Scope) : Bool :=
  decide (sc.kind = .function) && !sc.isCoroutine && !sc.isGenerator && decide ps.Nodup && (ps.all fun x => decide (sc.names.lookup x = some .local)) &&
    (sc.names.all fun x => !decide (x.2 = .cell) && (!decide (x.2 = .free) || decide (x.1 = "__class__"))) && decide (sc.names.lookup ("__class__" : Str) = some .free) && decide (sc.names.lookup ("super" : Str) = some .globalImplicit)
theorem scopeIB_ok {ps : List Str} {sc : Scope} (h : scopeIB ps sc = true) : ScopeI ps sc := by
  simp only [scopeIB, Bool.and_eq_true, decide_eq_true_eq, Bool.not_eq_true', List.all_eq_true, Bool.or_eq_true, decide_eq_false_iff_not] at h
  obtain ⟨⟨⟨⟨⟨⟨⟨h1, h2⟩, h3⟩, h4⟩, h5⟩, h6⟩, h7⟩, h8⟩ := h
  exact ⟨h1, h2, h3, h4, h5, fun x hx => (h6 x hx).1, fun x hx e => (h6 x hx).2.resolve_left fun n => n e, h7, h8⟩
/-- the context of its body -/
def cxI (CX : CXT) (P : Program) (w : World) (K : W.Frag) (mg : Str → Option Value) (base : Heap) (N : List Str) (qual : Str) (scope : Scope) (f : Addr) (cd : Value) (cc : Addr) (A : Around) (outer : List PySem.Env) (s : Shared) (H : Hp) (E : XK) : Cx :=
  { cxOf CX P w K mg base N qual scope f cd A outer s H E with
    A := A.deeper (W.ksEnv qual scope s.heap.objs.size f cd cc), env := W.ksEnv qual scope s.heap.objs.size f cd cc, stack := W.ksEnv qual scope s.heap.objs.size f cd cc :: outer, fn := fun x => !(x == ("__class__" : Str)),
    xe := fun e s' => wpAny (model P w) (A.deeper (W.ksEnv qual scope s.heap.objs.size f cd cc)) (leaving (W.ksEnv qual scope s.heap.objs.size f cd cc) e) (fun _ s'' => CX outer H s E e s'') (fun e' s'' => CX outer H s E e' s'') s' }
section
variable {CX : CXT} {P : Program} {w : World} {K : W.Frag} {mg : Str → Option Value} {base : Heap} {ps : List Str} {qual : Str} {scope : Scope} {f cc : Addr} {cd : Value} {A : Around} {outer : List PySem.Env} {s : Shared} {H : Hp} {E : XK} {us : List Value} {vs : List V}
theorem inv_startI {h₀ : Heap} {tk : Nat} (S : ScopeI ps scope) (hd : A.handled = none) (e0 : Env0 P w K mg base A outer s H) (hl : vs.length = ps.length) (r : Vals vs us)
    (ns : h₀.Ns s.heap.objs.size (fun x => (ps.zip us).reverse.lookup x)) (hk : ∀ b o, s.heap.get? b = some o → h₀.get? b = some o) {cl : Value} {cld : Option Addr} {cv : Option Value} {csl : Array (Option Value)} (lc : K.lookup cc = some ⟨cl, cld, .cell cv, csl⟩) :
    Inv (cxI CX P w K mg base ps qual scope f cd cc A outer s H E) [] (start ps vs) H { s with heap := h₀, toks := tk } := by
  have bc := e0.mod.kin _ _ lc
  have noA : ∀ b : Addr, b ∉ (cxI CX P w K mg base ps qual scope f cd cc A outer s H E).ex := fun b z => absurd (show b ∈ ([] : List Addr) from z) (by simp)
  have one : ∀ {y : Str} {c : Addr}, (cxI CX P w K mg base ps qual scope f cd cc A outer s H E).env.cells.lookup y = some c → y = "__class__" ∧ c = cc := fun {y c} h => by
    have h : (List.lookup y [(("__class__" : Str), cc)]) = some c := h
    rw [List.lookup_cons] at h
    split at h
    · rename_i e
      exact ⟨by simpa using e, (Option.some.inj h).symm⟩
    · cases h
  refine ⟨⟨e0.mod, S.kind, rfl, rfl, Nat.le_refl _, fun y z c h1 h2 => (one h1).1.trans (one h2).1.symm, fun y hy => ?_, fun y c hf h => ?_, fun _ => hd, Around.frames_deeper e0.frames, .inr ⟨rfl, rfl⟩, fun b z => absurd z (noA b), e0.bs, e0.bsz, fun b _ _ => noA b, fun b z => absurd z (noA b), e0.funs, e0.frf⟩,
    rfl, e0.bare, Un.kept hk, ⟨_, ns, fun i y v h1 h2 h3 => ?_⟩, fun y c h => ?_, e0.hok.fresh (Nat.le_refl _), fun y c h => ?_, fun p hp => absurd (show p ∈ ([] : List (Addr × Obj)) from hp) (by simp), e0.hok.kept hk, ?_⟩
  · have hy : scope.names.lookup y = some .cell ∨ scope.names.lookup y = some .free := hy
    rcases hy with hy | hy
    · exact absurd rfl (S.nocell _ (PySem.mem_of_lookup hy))
    · have e := S.fr _ (PySem.mem_of_lookup hy) rfl
      dsimp only at e
      subst e
      exact ⟨cc, by show List.lookup _ [_] = _; simp⟩
  · have e := (one h).1
    subst e
    cases hf
  · have hi : i < vs.length := by
      unfold L2.start at h2
      by_cases hi : i < vs.length
      · exact hi
      · rw [List.getElem?_append_right (by simpa using hi), List.getElem?_replicate] at h2
        split at h2 <;> cases h2
    have ha : vs[i]? = some v := by
      unfold L2.start at h2
      rw [List.getElem?_append_left (by simpa using hi), List.getElem?_map] at h2
      cases e : vs[i]? with
      | none => rw [e] at h2; cases h2
      | some a => rw [e] at h2; cases h2; rfl
    obtain ⟨u, hu, rv⟩ := r.get ha
    exact ⟨u, rv, .inl ⟨S.par y (List.mem_of_getElem? h1), lookup_rev S.nd h1 hu⟩⟩
  · obtain ⟨_, rfl⟩ := one h
    exact ⟨cv, _, hk _ _ (e0.bs _ _ bc).1, rfl⟩
  · obtain ⟨_, rfl⟩ := one h
    exact (e0.bs _ _ bc).2
  · unfold L2.start
    show _ = ps.length
    rw [List.length_append, List.length_map, List.length_replicate]
    omega
end
/-- what the written part must tell of the class at C, its __init__'s code object at cda, the cell __class__ at cc -/
structure InitC (P : Program) (K : W.Frag) (C cda cc : Addr) : Prop where
  code : ∃ (ccl : Value) (cdd : Option Addr) (vs : Array Value) (ccs : Array (Option Value)) (file : Str) (tf : Tok), K.lookup cda = some ⟨ccl, cdd, .fields vs, ccs⟩ ∧ vs[2]? = some (.str file tf) ∧ ((P.main.file : Str) == file) = true
  cell : ∃ (cl : Value) (cld : Option Addr) (csl : Array (Option Value)), K.lookup cc = some ⟨cl, cld, .cell (some (.ref C)), csl⟩
  mro : W.mroIn K C (.ref C) = some true
  opq : W.nsIn K cStatics "thirdparty.any" = some none
  sup : W.ks_superIn K C C "__init__" = some (some (.builtin "ValueError.__init__"))
  sub : W.subIn K (.ref C) (.type "ValueError") = some true
  oex : OexC K C
  top : (P.main.scope.names.lookup ("super" : Str)).isSome = false
theorem boot_super : bootBuiltins "super" = some (.type "super") := by decide +kernel
section
variable {CX : CXT} {P : Program} {w : World} {K : W.Frag} {mg : Str → Option Value} {base : Heap} {ps : List Str} {self : Str} {qual name : Str} {scope : Scope} {C f cc cda : Addr} {params : Arguments} {rest : List Stmt} {e : Expr} {es : List Expr} {p0 p1 p2 p3 p4 : Pos}
variable {oc dV kV doc pm ct : Value} {an od : Option Addr} {osl : Array (Option Value)} {ar : Arg} {ta : TA} {t : TS} {k : Nat}
/-- what such an __init__ promises: ta tells its arguments to super().__init__, t the rest -/
def spI (ps : List Str) (C : Addr) (ta : TA) (t : TS) : Sp := fun vs H Q _ => ∃ (a : Addr) (ws : List V), vs = .ref a :: ws ∧ vs.length = ps.length ∧ H a = some (exo a C none) ∧
  ta (start ps vs) H fun us H1 => us.length ≤ 1000 ∧ H1 a = some (exo a C none) ∧ t { nx := fun _ H' => Q .non H', rt := fun _ _ => False } (start ps vs) H1
theorem init_fn {pl : Sem Bool} (T : InitC P K C cda cc) (S : ScopeI (self :: ps) scope) (lk : K.lookup f = some ⟨oc, od, .func (W.ksFn name qual params (.Expr (.Call (.Attribute (.Call (.Name "super" p0) [] [] p1) "__init__" p2) (e :: es) [] p3) p4 :: rest) scope dV kV doc pm an (.ref cda) ct cc), osl⟩)
    (hcd : W.codeIn K (.ref cda) qual = true) (hpar : (params.posonlyargs ++ params.args).head? = some ar) (har : ar.arg = self) (hms : mg "super" = none)
    (hA : ∀ X : Cx, X.env.scope = scope → X.N = self :: ps → X.K = K → PA X (e :: es) ta) (hT : ∀ X : Cx, X.env.scope = scope → X.N = self :: ps → X.K = K → PSs X rest t) (hpl : ∀ env, (backTo p3 (starEach es env)).any (·.1) = false)
    (he : ∀ env, starEach (e :: es) env = (false, eval e env) :: starEach es env)
    (hev : ∀ env, eval (.Call (.Attribute (.Call (.Name "super" p0) [] [] p1) "__init__" p2) (e :: es) [] p3) env = (do
      let ov ← attributeBase (.Call (.Name "super" p0) [] [] p1) "__init__" env (eval (.Call (.Name "super" p0) [] [] p1) env)
      standAt p2.atName
      let (f, first) ← holding [ov] (getMethod ov "__init__" pl)
      callWith p3 f first (backTo p3 (starEach (e :: es) env)) [])) :
    FnOk P w K mg base CX (k + 1) f (W.ksFn name qual params (.Expr (.Call (.Attribute (.Call (.Name "super" p0) [] [] p1) "__init__" p2) (e :: es) [] p3) p4 :: rest) scope dV kV doc pm an (.ref cda) ct cc) (self :: ps) (spI (self :: ps) C ta t) := by
  refine ⟨fun vs H Q E q => ?_, fun A outer s H args us vs Q E hr e0 hb r hsp => ?_⟩
  · obtain ⟨a, ws, rfl, hl, _⟩ := q
    exact hl
  obtain ⟨a, ws, rfl, hl, ea, hta⟩ := hsp
  have KX : K.In s.heap := e0.mod.kin.keeps fun b o e => (e0.bs b o e).1
  have lim : s.heap.NoLimit := e0.mod.nolimit.keeps fun b o e => (e0.bs b o e).1
  obtain ⟨cl, cld, csl, lcc⟩ := T.cell
  obtain ⟨ccl, cdd, cvs, ccs, file, tf, lcd, hcv, hfile⟩ := T.code
  have dep : A.depth < recursionLimit := hr.depth
  have hlu : us.length = (self :: ps).length := by rw [← r.length]; exact hl
  refine ks_codeAny_call_defAt (fd := W.ksFn name qual params _ scope dV kV doc pm an (.ref cda) ct cc) (binds := (self :: ps).zip us) dep (KX _ _ lk) rfl lim (W.codeRec_of KX hcd) rfl hb S.nocell (fun y hy => S.par _ (List.of_mem_zip hy).1) (fun h₀ ns hk => ?_) S.co S.gen S.kind
  have I := inv_startI (CX := CX) (w := w) (qual := qual) (f := f) (cd := .ref cda) (E := E) (tk := s.toks + ((self :: ps).zip us).length) S hr.hd e0 hl r ns hk lcc
  have up : ∀ {b : Addr} {o : Obj}, K.lookup b = some o → h₀.get? b = some o := fun {b o} q => hk _ _ (KX _ _ q)
  refine ks_wpAt_execs_cons (ks_wpAt_Expr_any (ks_wpAt_MethodCall ?_ (hev _)) (by show (decide (scope.kind = .module) && _) = false; rw [S.kind]; rfl))
  refine ks_wpAt_super_base (f := f) (cc := cda) (ar := ar) S.sup S.cls rfl rfl (up lk) rfl hpar rfl (up lcd) rfl hcv hfile T.top ?_
  obtain ⟨nm, q, N, bs, bm, sn, sub, ab, col, dd, k0, k1, k2, k3, k5, oC, hbm⟩ := T.oex.cls
  obtain ⟨t1, oa⟩ := exo_at I.hok ea
  have aC : a ≠ C := fun z => by
    rw [z, up oC] at oa
    cases oa
  have hself : (fun x => ((self :: ps).zip us).reverse.lookup x) ar.arg = some (.ref a) := by
    rw [har]
    cases us with
    | nil => cases hlu
    | cons u us =>
      cases r with
      | cons r1 _ =>
        cases r1
        exact lookup_rev (i := 0) S.nd rfl rfl
  obtain ⟨mb, hb1, hb2⟩ := e0.mod.blt
  have bk : ∀ b o, base.get? b = some o → h₀.get? b = some o := fun b o e => hk b o (e0.bs b o e).1
  refine W.ks_loadName_global S.kind S.sup (Calls.loadGlobal_builtin (mg := mg) (mb := mb) (e0.mod.glob.keeps bk) hms (hb1.keeps bk) ((hb2 _ (by decide)).trans boot_super) ⟨rfl, ?_⟩)
  refine wpAny_loadName_free S.kind S.cls rfl ⟨_, up lcc, rfl⟩ ?_
  refine wpAny_loadName_local S.kind (har ▸ S.par self List.mem_cons_self) ns hself ?_
  refine ks_wpAny_isType_cls (up oC) rfl ⟨rfl, ?_⟩
  refine ks_wpAny_call_super (up oC) rfl oa rfl (fun c z => by cases z) (W.looks_mroIn I.kIn T.mro) (fun h1 e1 kp1 => ?_)
  have I1 := I.kept (h' := h1) (t' := s.toks + ((self :: ps).zip us).length) kp1
  have oa1 := kp1 _ _ oa
  have hI : W.Looks (model P w) h1 (isInstance (.ref a) (.type "ValueError")) true := (show W.InstAt h1 a _ C none from ⟨oa1, rfl, rfl, trivial⟩).type.andThen (W.looks_subIn I1.kIn T.sub)
  have hsup := T.sup
  unfold W.ks_superIn at hsup
  obtain ⟨cd, hcl, hal⟩ := Option.bind_eq_some_iff.mp hsup
  refine W.kxs_getMethod W.kxs_ValueError e1 (W.looks_opaque I1.kIn T.opq) (l₀ := cd.mro) (fun A Q E s k q => wpAny_bind ((W.looks_clsIn I1.kIn hcl) A _ E s k (wpAny_pure q))) rfl I1.kIn hal hI aC rfl ?_
  have I2 := ClX.pin_new (a := h1.objs.size) (o := mwO a) (h' := h1.push (mwO a)) (t' := s.toks + ((self :: ps).zip us).length + 1) I1 (fun b u z => Heap.get?_push_of_some _ z) (Nat.le_refl _) (Heap.get?_push_at rfl rfl) (fun v z => by cases z)
  dsimp only
  rw [he]
  refine W.kxs_callWith (i := "ValueError.__init__") (x := a) (by show (false || (backTo p3 (starEach es _)).any (·.1)) = false; rw [hpl]; rfl) ?_
  have hrun := (hA _ rfl rfl rfl).run p3 _ _ _ H _ I2 hta
  rw [show starEach (e :: es) (cxI CX P w K mg base (self :: ps) qual scope f (.ref cda) cc A outer s H E).env = _ from he _] at hrun
  refine Calls.evalArgs_plain (wpAny_mono hrun (fun vs3 s3 h3 => ?_) (fun er s' hs => hs))
  obtain ⟨ws3, H3, I3, r3, hz, ea3, ht⟩ := h3
  refine ⟨ClX.pin_at I3, ?_⟩
  obtain ⟨hp3, g3, d3, tk3, os3⟩ := s3
  obtain ⟨t3, oa3⟩ := exo_at I3.hok ea3
  refine call_mw (I3.kIn _ _ oC) oa3 (ClX.pin_at I3) (by rw [List.nil_append, ← r3.length]; rw [sizeLine_eq]; omega) (fun h4 t4 k4 oa4 => ?_)
  have I4 := (ClX.unpin I3).write (t' := tk3) (x := a) (e := a) (o := exo a C none) (h' := h4) (by rw [ea3]; exact True.intro) (.inl rfl) k4 ⟨_, oa4⟩ (exo_ok oa4)
  have eu : upd H3 a (exo a C none) = H3 := by
    funext b
    by_cases hb : b = a
    · rw [hb, upd_same, ea3]
    · rw [upd_ne hb]
  rw [eu] at I4
  refine wpAt_of_wpAny (wpAny_mono ((hT _ rfl rfl rfl).run [] _ _ _ { nx := fun _ H' => Q .non H', rt := fun _ _ => False } I4 ht) (fun fl s' hs => ?_) (fun er s' hs => hs))
  cases fl with
  | ret u =>
    obtain ⟨_, _, _, _, _, z⟩ := hs
    exact z.elim
  | next =>
    obtain ⟨σ', H', J, q⟩ := hs
    exact ⟨.non, H', J.os, J.bare, J.base, J.hok, rfl, q⟩
  | brk =>
    obtain ⟨_, _, _, z⟩ := hs
    exact z.elim
  | cont =>
    obtain ⟨_, _, _, z⟩ := hs
    exact z.elim
end
end Sw

/-! Front: the rules as a printing program wants them; defs of a module; the head. -/
set_option Elab.async false
set_option linter.all false
set_option maxRecDepth 100000
set_option maxHeartbeats 4000000
namespace Sw
open PySem PySem.Spec PyProof.Rows L2
variable [LamT]
def eqK (a : Option NameKind) (b : NameKind) : Bool := match a, b with
  | some .local, .local => true
  | some .cell, .cell => true
  | some .free, .free => true
  | some .globalImplicit, .globalImplicit => true
  | _, _ => false
theorem eqK_ok {a : Option NameKind} {b : NameKind} (h : eqK a b = true) : a = some b := by
  unfold eqK at h
  split at h <;> first | rfl | cases h
theorem gl_of {X : Cx} {x : Str} (h : X.env.kindOf x = some .globalImplicit) : Gl X x := h
/-- a name of the def is read -/
def varB (N : List Str) (sc : Scope) (i : Nat) (x : Str) : Bool := (match N[i]? with | some y => decide (y = x) | none => false) && ((eqK (sc.names.lookup x) .local || (eqK (sc.names.lookup x) .cell || eqK (sc.names.lookup x) .free)) && (!(x == ("__debug__" : Str)) && !(x == ("__classdict__" : Str))))
theorem ix_of {N : List Str} {i : Nat} {x : Str} (h : (match N[i]? with | some y => decide (y = x) | none => false) = true) : N[i]? = some x := by
  cases hn : N[i]? with
  | none => rw [hn] at h; cases h
  | some y => rw [hn] at h; rw [of_decide_eq_true h]
section
variable {X : Cx} {a b c o : Expr} {ca cb cc : Ex} {ta tb : Tx} {pos p p2 : Pos} {es : List Expr} {cs : Ax} {x : Str} {ss ss2 : List Stmt} {c1 c2 : Sx}
theorem f_v {i : Nat} (h : varB X.N X.env.scope i x = true) : RE X (.Name x p) (eVar i) := by
  unfold varB at h
  simp only [Bool.and_eq_true, Bool.or_eq_true, Bool.not_eq_true'] at h
  obtain ⟨h1, h2, h3, h4⟩ := h
  refine re_var (pe_var (ix_of h1) ?_ h3 h4)
  rcases h2 with h2 | h2 | h2
  · exact .inl (eqK_ok h2)
  · exact .inr (.inl (eqK_ok h2))
  · exact .inr (.inr (eqK_ok h2))
theorem f_s {j} (h : strB x = true) : RE X (.Constant (.str x) j pos) (eC (.str x)) := re_str (strB_ok h)
/-- a name is stored -/
def locB (N : List Str) (sc : Scope) (i : Nat) (x : Str) : Bool := (match N[i]? with | some y => decide (y = x) | none => false) && (eqK (sc.names.lookup x) .local || eqK (sc.names.lookup x) .cell)
theorem locB_ok {N : List Str} {sc : Scope} {i : Nat} (h : locB N sc i x = true) : N[i]? = some x ∧ Loc sc x := by
  unfold locB at h
  simp only [Bool.and_eq_true, Bool.or_eq_true] at h
  exact ⟨ix_of h.1, h.2.imp eqK_ok eqK_ok⟩
theorem f_set {i : Nat} {p' : Pos} (hN : X.N.Nodup) (hl : locB X.N X.env.scope i x = true) (hf : X.fn x = true ∨ X.env.scope.names.lookup x = some .local) (ha : RE X a ca) (hs : swapsWith a (some (.Name x p')) pos.line X.env = pure false := by rfl) : RSt X (.Assign [.Name x p'] a pos) (sSet i ca) :=
  rs_set hN (locB_ok hl).1 (locB_ok hl).2 ha hs hf
theorem f_gname {i : Nat} (hN : X.N.Nodup) (hl : locB X.N X.env.scope i x = true) (hf : X.fn x = true ∨ X.env.scope.names.lookup x = some .local) : RG X (.Name x pos) (gName i) := rg_name hN (locB_ok hl).1 (locB_ok hl).2 hf
theorem f_gnamew {i : Nat} {vs : List Nat} (hm : vs.contains i = true) (hN : X.N.Nodup) (hl : locB X.N X.env.scope i x = true) (hf : X.fn x = true ∨ X.env.scope.names.lookup x = some .local) : RGw X vs (.Name x pos) (gName i) := rgw_name (by simpa using hm) hN (locB_ok hl).1 (locB_ok hl).2 hf
theorem f_aug {i : Nat} {op : Operator} {f : Store → D → D → Option D} {p' : Pos} (hN : X.N.Nodup) (hl : locB X.N X.env.scope i x = true) (hf : X.fn x = true ∨ X.env.scope.names.lookup x = some .local) (ho : PIp X op (tIpI X.K X.mg f)) (ha : RE X a ca) : RSt X (.AugAssign (.Name x p') op a pos) (sAug i f ca) :=
  rs_aug hN (locB_ok hl).1 (locB_ok hl).2 ha ho hf
theorem f_par {i j : Nat} {y : Str} {px py pt : Pos} {kt k2 pt2} (hc : X.calm = true) (hN : X.N.Nodup) (hx : (locB X.N X.env.scope i x && locB X.N X.env.scope j y) = true) (hij : Nat.beq i j = false) (hl : (eqK (X.env.scope.names.lookup x) .local && eqK (X.env.scope.names.lookup y) .local) = true) (ha : RA X [a, b] cs)
    (hw : swappedStores [.Tuple [.Name x px, .Name y py] kt pt] (.Tuple [a, b] k2 pt2) X.env = pure (some [x, y]) := by rfl)
    (hs : swapsWithSole [.Tuple [.Name x px, .Name y py] kt pt] (.Tuple [a, b] k2 pt2) pos.line X.env = pure false := by rfl) :
    RSt X (.Assign [.Tuple [.Name x px, .Name y py] kt pt] (.Tuple [a, b] k2 pt2) pos) (sPar [gName i, gName j] cs) := by
  rw [Bool.and_eq_true] at hx hl
  exact rs_par hc hN (locB_ok hx.1).1 (locB_ok hx.2).1 (Nat.ne_of_beq_eq_false hij) (eqK_ok hl.1) (eqK_ok hl.2) ha hw hs
/-! ### a comprehension's scope -/
def blkB (N : List Str) (sc scope : Scope) (own : List (Str × Nat)) : Bool :=
  (match scope.kind with | .function => true | _ => false) && (scope.names.all (fun y => eqK (scope.names.lookup y.1) y.2) && (own.all (fun p => match N[p.2]? with | some y => decide (y = p.1) | none => false) &&
    scope.names.all fun y => (match y.2 with
      | .free => eqK (sc.names.lookup y.1) .cell || eqK (sc.names.lookup y.1) .free
      | .local => (own.map (·.1)).contains y.1 || !N.contains y.1
      | .cell => (own.map (·.1)).contains y.1 || !N.contains y.1
      | _ => true)))
theorem blkB_ok {N : List Str} {sc scope : Scope} {own : List (Str × Nat)} (h : blkB N sc scope own = true) : BlkOk N sc scope own := by
  unfold blkB at h
  simp only [Bool.and_eq_true] at h
  obtain ⟨h1, h2, h3, h4⟩ := h
  refine ⟨?_, fun y hy => eqK_ok (List.all_eq_true.mp h2 y hy), fun p hp => ix_of (List.all_eq_true.mp h3 p hp), fun y hy e => ?_, fun y hy e => ?_⟩
  · split at h1
    · assumption
    · cases h1
  · have := List.all_eq_true.mp h4 y hy
    rw [e] at this
    simp only [Bool.or_eq_true] at this
    exact this.imp eqK_ok eqK_ok
  · have := List.all_eq_true.mp h4 y hy
    rcases e with e | e <;> rw [e] at this <;> simp only [Bool.or_eq_true, Bool.not_eq_true', List.contains_eq_mem, decide_eq_true_eq, decide_eq_false_iff_not] at this <;> exact this
/-! ### calls of the module's defs -/
/-- the def named x, of n parameters, does F -/
structure Callee (P : Program) (w : World) (K : Frag) (mg : Str → Option Value) (base : Heap) (x : Str) (F : Fn) (n k : Nat) : Prop where
  ex : ∃ f fd ps, FnOk P w K mg base (L2.CX P w) k f fd ps (spF K mg F n) ∧ mg x = some (.ref f) ∧ PySem.W.keepIn K (.ref f) = true ∧ Binds K fd ps []
  takes : Takes_ F n
theorem f_call {F : Fn} {n k : Nat} (C : Callee X.prog X.w X.K X.mg X.base x F n k) (hr : Room k X.A) (hg : X.env.kindOf x = some .globalImplicit) (hdb : (x == ("__debug__" : Str)) = false) (ha : RA X (a :: es) cs)
    (he : starEach (a :: es) X.env = (false, eval a X.env) :: starEach es X.env := by rfl) (hpl : (backTo pos (starEach es X.env)).any (·.1) = false := by rfl) :
    RE X (.Call (.Name x p) (a :: es) [] pos) (eCall F cs) := by
  obtain ⟨f, fd, ps, G, hm, hk, hb⟩ := C.ex
  exact re_call G C.takes hr hg hm hk hb ha hdb he hpl
end
/-- THE RULE for a def of the module -/
theorem fn_okD {P : Program} {w : World} {K : Frag} {mg : Str → Option Value} {base : Heap} {x qual : Str} {params : Arguments} {body : List Stmt} {scope : Scope} {f : Addr} {fd : FuncData} {N ps : List Str} {k : Nat} {c : Sx} (F : FunD K x qual params body scope [] [] f fd) (S : FnScope N ps scope) (hn : ps.length ≤ N.length)
    (hb : ∀ (cdv : Value) (A : Around) (outer : List PySem.Env) (s : Shared) (H : Hp) (E : XK), Room k (A.deeper (envOfC qual scope s.heap.objs.size f cdv)) → RSs (cxOf (L2.CX P w) P w K mg base N qual scope f cdv A outer s H E) body c) :
    FnOk P w K mg base (L2.CX P w) (k + 1) f fd ps (spF K mg (fn ps.length N.length c) ps.length) := by
  refine F.ok S (fun vs H Q E h => ?_) (fun cdv A outer s H vs Q E hr h => ?_)
  · obtain ⟨_, _, _, _, _, _, h, _⟩ := h
    exact h
  · obtain ⟨B, φ, ds, st0, r, st', hl, rd, rs, hF, fin⟩ := h
    refine ⟨_, hb cdv A outer s H E hr _ (takes_of rfl rfl rfl rfl), ?_⟩
    unfold fn at hF
    have hds : ds.length = ps.length := rd.length.symm.trans hl
    rw [if_pos hds] at hF
    refine ⟨B, φ, startE N.length ds, st0, ?_⟩
    cases hc : c (startE N.length ds) st0 with
    | none => rw [hc] at hF; cases hF
    | some p =>
      obtain ⟨q, st1⟩ := p
      rw [hc] at hF
      refine ⟨q, st1, REnv.start rd (by omega), rs, rfl, ?_⟩
      cases q with
      | nx e1 =>
        have cf := clean_fin rs hF fin
        exact fun σ' B' φ' H' g rs' re' => cf .non B' φ' H' g rs' .non
      | rt d => exact clean_fin rs hF fin
      | bk _ => cases hF
      | ct _ => cases hF
      | ex x1 e1 =>
        have cf := clean_fin rs hF fin
        exact fun cls dx σ' B' φ' H' g rs' re' rx => cf cls dx B' φ' H' g rs' rx
/-- a def's scope, by one look -/
def scB (N ps : List Str) (sc : Scope) : Bool := (match sc.kind with | .function => true | _ => false) && (!sc.isCoroutine && (!sc.isGenerator && (decide N.Nodup && (decide (N.take ps.length = ps) && (ps.all (fun x => eqK (sc.names.lookup x) .local || eqK (sc.names.lookup x) .cell) && (sc.names.all (fun y => !eqK (some y.2) .free) && Nat.ble ps.length N.length))))))
theorem scB_ok {N ps : List Str} {sc : Scope} (h : scB N ps sc = true) : FnScope N ps sc ∧ ps.length ≤ N.length := by
  unfold scB at h
  simp only [Bool.and_eq_true, Bool.not_eq_true', decide_eq_true_eq] at h
  obtain ⟨h1, h2, h3, h4, h5, h6, h7, h8⟩ := h
  refine ⟨⟨?_, h2, h3, h4, h5, fun x hx => ?_, fun y hy e => ?_⟩, Nat.le_of_ble_eq_true h8⟩
  · split at h1
    · assumption
    · cases h1
  · have := List.all_eq_true.mp h6 x hx
    rw [Bool.or_eq_true] at this
    exact this.imp eqK_ok eqK_ok
  · have := List.all_eq_true.mp h7 y hy
    rw [e] at this
    simp [eqK] at this
theorem room66 {k : Nat} {A : Around} (r : Room k A) : A.units + 66 < cLine := by have := r.un; omega
theorem room1 {k : Nat} {A : Around} (r : Room k A) : A.units + 1 < cLine := by have := r.un; omega
theorem Callee.up {P : Program} {w : World} {K : Frag} {mg : Str → Option Value} {base : Heap} {x : Str} {F : Fn} {n j k : Nat} (C : Callee P w K mg base x F n j) (h : Nat.ble j k = true) : Callee P w K mg base x F n k := by
  obtain ⟨f, fd, ps, G, r⟩ := C.ex
  exact ⟨⟨f, fd, ps, G.mono (Nat.le_of_ble_eq_true h), r⟩, C.takes⟩
/-! ### what is known of the module -/
structure Mo (K : Frag) (mg : Str → Option Value) (fr : List Str) (cs : List (Str × D)) : Prop where
  free : ∀ x, fr.contains x = true → mg x = none
  cst : ∀ p ∈ cs, ∃ u, mg p.1 = some u ∧ kD K 6 u = some p.2
theorem f_glob {X : Cx} {fr : List Str} {cs : List (Str × D)} {x : Str} {d : D} {pos : Pos} (M : Mo X.K X.mg fr cs) (i : Nat) (hi : cs[i]? = some (x, d)) (hg : X.env.kindOf x = some .globalImplicit) (hdb : (x == ("__debug__" : Str)) = false) : RE X (.Name x pos) (eC d) := by
  obtain ⟨u, h1, h2⟩ := M.cst _ (List.mem_of_getElem? hi)
  exact re_glob hg h1 h2 hdb
/-! ### the head: facts of the module by a Hook -/
def gD (K : Frag) (x : Str) : Option D := match PySem.W.nsIn K mainGlobals x with
  | some (some u) => kD K 6 u
  | _ => none
abbrev AlS : Type := He.AlD × List (Option D)
def obsS (fa : List He.Fa) (fn : List He.DefD) (cs : List (Str × D)) (K : Frag) : AlS := (He.obsD fa fn K, cs.map fun p => gD K p.1)
def valS (fn : List He.DefD) (cs : List (Str × D)) : AlS := (He.valD fn, cs.map fun p => some p.2)
def SaysS (fa : List He.Fa) (fn : List He.DefD) (cs : List (Str × D)) (K : Frag) : Prop := obsS fa fn cs K = valS fn cs
def obsSG (n : Nat) (fa : List He.Fa) (fn : List He.DefD) (cs : List (Str × D)) (g : Addr → Option Obj) : AlS := obsS fa fn cs (He.frG g (He.asD g n))
def hookS (n : Nat) (fa : List He.Fa) (fn : List He.DefD) (cs : List (Str × D)) : PySem.W.Hook where
  α := AlS
  obs := fun s => obsSG n fa fn cs s.heap.get?
  val := fun _ => valS fn cs
  says := fun _ h => ∃ K : Frag, K.In h ∧ SaysS fa fn cs K
  of := fun _ _ e => ⟨_, He.frG_in, e⟩
  keeps := fun _ _ _ ⟨K, hK, c⟩ k => ⟨K, PySem.W.Frag.In.keeps hK k, c⟩
theorem obsSG_eq {n : Nat} {fa : List He.Fa} {fn : List He.DefD} {cs : List (Str × D)} {g : Addr → Option Obj} {s : Shared} (h : ∀ a, g a = s.heap.get? a) : obsSG n fa fn cs g = (hookS n fa fn cs).obs s := by
  have e : g = s.heap.get? := funext h
  rw [e]; rfl
theorem SaysS.d {fa : List He.Fa} {fn : List He.DefD} {cs : List (Str × D)} {K : Frag} (c : SaysS fa fn cs K) : He.SaysD fa fn K := congrArg Prod.fst c
theorem map_eq_mem {α β : Type} {f g : α → β} : ∀ {l : List α}, l.map f = l.map g → ∀ x ∈ l, f x = g x
  | y :: l, h, x, hx => by
    rw [List.map_cons, List.map_cons] at h
    injection h with h1 h2
    rcases List.mem_cons.mp hx with e | e
    · rw [e]; exact h1
    · exact map_eq_mem h2 x e
/-- what is known of the module, by the Hook -/
theorem SaysS.mo {fa : List He.Fa} {fn : List He.DefD} {cs : List (Str × D)} {K : Frag} {h : Heap} {mg : Str → Option Value} {fr : List Str} (c : SaysS fa fn cs K) (X : K.In h) (G : h.Ns mainGlobals mg) (hf : (fr.all fun x => fa.any fun f => match f with | .free y => x == y | _ => false) = true) : Mo K mg fr cs := by
  refine ⟨fun x hx => ?_, fun p hp => ?_⟩
  · have h1 := List.all_eq_true.mp hf x (by simpa using hx)
    obtain ⟨f, hf1, hf2⟩ := List.any_eq_true.mp h1
    cases f with
    | free y =>
      have : x = y := by simpa using hf2
      subst this
      obtain ⟨i, hi⟩ := List.mem_iff_getElem?.mp hf1
      exact He.free_ok X G (c.d.fact i hi)
    | _ => cases hf2
  · have e := map_eq_mem (congrArg Prod.snd c) p hp
    have e : gD K p.1 = some p.2 := e
    unfold gD at e
    split at e
    · rename_i u hu
      exact ⟨u, PySem.W.mg_of X G hu, e⟩
    · cases e
/-- a law: its def does F, and F says true -/
theorem walk_ofX {l : PySem.W.OpenLaw} {n k : Nat} {q : Program} {loose : List Str} {XP : (Str → Option Value) → Heap → Prop} {YP : World → Heap → Prop} {d : DefRec} {x : Str} {F : Fn}
    (hT : LamT.T = []) (hn : l.most = some n) (hn2 : n ≤ sizeLine) (hdf : d.params.defaults = []) (hr : Room k callerA) (hF : ∀ ns : List Int, ns.length ≤ n → ∃ st, F [.scr ns] [] = some (.ok (.bl true), st))
    (W : ∀ (w : World) (mg : Str → Option Value) (fa : Addr) (h : Heap), YP w h → h.Ns mainGlobals mg → mg d.name = some (.ref fa) →
      ∃ (K : Frag) (fd : FuncData), K.In h ∧ (∀ (s : Shared) (u : Value), BindsTo s fd ⟨[u], []⟩ [(x, u)]) ∧
        ∀ base : Heap, K.In base → base.Ns mainGlobals mg → FnOk l.prog w K mg base (L2.CX l.prog w) k fa fd [x] (spF K mg F 1)) :
    PySem.W.WalkO q loose XP YP l.row.toRowW d [] (fun f vs => PySem.call f vs) := by
  refine Att.attach_call hn hdf fun w s₀ s₁ mg mb fa o pm cd doc a vs ns G Y ho hd hcd hmg hobj hints hlen hg => ?_
  obtain ⟨K, fd, KX, hb, hFn⟩ := W w mg fa _ Y G.T.g hmg
  refine law_call KX G.T.g G.T.b G.T.builtins G.T.nolimit hg hobj hints (Nat.le_trans hlen hn2) hr hFn hb (fun H hO hS => ?_) fun H e s' h => ?_
  · obtain ⟨st, hst⟩ := hF ns hlen
    have sc : ScrAt K (fun _ => False) H a ns := hS.imp (fun e => ⟨e, id⟩) id
    exact ⟨fun _ => False, [], [.scr ns], [], _, st, rfl, .cons (.scr sc) .nil, ⟨rfl, .nil, fun a h => by simp at h, fun a h => h.elim, fun n c h => by simp at h, by rw [hT]; exact fun p hp => by cases hp⟩, hst, fun v B' φ' H' g rs r => by cases r; rfl⟩
  · obtain ⟨_, _, _, _, _, _, _, _, _, _, _, _, z⟩ := h
    exact z
theorem callee_of {P : Program} {w : World} {K : Frag} {mg : Str → Option Value} {base : Heap} {x qual : Str} {params : Arguments} {body : List Stmt} {scope : Scope} {f : Addr} {fd : FuncData} {N ps : List Str} {k : Nat} {c : Sx} (F : FunD K x qual params body scope [] [] f fd) (hm : mg x = some (.ref f)) (S : scB N ps scope = true)
    (hbd : ∀ (kV doc pm : Value) (an : Option Addr) (cdv ct : Value) (us : List Value), us.length = ps.length → bindArgs (PySem.W.fnOf x qual params body scope .none kV doc pm an cdv ct) ⟨us, []⟩ = pure (ps.zip us))
    (hb : ∀ (cdv : Value) (A : Around) (outer : List PySem.Env) (s : Shared) (H : Hp) (E : XK), N.Nodup → Room k (A.deeper (envOfC qual scope s.heap.objs.size f cdv)) → RSs (cxOf (L2.CX P w) P w K mg base N qual scope f cdv A outer s H E) body c) :
    Callee P w K mg base x (fn ps.length N.length c) ps.length (k + 1) :=
  ⟨⟨f, fd, ps, fn_okD F (scB_ok S).1 (scB_ok S).2 (fun cdv A outer s H E hr => hb cdv A outer s H E (scB_ok S).1.nd hr), hm, F.kp, F.bindsN hbd⟩, fn_takes⟩
theorem fnok_of {P : Program} {w : World} {K : Frag} {mg : Str → Option Value} {base : Heap} {x qual : Str} {params : Arguments} {body : List Stmt} {scope : Scope} {f : Addr} {fd : FuncData} {N ps : List Str} {k : Nat} {c : Sx} (F : FunD K x qual params body scope [] [] f fd) (S : scB N ps scope = true)
    (hb : ∀ (cdv : Value) (A : Around) (outer : List PySem.Env) (s : Shared) (H : Hp) (E : XK), N.Nodup → Room k (A.deeper (envOfC qual scope s.heap.objs.size f cdv)) → RSs (cxOf (L2.CX P w) P w K mg base N qual scope f cdv A outer s H E) body c) :
    FnOk P w K mg base (L2.CX P w) (k + 1) f fd ps (spF K mg (fn ps.length N.length c) ps.length) :=
  fn_okD F (scB_ok S).1 (scB_ok S).2 (fun cdv A outer s H E hr => hb cdv A outer s H E (scB_ok S).1.nd hr)
end Sw

/-! Exc2: own exceptions raised. -/
set_option Elab.async false
set_option linter.all false
set_option maxRecDepth 100000
set_option maxHeartbeats 4000000
namespace Sw
open PySem PySem.Spec PyProof.Rows L2
variable [LamT]
/-- the arguments are the parameters -/
def isArgs : List Str → List Expr → Bool
  | [], [] => true
  | p :: ps, .Name x _ :: es => decide (x = p) && isArgs ps es
  | _, _ => false
/-- self.p = p for each -/
def isAss (self : Str) : List Str → List Stmt → Bool
  | [], [] => true
  | p :: ps, .Assign [.Attribute (.Name s _) f _] (.Name v _) _ :: r => decide (s = self) && (decide (f = p) && (decide (v = p) && isAss self ps r))
  | _, _ => false
/-- the whole body -/
def isIni (self : Str) (ps : List Str) : List Stmt → Bool
  | .Expr (.Call (.Attribute (.Call (.Name s _) [] [] _) i _) es [] _) _ :: r => decide (s = "super") && (decide (i = "__init__") && (isArgs ps es && (isAss self ps r && !es.isEmpty)))
  | _ => false
def tArgs : Nat → Nat → TA
  | _, 0 => tNil
  | i, n + 1 => tCons (tVar i) (tArgs (i + 1) n)
def tAss (K : PySem.W.Frag) : Nat → List Str → TS
  | _, [] => tNext
  | i, p :: ps => tSeq (tOst K p (tVar 0) (tVar i)) (tAss K (i + 1) ps)
/-- names that a def may have -/
def nmOk (x : Str) : Bool := !(x == ("__debug__" : Str)) && !(x == ("__classdict__" : Str))
section
variable {X : Cx} {sc : Scope} {N : List Str}
theorem pa_args : ∀ {ps : List Str} {es : List Expr} {i : Nat}, isArgs ps es = true → (∀ j p, ps[j]? = some p → X.N[i + j]? = some p ∧ X.env.scope.names.lookup p = some .local ∧ nmOk p = true) → PA X es (tArgs i ps.length)
  | [], [], _, _, _ => pa_nil
  | p :: ps, .Name x px :: es, i, h, hN => by
    unfold isArgs at h
    simp only [Bool.and_eq_true, decide_eq_true_eq] at h
    obtain ⟨rfl, h⟩ := h
    obtain ⟨h1, h2, h3⟩ := hN 0 x rfl
    simp only [nmOk, Bool.and_eq_true, Bool.not_eq_true'] at h3
    refine pa_cons (pe_var (i := i) (by simpa using h1) (.inl h2) h3.1 h3.2) (pa_args (i := i + 1) h fun j p hj => ?_) rfl
    have := hN (j + 1) p (by simpa using hj)
    rw [show i + 1 + j = i + (j + 1) by omega]
    exact this
  | [], _ :: _, _, h, _ => by simp [isArgs] at h
  | _ :: _, [], _, h, _ => by simp [isArgs] at h
theorem pss_ass {self : Str} (hs : X.N[0]? = some self ∧ X.env.scope.names.lookup self = some .local ∧ nmOk self = true) : ∀ {ps : List Str} {ss : List Stmt} {i : Nat}, isAss self ps ss = true → (∀ j p, ps[j]? = some p → X.N[i + j]? = some p ∧ X.env.scope.names.lookup p = some .local ∧ nmOk p = true) → PSs X ss (tAss X.K i ps)
  | [], [], _, _, _ => pss_nil
  | [], _ :: _, _, h, _ => by simp [isAss] at h
  | p :: ps, ss, i, h, hN => by
    unfold isAss at h
    split at h
    · cases ‹_ :: _ = []›
    · rename_i p' ps' s ps1 f ps2 v ps3 ps4 r e1
      cases e1
      simp only [Bool.and_eq_true, decide_eq_true_eq] at h
      obtain ⟨rfl, rfl, rfl, h⟩ := h
      obtain ⟨h1, h2, h3⟩ := hN 0 _ rfl
      obtain ⟨g1, g2, g3⟩ := id hs
      simp only [nmOk, Bool.and_eq_true, Bool.not_eq_true'] at h3 g3
      refine pss_cons (ps_ost (pe_var (i := 0) g1 (.inl g2) g3.1 g3.2) (pe_var (i := i) (by simpa using h1) (.inl h2) h3.1 h3.2)) (pss_ass hs (i := i + 1) h fun j p hj => ?_)
      have := hN (j + 1) p (by simpa using hj)
      rw [show i + 1 + j = i + (j + 1) by omega]
      exact this
    · cases h
end
/-- what is known of a class of exceptions: its fields -/
structure XCl (P : Program) (w : World) (K : PySem.W.Frag) (mg : Str → Option Value) (base : Heap) (c : Str) (fs : List Str) : Prop where
  ex : ∃ (C fI : Addr) (self : Str) (fd : FuncData), mg c = some (.ref C) ∧ OexC K C ∧ XfC K C ∧ (∀ f ∈ fs, PySem.W.findIn K (.ref C) f = some none) ∧
    PySem.W.findIn K (.ref C) "__init__" = some (some (.ref fI)) ∧ PySem.W.typeIn K (.ref fI) = some (.type "function") ∧ Binds K fd (self :: fs) [] ∧
    FnOk P w K mg base (L2.CX P w) 1 fI fd (self :: fs) (spI (self :: fs) C (tArgs 1 fs.length) (tAss K 1 fs))
  ne : fs ≠ []
  nd : fs.Nodup
  few : fs.length ≤ 900
section
variable {K : PySem.W.Frag} {mg : Str → Option Value} {B : Addr → Prop} {φ : List Addr} {H : Hp} {st : Store}
theorem tArgs_run {σ : L2.St} {H : Hp} {Q : List V → Hp → Prop} : ∀ {vs : List V} {i : Nat}, (∀ j v, vs[j]? = some v → σ[i + j]? = some (some v)) → Q vs H → tArgs i vs.length σ H Q
  | [], _, _, q => q
  | v :: vs, i, h, q => ⟨v, by simpa using h 0 v rfl, tArgs_run (i := i + 1) (Q := fun xs H2 => Q (v :: xs) H2) (fun j u hj => by
      have := h (j + 1) u (by simpa using hj)
      rw [show i + 1 + j = i + (j + 1) by omega]
      exact this) q⟩
theorem tAss_run {σ : L2.St} {D : Ends} {a C dx : Addr} (T : OexC K C) (h0 : σ[0]? = some (some (.ref a))) : ∀ {ps : List Str} {vs : List V} {i : Nat} {fs : List (Str × V)} {H : Hp}, ps.length = vs.length → (∀ j v, vs[j]? = some v → σ[i + j]? = some (some v)) → (∀ f ∈ ps, PySem.W.findIn K (.ref C) f = some none) →
    H a = some (exo a C (some dx)) → H dx = some (exd dx fs) → a ≠ dx → fs.length + ps.length ≤ 900 → (∀ H', (∀ b, b ≠ dx → H' b = H b) → H' dx = some (exd dx ((ps.zip vs).reverse ++ fs)) → D.nx σ H') → tAss K i ps D σ H
  | [], [], i, fs, H, _, _, _, _, hd, _, _, q => q H (fun _ _ => rfl) (by simpa using hd)
  | [], _ :: _, _, _, _, hl, _, _, _, _, _, _, _ => by simp at hl
  | _ :: _, [], _, _, _, hl, _, _, _, _, _, _, _ => by simp at hl
  | p :: ps, v :: vs, i, fs, H, hl, hv, hf, ha, hd, ne, few, q => by
    refine ⟨v, by simpa using hv 0 v rfl, .ref a, h0, a, C, rfl, T, hf p (by simp), .inr ⟨dx, fs, ha, hd, by simp at few; omega, ?_⟩⟩
    refine tAss_run T h0 (i := i + 1) (fs := (p, v) :: fs) (by simpa using hl) (fun j u hj => ?_) (fun f hf' => hf f (List.mem_cons_of_mem _ hf')) (by rw [upd_ne ne]; exact ha) upd_same ne (by simp at few ⊢; omega) fun H' h1 h2 => q H' (fun b hb => (h1 b hb).trans (upd_ne hb)) (by rw [h2]; simp)
    have := hv (j + 1) u (by simpa using hj)
    rw [show i + 1 + j = i + (j + 1) by omega]
    exact this
theorem RFs.of_zip : ∀ {ns : List Str} {vs : List V} {ds : List D}, RDs K B φ H vs ds → RFs K B φ H (ns.zip vs) (ns.zip ds)
  | [], _, _, _ => by simp only [List.zip_nil_left]; exact .nil
  | _ :: _, _, _, .nil => by simp only [List.zip_nil_right]; exact .nil
  | _ :: ns, _, _, .cons r t => by simp only [List.zip_cons_cons]; exact .cons r (RFs.of_zip t)
theorem RFs.append : ∀ {as bs : List (Str × V)} {cs ds : List (Str × D)}, RFs K B φ H as cs → RFs K B φ H bs ds → RFs K B φ H (as ++ bs) (cs ++ ds)
  | _, _, _, _, .nil, r => r
  | _, _, _, _, .cons r t, q => .cons r (RFs.append t q)
theorem RFs.reverse : ∀ {as : List (Str × V)} {cs : List (Str × D)}, RFs K B φ H as cs → RFs K B φ H as.reverse cs.reverse
  | _, _, .nil => .nil
  | _, _, .cons r t => by rw [List.reverse_cons, List.reverse_cons]; exact RFs.append (RFs.reverse t) (.cons r .nil)
end
section
variable {X : Cx} {x : Str} {e : Expr} {es : List Expr} {cs : Ax} {fs : List Str} {p pos rpos : Pos}
theorem rs_raise (T : XCl X.prog X.w X.K X.mg X.base x fs) (hc : X.calm = true) (hr : Room 2 X.A) (hg : Gl X x) (ha : RA X (e :: es) cs) (hdb : (x == ("__debug__" : Str)) = false)
    (he : starEach (e :: es) X.env = (false, eval e X.env) :: starEach es X.env := by rfl) (hpl : (backTo pos (starEach es X.env)).any (·.1) = false := by rfl) :
    RSt X (.Raise (some (.Call (.Name x p) (e :: es) [] pos)) none rpos) (sRaiseX x fs cs) := fun W tk => by
  obtain ⟨C, fI, self, fd, hm, oC, xf, hno, iC, tI, hb, F⟩ := T.ex
  refine (ps_raise hc tk (pmk_oex (dvs := []) (ds := []) oC iC tI F hr hb .nil (passes_call tk fun _ _ _ _ z => z.elim) hg hm (ha W tk) hdb he hpl)).imp fun D σ H h => ?_
  refine (Tr.intoS (R := RDs X.K) (c := sRaiseX x fs cs) (f := fun ds e st => if ds.length = fs.length then some (.ex ⟨x, (fs.zip ds).reverse⟩ e, st) else none) (fun e st => by unfold sRaiseX; cases cs e st with | none => rfl | some p => obtain ⟨q, st1⟩ := p; cases q <;> rfl) h).mono fun vs H1 ⟨B, φ, en, st, ds, r, st', re, rs, rd, hc', fin⟩ => ?_
  split at hc'
  · rename_i hlen
    cases hc'
    have hl : fs.length = vs.length := by rw [rd.length]; exact hlen.symm
    have few := T.few
    refine ⟨by rw [← hl]; omega, fun a hna => ?_⟩
    rw [List.append_nil]
    refine ⟨a, vs, rfl, by simp [hl], upd_same, ?_⟩
    have hst : ∀ j v, (V.ref a :: vs)[j]? = some v → (L2.start (self :: fs) (V.ref a :: vs))[j]? = some (some v) := fun j v hj => by
      unfold L2.start
      have hj' := (List.getElem?_eq_some_iff.mp hj).1
      rw [List.getElem?_append_left (by simpa using hj'), List.getElem?_map, hj]
      rfl
    rw [hl]
    refine tArgs_run (i := 1) (fun j v hj => hst (1 + j) v (by rw [Nat.add_comm]; simpa using hj)) ?_
    refine ⟨by rw [← hl]; omega, upd_same, ?_⟩
    obtain ⟨f0, fs', rfl⟩ : ∃ f0 fs', fs = f0 :: fs' := by
      cases fs with
      | nil => exact absurd rfl T.ne
      | cons a b => exact ⟨a, b, rfl⟩
    cases rd with
    | nil => simp at hl
    | @cons v0 d0 vs' ds' r0 rt =>
    refine ⟨v0, hst 1 v0 rfl, .ref a, hst 0 _ rfl, a, C, rfl, oC, hno f0 (by simp), .inl ⟨upd_same, fun dx hdx hne => ?_⟩⟩
    have hdxH : H1 dx = none := by rw [upd_ne hne] at hdx; exact hdx
    refine tAss_run (a := a) (dx := dx) oC (hst 0 _ rfl) (i := 2) (fs := [(f0, v0)]) (by simpa using hl) (fun j v hj => hst (2 + j) v (by rw [show 2 + j = j + 1 + 1 by omega]; simpa using hj)) (fun f hf => hno f (List.mem_cons_of_mem _ hf)) upd_same
      (by rw [upd_ne hne, upd_same]) (Ne.symm hne) (by simp at few ⊢; omega) fun H' h1 h2 => ?_
    refine ⟨rfl, dx, _, by rw [h1 a (Ne.symm hne), upd_same], h2, hdxH, ?_⟩
    -- the heap is the caller's with the exception's dict
    have eH : upd (del H' a) dx (.xd ((fs'.zip vs').reverse ++ [(f0, v0)])) = upd H1 dx (.xd ((fs'.zip vs').reverse ++ [(f0, v0)])) := by
      funext b
      by_cases hb : b = dx
      · subst hb; rw [upd_same, upd_same]
      · rw [upd_ne hb, upd_ne hb]
        by_cases ha' : b = a
        · subst ha'; rw [del_same, hna]
        · rw [del_ne ha', h1 b hb, upd_ne ha', upd_ne hb, upd_ne ha']
    rw [eH]
    obtain ⟨rs', g⟩ := rs.newThing (o := .xd ((fs'.zip vs').reverse ++ [(f0, v0)])) hdxH
    refine fin _ _ σ B φ _ g rs' (REnv.go rs g re) ⟨C, hm, rfl, .inr ⟨dx, _, rfl, upd_same, ?_⟩⟩
    have := RFs.reverse (RFs.of_zip (ns := f0 :: fs') (RDs.cons (RD.go rs g r0) (RDs.go rs g rt)))
    rw [List.zip_cons_cons, List.reverse_cons] at this
    exact this
  · cases hc'
end
end Sw

/-! Exc3: what is known of own exceptions' classes, by looks at the written part. -/
set_option Elab.async false
set_option linter.all false
set_option maxRecDepth 100000
set_option maxHeartbeats 4000000
namespace Sw
open PySem PySem.Spec PyProof.Rows L2
variable [LamT]
def oexB (K : PySem.W.Frag) (C : Addr) : Bool := (match K.lookup C with
  | some ⟨.type "type", _, .cls cd, sl⟩ => (match cd.mro, sl.toList with
    | .ref C' :: bm, [_, _, _, _, some (.builtin n), _] => decide (C' = C) && (decide (n = "ValueError.__new__") && (!cd.hasDel && (cd.hasDict && PySem.HandSPX.refsVE bm)))
    | _, _ => false)
  | _ => false) && (decide (PySem.W.findIn K (.ref C) "__setattr__" = some (some (.builtin "object.__setattr__"))) && (decide (PySem.W.subIn K (.ref C) (.type "BaseException") = some true) &&
    (decide (PySem.W.typeIn K (.ref C) = some (.type "type")) && PySem.W.keepIn K (.ref C))))
theorem oexB_ok {K : PySem.W.Frag} {C : Addr} (h : oexB K C = true) : OexC K C := by
  unfold oexB at h
  rw [Bool.and_eq_true] at h
  obtain ⟨h1, h2⟩ := h
  simp only [Bool.and_eq_true, decide_eq_true_eq] at h2
  obtain ⟨h2, h3, h4, h5⟩ := h2
  refine ⟨?_, h2, h3, h4, h5⟩
  split at h1
  · rename_i dd cd sl ho
    split at h1
    · rename_i C' bm k0 k1 k2 k3 n k5 hm hs
      simp only [Bool.and_eq_true, decide_eq_true_eq, Bool.not_eq_true'] at h1
      obtain ⟨rfl, rfl, hdel, hd, hv⟩ := h1
      obtain ⟨nm, bs, mro, ns, qn, hdd, sn, sub, ab, col, del⟩ := cd
      dsimp only at hm hdel hd
      subst hm hdel hd
      have hsl : sl = #[k0, k1, k2, k3, some (.builtin "ValueError.__new__"), k5] := by
        obtain ⟨l⟩ := sl
        simp only at hs
        rw [hs]
      subst hsl
      exact ⟨nm, qn, ns, bs, bm, sn, sub, ab, col, dd, k0, k1, k2, k3, k5, ho, hv⟩
    · cases h1
  · cases h1
/-- a class of exceptions as the text has it -/
structure XD where
  cls : Str
  fs : List Str
  self : Str
  qual : Str
  params : Arguments
  body : List Stmt
  scope : Scope
abbrev FnI : Type := Option (Str × Str × Arguments × FuncBody × Scope × Addr × List Str × Addr)
def xAt (K : PySem.W.Frag) (c : Str) : Addr := He.ma K (He.ga K c) "__init__"
def fnI (K : PySem.W.Frag) (c : Str) : FnI := match K.lookup (xAt K c) with
  | some ⟨_, _, .func fd, _⟩ => some (fd.name, fd.qualname, fd.params, fd.body, fd.scope, fd.globals, fd.closure.map (·.1), fd.builtins)
  | _ => none
def XD.val (d : XD) : FnI := some ("__init__", d.qual, d.params, .stmts d.body, d.scope, mainGlobals, ["__class__"], builtinsNs)
/-- the facts of one class -/
def xB (K : PySem.W.Frag) (file : Str) (d : XD) : Bool :=
  (match K.lookup (xAt K d.cls) with
  | some ⟨_, _, .func fd, _⟩ => (match fd.closure, fd.code, fd.defaults with
    | [(_, cc)], .ref cda, .none => PySem.W.codeIn K (.ref cda) d.qual && ((match K.lookup cda with
        | some ⟨_, _, .fields vs, _⟩ => (match (vs[2]? : Option Value) with
          | some (Value.str f _) => decide (f = file)
          | _ => false)
        | _ => false) && (match K.lookup cc with
        | some ⟨_, _, .cell (some (.ref C)), _⟩ => decide (C = He.ga K d.cls)
        | _ => false))
    | _, _, _ => false)
  | _ => false) && (decide (PySem.W.mroIn K (He.ga K d.cls) (.ref (He.ga K d.cls)) = some true) && (decide (PySem.W.nsIn K cStatics "thirdparty.any" = some none) && (decide (PySem.W.ks_superIn K (He.ga K d.cls) (He.ga K d.cls) "__init__" = some (some (.builtin "ValueError.__init__"))) &&
    (decide (PySem.W.subIn K (.ref (He.ga K d.cls)) (.type "ValueError") = some true) && (oexB K (He.ga K d.cls) && (xfB K (He.ga K d.cls) && ((d.fs.all fun f => decide (PySem.W.findIn K (.ref (He.ga K d.cls)) f = some none)) &&
    (decide (PySem.W.findIn K (.ref (He.ga K d.cls)) "__init__" = some (some (.ref (xAt K d.cls)))) && decide (PySem.W.typeIn K (.ref (xAt K d.cls)) = some (.type "function"))))))))))
/-- what the text alone tells -/
def XD.txt (d : XD) : Bool := isIni d.self d.fs d.body && (scopeIB (d.self :: d.fs) d.scope && (((d.self :: d.fs).all nmOk) && (decide d.fs.Nodup && (!d.fs.isEmpty && (decide (d.fs.length ≤ 3) && ((match d.body with
  | .Expr (.Call (.Attribute _ _ q2) _ _ q3) _ :: _ => q2.endLine == q3.line
  | _ => false) &&
  (match d.params.posonlyargs ++ d.params.args with
  | ar :: _ => decide (ar.arg = d.self)
  | [] => false)))))))
theorem back_no {p : Pos} {env : PySem.Env} : ∀ {ps : List Str} {es : List Expr}, isArgs ps es = true → (backTo p (starEach es env)).any (·.1) = false
  | [], [], _ => rfl
  | _ :: ps, .Name x px :: es, h => by
    unfold isArgs at h
    rw [Bool.and_eq_true] at h
    have ih := back_no (p := p) (env := env) h.2
    have e : starEach (.Name x px :: es) env = (false, eval (.Name x px) env) :: starEach es env := rfl
    rw [e]
    show (false || (backTo p (starEach es env)).any (·.1)) = false
    rw [ih]; rfl
  | [], _ :: _, h => by simp [isArgs] at h
  | _ :: _, [], h => by simp [isArgs] at h
theorem star_no {env : PySem.Env} : ∀ {ps : List Str} {es : List Expr}, isArgs ps es = true → (starEach es env).all (!·.1) = true ∧ es.length = ps.length
  | [], [], _ => ⟨rfl, rfl⟩
  | _ :: ps, .Name x px :: es, h => by
    unfold isArgs at h
    rw [Bool.and_eq_true] at h
    have ih := star_no (env := env) h.2
    have e : starEach (.Name x px :: es) env = (false, eval (.Name x px) env) :: starEach es env := rfl
    rw [e]
    exact ⟨by show (!false && (starEach es env).all (!·.1)) = true; rw [ih.1]; rfl, congrArg (· + 1) ih.2⟩
  | [], _ :: _, h => by simp [isArgs] at h
  | _ :: _, [], h => by simp [isArgs] at h
theorem ev_few {q0 q1 q2 q3 : Pos} {es : List Expr} {ps : List Str} (h : isArgs ps es = true) (hl : ps.length ≤ 3) (hq : (q2.endLine == q3.line) = true) : ∀ env, eval (.Call (.Attribute (.Call (.Name "super" q0) [] [] q1) "__init__" q2) es [] q3) env = (do
      let ov ← attributeBase (.Call (.Name "super" q0) [] [] q1) "__init__" env (eval (.Call (.Name "super" q0) [] [] q1) env)
      standAt q2.atName
      let (f, first) ← holding [ov] (getMethod ov "__init__" (do return (← (pure (some false) : Sem (Option Bool))).getD true))
      callWith q3 f first (backTo q3 (starEach es env)) []) := fun env => by
  obtain ⟨h1, h2⟩ := star_no (env := env) h
  have e : eval (.Call (.Attribute (.Call (.Name "super" q0) [] [] q1) "__init__" q2) es [] q3) env = (do
      let ov ← attributeBase (.Call (.Name "super" q0) [] [] q1) "__init__" env (eval (.Call (.Name "super" q0) [] [] q1) env)
      standAt q2.atName
      methodCall (.Call (.Name "super" q0) [] [] q1) "__init__" q2 q3 env ov es.length (backTo q3 (starEach es env)) []) := by
    rfl
  have hb : (backTo q3 (starEach es env)).all (!·.1) = true := by
    unfold backTo
    rw [List.all_map]
    refine List.all_eq_true.mpr fun x hx => ?_
    exact List.all_eq_true.mp h1 x hx
  have hf : methodCallForm es.length (backTo q3 (starEach es env)) [] = true := by
    unfold methodCallForm
    rw [hb]
    have : es.length + (if ([] : List (Option Str × Sem Value)).isEmpty then 0 else 1) < 30 := by
      show es.length + 0 < 30
      omega
    rw [decide_eq_true this]; rfl
  rw [e]
  unfold methodCall
  rw [hf]
  have hp : methodCallPos true (.Call (.Name "super" q0) [] [] q1) env q2 q3 = pure q3 := by
    unfold methodCallPos
    rw [hq]
    rfl
  rw [hp]
  rfl
theorem xcl_of {P : Program} {w : World} {K : PySem.W.Frag} {mg : Str → Option Value} {base : Heap} {file : Str} {d : XD} (ho : fnI K d.cls = d.val) (hB : xB K file d = true) (ht : d.txt = true) (hm : mg d.cls = some (.ref (He.ga K d.cls))) (hs : mg "super" = none)
    (hP : ((P.main.file : Str) == file) = true ∧ (P.main.scope.names.lookup ("super" : Str)).isSome = false)
    (hbd : ∀ (kV doc pm : Value) (an : Option Addr) (cdv ct : Value) (cc : Addr) (us : List Value), us.length = (d.self :: d.fs).length → bindArgs (PySem.W.ksFn "__init__" d.qual d.params d.body d.scope .none kV doc pm an cdv ct cc) ⟨us, []⟩ = pure ((d.self :: d.fs).zip us)) :
    XCl P w K mg base d.cls d.fs := by
  obtain ⟨cls, fs, self, qual, params, body, scope⟩ := d
  unfold xB at hB
  simp only [Bool.and_eq_true, decide_eq_true_eq] at hB
  obtain ⟨hB1, b1, b2, b3, b4, b5, b6, b7, b8, b9⟩ := hB
  unfold XD.txt at ht
  simp only [Bool.and_eq_true, decide_eq_true_eq, Bool.not_eq_true'] at ht
  obtain ⟨t1, t2, t3, t4, t5, t6, t9, t7⟩ := ht
  unfold fnI at ho
  dsimp only at ho hB1 b1 b2 b3 b4 b5 b6 b7 b8 b9 t1 t2 t3 t4 t5 t6 t7 t9 hm hbd ⊢
  cases lk : K.lookup (xAt K cls) with
  | none => rw [lk] at ho; cases ho
  | some o =>
    obtain ⟨oc, od, dt, osl⟩ := o
    rw [lk] at ho hB1
    cases dt with
    | func fd =>
      obtain ⟨n1, n2, n3, n4, n5, n6, n7, n8, n9, n10, n11, n12, n13, n14, n15⟩ := fd
      have e2 : (some (n1, n2, n3, n4, n5, n6, n7.map (·.1), n15) : FnI) = (some (("__init__" : Str), qual, params, FuncBody.stmts body, scope, mainGlobals, [("__class__" : Str)], builtinsNs) : FnI) := ho
      simp only [Option.some.injEq, Prod.mk.injEq] at e2
      obtain ⟨h1, h2, h3, h4, h5, h6, h7, h8⟩ := e2
      subst h1 h2 h3 h4 h5 h6 h8
      dsimp only at hB1
      split at hB1
      · rename_i c0 cc cda
        simp only [List.map_cons, List.map_nil, List.cons.injEq, and_true] at h7
        subst h7
        simp only [Bool.and_eq_true] at hB1
        obtain ⟨a1, a2, a3⟩ := hB1
        cases hcd : K.lookup cda with
        | none => rw [hcd] at a2; cases a2
        | some oo =>
          obtain ⟨ccl, cdd, cdt, ccs⟩ := oo
          rw [hcd] at a2
          cases cdt with
          | fields vs =>
            dsimp only at a2
            split at a2
            · rename_i f tf hvs
              have a2 := of_decide_eq_true a2
              subst a2
              cases hcc : K.lookup cc with
              | none => rw [hcc] at a3; cases a3
              | some oc2 =>
                obtain ⟨xl, xd, xt, xs⟩ := oc2
                rw [hcc] at a3
                cases xt with
                | cell cv =>
                  cases cv with
                  | none => cases a3
                  | some vv =>
                    cases vv with
                    | ref C =>
                      have a3 : C = He.ga K cls := of_decide_eq_true a3
                      subst a3
                      have IC : InitC P K (He.ga K cls) cda cc := ⟨⟨ccl, cdd, vs, ccs, f, tf, hcd, hvs, hP.1⟩, ⟨xl, xd, xs, hcc⟩, b1, b2, b3, b4, oexB_ok b5, hP.2⟩
                      have S : ScopeI (self :: fs) n5 := scopeIB_ok t2
                      have nmk : ∀ j p, fs[j]? = some p → (self :: fs)[1 + j]? = some p ∧ n5.names.lookup p = some .local ∧ nmOk p = true := fun j p hj => by
                        refine ⟨by rw [Nat.add_comm]; simpa using hj, S.par p (List.mem_cons_of_mem _ (List.mem_of_getElem? hj)), List.all_eq_true.mp t3 p (List.mem_cons_of_mem _ (List.mem_of_getElem? hj))⟩
                      have hself : (self :: fs)[0]? = some self ∧ n5.names.lookup self = some .local ∧ nmOk self = true := ⟨rfl, S.par self (by simp), List.all_eq_true.mp t3 self (by simp)⟩
                      unfold isIni at t1
                      split at t1
                      · rename_i s0 q0 q1 i0 q2 es q3 q4 r
                        simp only [Bool.and_eq_true, decide_eq_true_eq, Bool.not_eq_true'] at t1
                        obtain ⟨rfl, rfl, u1, u2, u3⟩ := t1
                        cases es with
                        | nil => cases u3
                        | cons e es =>
                          have u1' := u1
                          cases hps : n3.posonlyargs ++ n3.args with
                          | nil => rw [hps] at t7; cases t7
                          | cons ar ars =>
                            rw [hps] at t7
                            have t8 : ar.arg = self := of_decide_eq_true t7
                            refine ⟨⟨He.ga K cls, xAt K cls, self, PySem.W.ksFn "__init__" n2 n3 _ n5 .none n9 n10 n11 n12 (.ref cda) n14 cc, hm, oexB_ok b5, xfB_ok b6, fun f hf => ?_, b8, b9, .all fun us hl => hbd _ _ _ _ _ _ _ us hl, ?_⟩, (fun z => by subst z; cases t5), t4, Nat.le_trans t6 (by decide)⟩
                            · exact of_decide_eq_true (List.all_eq_true.mp b7 f hf)
                            · obtain ⟨p, fs', rfl⟩ : ∃ p fs', fs = p :: fs' := by
                                cases fs with
                                | nil => cases t5
                                | cons a b => exact ⟨a, b, rfl⟩
                              cases e with
                              | Name x px =>
                                refine init_fn (pl := do return (← (pure (some false) : Sem (Option Bool))).getD true) IC S lk a1 (by rw [hps]; rfl) t8 hs (fun X hsc hN hK => ?_) (fun X hsc hN hK => ?_) (fun env => ?_) (fun env => rfl) ?_
                                · exact pa_args (i := 1) u1' fun j p hj => by
                                    rw [hN, hsc]; exact nmk j p hj
                                · rw [← hK]
                                  exact pss_ass (by rw [hN, hsc]; exact hself) (i := 1) u2 fun j p hj => by
                                    rw [hN, hsc]; exact nmk j p hj
                                · unfold isArgs at u1
                                  rw [Bool.and_eq_true] at u1
                                  exact back_no u1.2
                                · exact ev_few u1' t6 t9
                              | _ => simp [isArgs] at u1
                      · cases t1
                    | _ => cases a3
                | _ => cases a3
            · cases a2
          | _ => cases a2
      · cases hB1
    | _ => cases ho
end Sw

/-! Try: try: body / except C as n: suite, where the suite reads the exception's fields. -/
set_option Elab.async false
set_option linter.all false
set_option maxRecDepth 100000
set_option maxHeartbeats 4000000
namespace Sw
open PySem PySem.Spec PyProof.Rows L2
variable [LamT]
/-- what stays true while the state goes on -/
abbrev SP3 := L2.St → (Addr → Prop) → List Addr → Hp → Prop
def Stay (K : Frag) (mg : Str → Option Value) (P : SP3) : Prop := ∀ {σ : L2.St} {B B' : Addr → Prop} {φ φ' : List Addr} {H H' : Hp} {st : Store}, RS K mg B φ H st → Go φ B H φ' B' H' → P σ B φ H → P σ B' φ' H'
def TrP (P : SP3) (K : Frag) (mg : Str → Option Value) {α β : Type} (R : Rl α β) (c : Act α) (W : WX) : L2.St → Hp → (β → Hp → Prop) → Prop := fun σ H Q =>
  ∃ B φ e st r st', REnv K B φ H σ e ∧ RS K mg B φ H st ∧ P σ B φ H ∧ c e st = some (r, st') ∧ Fin K mg B φ H R st' Q (fun cls dx H' => W cls dx σ H') r
def TrKP (P : SP3) (K : Frag) (mg : Str → Option Value) {α β α₁ β₁ : Type} (R₁ : Rl α₁ β₁) (R : Rl α β) (f : α₁ → Act α) (W : WX) (v : β₁) : L2.St → Hp → (β → Hp → Prop) → Prop := fun σ H Q =>
  ∃ B φ e st d r st', REnv K B φ H σ e ∧ RS K mg B φ H st ∧ P σ B φ H ∧ R₁ B φ H v d ∧ f d e st = some (r, st') ∧ Fin K mg B φ H R st' Q (fun cls dx H' => W cls dx σ H') r
def TrSP (P : SP3) (K : Frag) (mg : Str → Option Value) (c : Sx) (W : WX) : TS := fun D σ H =>
  ∃ B φ e st r st', REnv K B φ H σ e ∧ RS K mg B φ H st ∧ P σ B φ H ∧ c e st = some (r, st') ∧ FinS K mg B φ H st' D W r
section
variable {P : SP3} {K : Frag} {mg : Str → Option Value} {W : WX} {σ : L2.St} {H : Hp}
theorem TrP.forget {α β : Type} {R : Rl α β} {c : Act α} {Q : β → Hp → Prop} (h : TrP P K mg R c W σ H Q) : Tr K mg R c W σ H Q := by
  obtain ⟨B, φ, e, st, r, st', re, rs, _, hc, fin⟩ := h
  exact ⟨B, φ, e, st, r, st', re, rs, hc, fin⟩
theorem TrKP.forget {α β α₁ β₁ : Type} {R₁ : Rl α₁ β₁} {R : Rl α β} {f : α₁ → Act α} {v : β₁} {Q : β → Hp → Prop} (h : TrKP P K mg R₁ R f W v σ H Q) : TrK K mg R₁ R f W v σ H Q := by
  obtain ⟨B, φ, e, st, d, r, st', re, rs, _, r1, hc, fin⟩ := h
  exact ⟨B, φ, e, st, d, r, st', re, rs, r1, hc, fin⟩
theorem TrP.mono {α β : Type} {R : Rl α β} {c : Act α} {Q Q' : β → Hp → Prop} (h : TrP P K mg R c W σ H Q) (f : ∀ v H, Q v H → Q' v H) : TrP P K mg R c W σ H Q' := by
  obtain ⟨B, φ, e, st, r, st', re, rs, p, hc, fin⟩ := h
  exact ⟨B, φ, e, st, r, st', re, rs, p, hc, fin.mono f⟩
theorem TrP.bind (s : Stay K mg P) {α β α₁ β₁ : Type} {R₁ : Rl α₁ β₁} {R : Rl α β} {a : Act α₁} {f : α₁ → Act α} {Q : β → Hp → Prop} (h : TrP P K mg R (a.bind f) W σ H Q) : TrP P K mg R₁ a W σ H fun v H1 => TrKP P K mg R₁ R f W v σ H1 Q := by
  obtain ⟨B, φ, e, st, r, st', re, rs, p, hc, fin⟩ := h
  unfold Act.bind at hc
  cases ha : a e st with
  | none => rw [ha] at hc; cases hc
  | some p1 =>
    obtain ⟨q, st1⟩ := p1
    rw [ha] at hc
    cases q with
    | error x =>
      simp only [Option.some.injEq, Prod.mk.injEq] at hc
      obtain ⟨rfl, rfl⟩ := hc
      exact ⟨B, φ, e, st, _, _, re, rs, p, ha, fin⟩
    | ok d => exact ⟨B, φ, e, st, _, _, re, rs, p, ha, fun v B' φ' H' g rs' rd => ⟨B', φ', e, st1, d, r, st', REnv.go rs g re, rs', s rs g p, rd, hc, fin.go g⟩⟩
theorem TrKP.bind (s : Stay K mg P) {α β α₁ β₁ α₂ β₂ : Type} {R₁ : Rl α₁ β₁} {R₂ : Rl α₂ β₂} {R : Rl α β} {b : Act α₂} {f : α₁ → α₂ → Act α} {v : β₁} {Q : β → Hp → Prop} (m : Mono K mg R₁) (h : TrKP P K mg R₁ R (fun d => b.bind (f d)) W v σ H Q) :
    TrP P K mg R₂ b W σ H fun w H1 => TrKP P K mg (R2x R₁ R₂) R (fun p => f p.1 p.2) W (v, w) σ H1 Q := by
  obtain ⟨B, φ, e, st, d, r, st', re, rs, p, r1, hc, fin⟩ := h
  unfold Act.bind at hc
  dsimp only at hc
  cases ha : b e st with
  | none => rw [ha] at hc; cases hc
  | some p1 =>
    obtain ⟨q, st1⟩ := p1
    rw [ha] at hc
    cases q with
    | error x =>
      simp only [Option.some.injEq, Prod.mk.injEq] at hc
      obtain ⟨rfl, rfl⟩ := hc
      exact ⟨B, φ, e, st, _, _, re, rs, p, ha, fin⟩
    | ok d2 => exact ⟨B, φ, e, st, _, _, re, rs, p, ha, fun w B' φ' H' g rs' rd => ⟨B', φ', e, st1, (d, d2), r, st', REnv.go rs g re, rs', s rs g p, ⟨m rs g r1, rd⟩, hc, fin.go g⟩⟩
theorem TrP.intoS (s : Stay K mg P) {α β : Type} {R : Rl α β} {a : Act α} {f : α → Env → Store → Option (SR × Store)} {c : Sx} {En : Ends} (hc : ∀ e st, c e st = match a e st with
    | some (.ok d, st') => f d e st'
    | some (.error x, st') => some (.ex x e, st')
    | none => none) (h : TrSP P K mg c W En σ H) :
    TrP P K mg R a W σ H fun v H1 => ∃ B φ e st d r st', REnv K B φ H1 σ e ∧ RS K mg B φ H1 st ∧ P σ B φ H1 ∧ R B φ H1 v d ∧ f d e st = some (r, st') ∧ FinS K mg B φ H1 st' En W r := by
  obtain ⟨B, φ, e, st, r, st', re, rs, p, h1, fin⟩ := h
  rw [hc] at h1
  cases ha : a e st with
  | none => rw [ha] at h1; cases h1
  | some p1 =>
    obtain ⟨q, st1⟩ := p1
    rw [ha] at h1
    cases q with
    | error x =>
      cases h1
      exact ⟨B, φ, e, st, _, _, re, rs, p, ha, fun cls dx B' φ' H' g rs' rx => fin cls dx σ B' φ' H' g rs' (REnv.go rs g re) rx⟩
    | ok d => exact ⟨B, φ, e, st, _, _, re, rs, p, ha, fun v B' φ' H' g rs' rd => ⟨B', φ', e, st1, d, r, st', REnv.go rs g re, rs', s rs g p, rd, h1, fin.go g⟩⟩
end
section
variable (X : Cx) (P : SP3)
def REP (e : Expr) (c : Ex) : Prop := ∀ W, Takes X W → PE X e (TrP P X.K X.mg (RD X.K) c W)
def RTP (e : Expr) (c : Tx) : Prop := ∀ W, Takes X W → PT X e (TrP P X.K X.mg rB c W)
def RAP (es : List Expr) (c : Ax) : Prop := ∀ W, Takes X W → PA X es (TrP P X.K X.mg (RDs X.K) c W)
def RStP (s : Stmt) (c : Sx) : Prop := ∀ W, Takes X W → PS X s (TrSP P X.K X.mg c W)
def RSsP (s : List Stmt) (c : Sx) : Prop := ∀ W, Takes X W → PSs X s (TrSP P X.K X.mg c W)
end
section
variable {X : Cx} {P : SP3} {a b c : Expr} {ca cb cc : Ex} {ta tb : Tx} {pos : Pos} {es : List Expr} {cs : Ax} {s1 : Stmt} {ss ss2 : List Stmt} {c1 c2 : Sx}
theorem rep_of (h : RE X a ca) : REP X P a ca := fun W tk => (h W tk).imp fun σ H Q q => q.forget
theorem rtp_of (h : RT X a ta) : RTP X P a ta := fun W tk => (h W tk).imp fun σ H Q q => q.forget
theorem rstp_of (h : RSt X s1 c1) : RStP X P s1 c1 := fun W tk => (h W tk).imp fun D σ H q => by
  obtain ⟨B, φ, e, st, r, st', re, rs, _, hc, fin⟩ := q
  exact ⟨B, φ, e, st, r, st', re, rs, hc, fin⟩
theorem rep_cmp (s : Stay X.K X.mg P) {op : CmpOp} {g : Store → D → D → Option D} (ho : OpR X (compareOp op) (V2 X.K X.mg g)) (ha : REP X P a ca) (hb : REP X P b cb) (hm : behindInMarks op b = false := by first | exact nomark _ | rfl) : REP X P (.Compare a [op] [b] pos) (op2 g ca cb) := fun W tk =>
  (pe_cmpR ho (ha W tk) (hb W tk) hm).imp fun σ H Q h => (TrP.bind s h).mono fun x H1 h1 => (TrKP.bind s mono_d h1).mono fun y H2 h2 => h2.forget.v2
theorem rap_nil : RAP X P [] aNil := fun W tk => (ra_nil W tk).imp fun σ H Q q => q.forget
theorem rap_cons (s : Stay X.K X.mg P) (ha : REP X P a ca) (hr : RAP X P es cs) (hs : starEach (a :: es) X.env = (false, eval a X.env) :: starEach es X.env := by rfl) : RAP X P (a :: es) (aCons ca cs) := fun W tk =>
  (pa_cons (ha W tk) (hr W tk) hs).imp fun σ H Q h => (TrP.bind s h).mono fun x H1 h1 => (TrKP.bind s mono_d h1).mono fun xs H2 h2 => by
    obtain ⟨B, φ, e, st, d, r, st', re, rs, r1, hc, fin⟩ := h2.forget
    cases hc
    exact fin.here rs (.cons r1.1 r1.2)
theorem rep_tup (s : Stay X.K X.mg P) {k} (ha : RAP X P es cs) : REP X P (.Tuple es k pos) (eTup cs) := fun W tk => (pe_tupP (ha W tk)).imp fun σ H Q h => (TrP.bind s h).mono fun xs H1 h1 => by
  obtain ⟨B, φ, st, ds, z, rs, rd, hz, fin⟩ := h1.forget.vA
  dsimp only at hz
  split at hz
  · rename_i hl
    cases hz
    exact ⟨by rw [rd.length]; exact hl, finT rs fin rd⟩
  · cases hz
theorem rep_lst (s : Stay X.K X.mg P) (ha : RAP X P es cs) : REP X P (.List es pos) (eLst cs) := fun W tk => (pe_lst (ha W tk)).imp fun σ H Q h => (TrP.bind s h).mono fun xs H1 h1 => by
  obtain ⟨B, φ, st, ds, z, rs, rd, hz, fin⟩ := h1.forget.vA
  dsimp only at hz
  split at hz
  · rename_i hl
    cases hz
    exact ⟨by rw [rd.length]; exact hl, fun p hp => finL rs fin rd hp⟩
  · cases hz
theorem rep_one {op} (ha : REP X P a ca) : REP X P (.BoolOp op [a] pos) ca := fun W tk => pe_one (ha W tk)
theorem rtp_val (s : Stay X.K X.mg P) (ha : REP X P a ca) (he : ∀ whole, isTrue a X.env whole = (do let v ← whole; standAt a.pos; holding [v] (truthy v)) := by intro _; rfl) : RTP X P a (tV ca) := fun W tk =>
  (pt_truth (ha W tk) he).imp fun σ H Q h => (TrP.bind s h).mono fun x H1 h1 => h1.forget.vTb
theorem rtp_cmp (s : Stay X.K X.mg P) {op : CmpOp} {g : Store → D → D → Option D} (ho : OpR X (compareOp op) (V2 X.K X.mg g)) (hb' : IsB g) (ha : REP X P a ca) (hb : REP X P b cb) (hm : behindInMarks op b = false := by first | exact nomark _ | rfl) : RTP X P (.Compare a [op] [b] pos) (tV (op2 g ca cb)) := fun W tk =>
  (pt_cmpR ho (ha W tk) (hb W tk) hm).imp fun σ H Q h => by
    unfold tV op2 at h
    simp only [bind_assoc] at h
    refine (TrP.bind s h).mono fun x H1 h1 => (TrKP.bind s mono_d h1).mono fun y H2 h2 => ?_
    obtain ⟨B, φ, e, st, d, r, st', re, rs, r1, hc, fin⟩ := h2.forget
    unfold Act.bind at hc
    dsimp only at hc
    cases hl : look (fun st => g st d.1 d.2) e st with
    | none => rw [hl] at hc; cases hc
    | some p =>
      obtain ⟨q, st1⟩ := p
      rw [hl] at hc
      obtain ⟨z, rfl, rfl, hz⟩ := look_eq hl
      obtain ⟨k, rfl⟩ := hb' _ _ _ _ hz
      obtain ⟨k', rfl, rfl, hk⟩ := look_eq hc
      simp only [truth, Option.some.injEq] at hk
      subst hk
      exact ⟨B, φ, _, d.1, d.2, _, rs, r1.1, r1.2, hz, fun v B' φ' H' g' rs' rv => by cases rv; exact ⟨k, rfl, fin k _ _ _ g' rs' rfl⟩⟩
theorem TrKP.andor {K : Frag} {mg : Str → Option Value} {σ : L2.St} {H : Hp} {W : WX} {x : V} {Q : VK} {f : Bool → D → Ex} (h : TrKP P K mg (RD K) (RD K) (fun d => (look fun st => truth st d : Tx).bind fun k => f k d) W x σ H Q) :
    ∃ k, TruV K x H k ∧ TrKP P K mg (RD K) (RD K) (f k) W x σ H Q := by
  obtain ⟨B, φ, e, st, d, r, st', re, rs, p, r1, hc, fin⟩ := h
  unfold Act.bind at hc
  dsimp only at hc
  cases hl : (look fun st => truth st d : Tx) e st with
  | none => rw [hl] at hc; cases hc
  | some p1 =>
    obtain ⟨q, st1⟩ := p1
    rw [hl] at hc
    obtain ⟨k, rfl, rfl, hk⟩ := look_eq hl
    exact ⟨k, tru_of rs r1 hk, B, φ, e, _, d, r, st', re, rs, p, r1, hc, fin⟩
theorem TrKP.drop {K : Frag} {mg : Str → Option Value} {σ : L2.St} {H : Hp} {W : WX} {x : V} {Q : VK} {f : Ex} (h : TrKP P K mg (RD K) (RD K) (fun _ => f) W x σ H Q) : TrP P K mg (RD K) f W σ H Q := by
  obtain ⟨B, φ, e, st, d, r, st', re, rs, p, r1, hc, fin⟩ := h
  exact ⟨B, φ, e, st, r, st', re, rs, p, hc, fin⟩
theorem rep_and (s : Stay X.K X.mg P) {rest : List Expr} (ha : REP X P a ca) (hb : REP X P (.BoolOp .And (b :: rest) pos) cb) : REP X P (.BoolOp .And (a :: b :: rest) pos) (eAnd ca cb) := fun W tk => (pe_andT (ha W tk) (hb W tk)).imp fun σ H Q h => (TrP.bind s h).mono fun x H1 h1 => by
  obtain ⟨k, hk, h2⟩ := TrKP.andor (f := fun k d => if k = true then cb else eC d) h1
  refine ⟨k, hk, ?_⟩
  cases k with
  | true => exact iteT h2.drop
  | false => exact iteF h2.forget.same
theorem rtp_not (s : Stay X.K X.mg P) (ha : RTP X P a ta) : RTP X P (.UnaryOp .Not a pos) (tNot ta) := fun W tk => (pt_not (ha W tk)).imp fun σ H Q h => (TrP.bind s h).mono fun x H1 h1 => h1.forget.pureB fun r => congrArg (!·) r
theorem rsp_ret (s : Stay X.K X.mg P) (ha : REP X P a ca) : RStP X P (.Return (some a) pos) (sRet ca) := fun W tk => (ps_ret (ha W tk)).imp fun D σ H h =>
  (TrP.intoS s (c := sRet ca) (f := fun d _ st => some (.rt d, st)) (fun e st => by unfold sRet; cases ca e st with | none => rfl | some p => obtain ⟨q, st1⟩ := p; cases q <;> rfl) h).mono fun v H1 ⟨B, φ, e, st, d, r, st', re, rs, _, r1, hc, fin⟩ => by
    cases hc
    exact fin v _ _ _ (.refl rs) rs r1
theorem rsp_if (s : Stay X.K X.mg P) {tc : Tx} (hc : RTP X P c tc) (h1 : RSsP X P ss c1) (h2 : RSsP X P ss2 c2) : RStP X P (.If c ss ss2 pos) (sIf tc c1 c2) := fun W tk => (ps_if (hc W tk) (h1 W tk) (h2 W tk)).imp fun D σ H h =>
  (TrP.intoS s (R := rB) (c := sIf tc c1 c2) (f := fun b e st => if b = true then c1 e st else c2 e st) (fun e st => by unfold sIf; cases tc e st with | none => rfl | some p => obtain ⟨q, st1⟩ := p; cases q with | error x => rfl | ok b => cases b <;> rfl) h).mono fun v H1 ⟨B, φ, e, st, d, r, st', re, rs, p, r1, hc, fin⟩ => by
    have r1 : v = d := r1
    subst r1
    cases v with
    | true => exact iteT ⟨B, φ, e, st, r, st', re, rs, p, hc, fin⟩
    | false => exact iteF ⟨B, φ, e, st, r, st', re, rs, p, hc, fin⟩
theorem rsp_one (h1 : RStP X P s1 c1) : RSsP X P [s1] c1 := fun W tk => pss_one (h1 W tk)
theorem rsp_of (h : RSs X ss c1) : RSsP X P ss c1 := fun W tk => (h W tk).imp fun D σ H q => by
  obtain ⟨B, φ, e, st, r, st', re, rs, _, hc, fin⟩ := q
  exact ⟨B, φ, e, st, r, st', re, rs, hc, fin⟩
end
/-! ### the suite -/
/-- slot i holds the exception a, whose dict is at dd -/
def hasX (K : Frag) (i : Nat) (a dd : Addr) (fs : List (Str × D)) : SP3 := fun σ B φ H => (i < σ.length → σ[i]? = some (some (.ref a))) ∧ dd ∉ φ ∧ ∃ vs, H dd = some (.xd vs) ∧ RFs K B φ H vs fs
theorem hasX_stay {K : Frag} {mg : Str → Option Value} {i : Nat} {a dd : Addr} {fs : List (Str × D)} : Stay K mg (hasX K i a dd fs) := fun {σ B B' φ φ' H H' st} rs g ⟨h1, h2, vs, h3, h4⟩ =>
  ⟨h1, (fun hm => (g.inφ dd hm).elim h2 fun z => z ⟨_, h3, fun _ z => by cases z⟩), vs, g.keep dd _ h3 h2 (fun _ z => by cases z), h4.on (RD.go rs g)⟩
theorem RFs.look {K : Frag} {B : Addr → Prop} {φ : List Addr} {H : Hp} {f : Str} {d : D} : ∀ {vs : List (Str × V)} {ds : List (Str × D)}, RFs K B φ H vs ds → ds.lookup f = some d → ∃ v, vs.lookup f = some v ∧ RD K B φ H v d
  | _, _, .nil, h => by cases h
  | _, _, .cons (k := k) (vs := vs) (ds := ds) r t, h => by
    rw [List.lookup_cons] at h ⊢
    cases hb : (f == k) with
    | true => rw [hb] at h; cases h; exact ⟨_, rfl, r⟩
    | false => rw [hb] at h; exact RFs.look t h
/-- what is known of the classes that fly -/
structure XMo (P : Program) (w : World) (K : Frag) (mg : Str → Option Value) (base : Heap) (xs : List (Str × List Str)) : Prop where
  cl : ∀ p ∈ xs, XCl P w K mg base p.1 p.2
  ex : ∀ p ∈ xs, ∀ q ∈ xs, ∃ C C', mg p.1 = some (.ref C) ∧ mg q.1 = some (.ref C') ∧ PySem.W.exmOne K (.ref C) (.ref C') = some (decide (p.1 = q.1))
section
variable {K : Frag} {B : Addr → Prop} {φ : List Addr} {H : Hp} {σ : L2.St} {e : Env} {i : Nat}
theorem REnv.hide {v : Option V} (re : REnv K B φ H σ e) : REnv K B φ H (σ.set i v) (e.set i none) := by
  refine ⟨by rw [List.length_set, List.length_set, re.1], fun j d' h => ?_⟩
  by_cases hj : j = i
  · subst hj
    by_cases hl : j < e.length
    · rw [List.getElem?_set_self hl] at h; cases h
    · rw [List.getElem?_eq_none (by rw [List.length_set]; omega)] at h; cases h
  · rw [List.getElem?_set_ne (Ne.symm hj)] at h
    obtain ⟨u, h1, h2⟩ := re.2 j d' h
    exact ⟨u, by rw [List.getElem?_set_ne (Ne.symm hj)]; exact h1, h2⟩
end
section
variable {X : Cx} {xs : List (Str × List Str)} {fs : List Str} {c n f : Str} {i : Nat} {body suite : List Stmt} {b₀ : Stmt} {np pos pos' p : Pos} {cb : Sx} {s : Exc → Sx}
theorem rep_xf {x : Exc} {a dd C : Addr} {oe : Obj} {pn : List (Addr × Obj)} (T : XCl X.prog X.w X.K X.mg X.base c fs) (hC : X.mg c = some (.ref C)) (hf : f ∈ fs) (hz : Zc (.ref C) (some dd) oe) (ho : ∃ vs, oe.data = .fields vs) (hi : X.N[i]? = some n) (hv : Vis X.env.scope n) (hn : nmOk n = true)
    (hb : attributeBase (.Name n p) f X.env (eval (.Name n p) X.env) = eval (.Name n p) X.env := by rfl) :
    REP (X.suite a ((a, oe) :: pn)) (hasX X.K i a dd x.fs) (.Attribute (.Name n p) f pos) (eFld x f) := fun W tk => by
  obtain ⟨C', fI, self, fd, hm, oC, xf, hno, _⟩ := T.ex
  have eC : C' = C := by
    rw [hm] at hC
    cases hC
    rfl
  subst eC
  simp only [nmOk, Bool.and_eq_true, Bool.not_eq_true'] at hn
  refine ⟨fun pins s0 σ H Q I h => (pe_xf (X := X) xf (hno f hf) hz ho (pe_var (i := i) hi hv hn.1 hn.2) hb).run pins s0 σ H Q I ?_⟩
  have hlt : i < σ.length := by
    have h1 := I.len
    have h2 := (List.getElem?_eq_some_iff.mp hi).1
    have h1 : σ.length = X.N.length := h1
    omega
  obtain ⟨B, φ, e, st, r, st', re, rs, ⟨p1, p2, vs, p3, p4⟩, hc, fin⟩ := h
  refine ⟨_, p1 hlt, rfl, rfl, dd, vs, ?_⟩
  unfold eFld at hc
  split at hc
  · rename_i d hl
    cases hc
    obtain ⟨v, h1, h2⟩ := p4.look hl
    exact ⟨v, rfl, p3, h1, fin.here rs h2⟩
  · cases hc
theorem rs_try_as (M : XMo X.prog X.w X.K X.mg X.base xs) (hs : X.stack = X.env :: X.outer) (hf : X.env.frame = some X.env.locals) (hN : X.N.Nodup) (hi : X.N[i]? = some n) (hln : X.env.kindOf n = some .local) (hm : (c, fs) ∈ xs) (hg : Gl X c) (hdb : (c == ("__debug__" : Str)) = false)
    (hb : ∀ (pn : List (Addr × Obj)) (xe : Value → Shared → Prop), PassesOwn (model X.prog X.w) X.A X.env xe → RSs (X.tr pn xe) body cb)
    (hsu : ∀ (x : Exc) (a dd C : Addr) (oe : Obj) (pn : List (Addr × Obj)), X.mg c = some (.ref C) → Zc (.ref C) (some dd) oe → (∃ vs, oe.data = .fields vs) → RSsP (X.suite a ((a, oe) :: pn)) (hasX X.K i a dd x.fs) (b₀ :: suite) (s x)) :
    RSt X (.Try body [.ExceptHandler (some (.Name c np)) (some n) (b₀ :: suite) pos'] [] [] pos) (sTry1 (xs.map (·.1)) c (some i) cb s) := fun W tk => by
  obtain ⟨C, C2, hC, hC2, _⟩ := M.ex _ hm _ hm
  have hnames : Names X c (.ref C) := ⟨hg, hdb, .inl hC⟩
  refine (ps_try_as (i := i) (tb := fun W => TrS X.K X.mg cb W) (ts := fun a cls d D σ H => ∃ (x : Exc) (dd : Addr), cls = .ref C ∧ d = some dd ∧ TrSP (hasX X.K i a dd x.fs) X.K X.mg (s x) (fun _ _ _ _ => False) D σ H) hs hf hN hi hln hnames tk (fun W' pn xe tk' pw => hb pn xe pw W' tk') (fun a oe cls d pn hz ho => ?_)).imp fun D σ H h => ?_
  · refine ⟨fun pins s0 σ H D I h => ?_⟩
    obtain ⟨x, dd, rfl, rfl, h⟩ := h
    exact (hsu x a dd C oe pn hC hz ho _ takes_none5).run pins s0 σ H D I h
  · obtain ⟨B, φ, e, st, r, st', re, rs, hc, fin⟩ := h
    unfold sTry1 at hc
    cases hcb : cb e st with
    | none => rw [hcb] at hc; cases hc
    | some pr =>
      obtain ⟨q, st1⟩ := pr
      rw [hcb] at hc
      refine ⟨B, φ, e, st, q, st1, re, rs, hcb, ?_⟩
      cases q with
      | nx e1 => cases hc; exact fin
      | rt d1 => cases hc; exact fin
      | bk e1 => cases hc; exact fin
      | ct e1 => cases hc; exact fin
      | ex x e1 =>
        dsimp only at hc
        intro cls dx σ1 B1 φ1 H1 g1 rs1 re1 rx
        split at hc
        · rename_i hk
          obtain ⟨fs', hfs'⟩ : ∃ fs', (x.cls, fs') ∈ xs := by
            have : x.cls ∈ xs.map (·.1) := by simpa using hk
            obtain ⟨p, hp, e⟩ := List.mem_map.mp this
            exact ⟨p.2, by rw [← e]; exact hp⟩
          obtain ⟨C1, C3, q1, q3, q2⟩ := M.ex _ hfs' _ hm
          obtain ⟨Cx, r1, rfl, r2⟩ := id rx
          have : Cx = C1 := by rw [r1] at q1; cases q1; rfl
          subst this
          have : C3 = C := by rw [hC] at q3; cases q3; rfl
          subst this
          refine ⟨_, q2, fun hb a ha => ?_, fun hb => ?_⟩
          · have hxc : x.cls = c := of_decide_eq_true hb
            rw [if_pos hxc] at hc
            have hCC : Cx = C3 := by rw [hxc, hC] at r1; cases r1; rfl
            subst hCC
            split at hc
            · cases hc
            · rename_i hne
              obtain ⟨dd, vs, rfl, hdd, hfs⟩ := r2.resolve_left fun z => by rw [z.1] at hne; exact hne rfl
              have hnd : dd ∉ φ1 := fun hm => by
                obtain ⟨o, e, m⟩ := rs1.mut hm
                rw [hdd] at e
                cases e
                exact m
              refine ⟨x, dd, rfl, rfl, ?_⟩
              cases hsx : s x (e1.set i none) st1 with
              | none => rw [hsx] at hc; cases hc
              | some pr2 =>
                obtain ⟨q2, st2⟩ := pr2
                rw [hsx] at hc
                refine ⟨B1, φ1, e1.set i none, st1, q2, st2, re1.hide, rs1, ⟨fun hl => List.getElem?_set_self (by simpa using hl), hnd, vs, hdd, hfs⟩, hsx, ?_⟩
                cases q2 with
                | nx e2 => cases hc; exact fun σ2 B2 φ2 H2 g2 rs2 re2 => fin _ _ _ _ (g1.trans g2) rs2 re2.hide
                | bk e2 => cases hc; exact fun σ2 B2 φ2 H2 g2 rs2 re2 => fin _ _ _ _ (g1.trans g2) rs2 re2.hide
                | ct e2 => cases hc; exact fun σ2 B2 φ2 H2 g2 rs2 re2 => fin _ _ _ _ (g1.trans g2) rs2 re2.hide
                | rt d2 => cases hc; exact fun v2 B2 φ2 H2 g2 rs2 rd2 => fin _ _ _ _ (g1.trans g2) rs2 rd2
                | ex x2 e2 => cases hc
          · rw [if_neg (of_decide_eq_false hb)] at hc
            cases hc
            exact fin _ _ _ _ _ _ g1 rs1 re1 rx
        · cases hc
theorem rs_try_only (M : XMo X.prog X.w X.K X.mg X.base xs) (hs : X.stack = X.env :: X.outer) (hf : X.env.frame = some X.env.locals) (hm : (c, fs) ∈ xs) (hg : Gl X c) (hdb : (c == ("__debug__" : Str)) = false)
    (hb : ∀ (pn : List (Addr × Obj)) (xe : Value → Shared → Prop), PassesOwn (model X.prog X.w) X.A X.env xe → RSs (X.tr pn xe) body cb)
    (hsu : ∀ (x : Exc) (a dd C : Addr) (oe : Obj) (pn : List (Addr × Obj)), X.mg c = some (.ref C) → Zc (.ref C) (some dd) oe → (∃ vs, oe.data = .fields vs) → RSs (X.suite a ((a, oe) :: pn)) (b₀ :: suite) (s x)) :
    RSt X (.Try body [.ExceptHandler (some (.Name c np)) none (b₀ :: suite) pos'] [] [] pos) (sTry1 (xs.map (·.1)) c none cb s) := fun W tk => by
  obtain ⟨C, C2, hC, hC2, _⟩ := M.ex _ hm _ hm
  have hnames : Names X c (.ref C) := ⟨hg, hdb, .inl hC⟩
  refine (ps_try_only (tb := fun W => TrS X.K X.mg cb W) (ts := fun a cls d D σ H => ∃ (x : Exc) (dd : Addr), cls = .ref C ∧ d = some dd ∧ TrS X.K X.mg (s x) (fun _ _ _ _ => False) D σ H) hs hf hnames tk (fun W' pn xe tk' pw => hb pn xe pw W' tk') (fun a oe cls d pn hz ho => ?_)).imp fun D σ H h => ?_
  · refine ⟨fun pins s0 σ H D I h => ?_⟩
    obtain ⟨x, dd, rfl, rfl, h⟩ := h
    exact (hsu x a dd C oe pn hC hz ho _ takes_none5).run pins s0 σ H D I h
  · obtain ⟨B, φ, e, st, r, st', re, rs, hc, fin⟩ := h
    unfold sTry1 at hc
    cases hcb : cb e st with
    | none => rw [hcb] at hc; cases hc
    | some pr =>
      obtain ⟨q, st1⟩ := pr
      rw [hcb] at hc
      refine ⟨B, φ, e, st, q, st1, re, rs, hcb, ?_⟩
      cases q with
      | nx e1 => cases hc; exact fin
      | rt d1 => cases hc; exact fin
      | bk e1 => cases hc; exact fin
      | ct e1 => cases hc; exact fin
      | ex x e1 =>
        dsimp only at hc
        intro cls dx σ1 B1 φ1 H1 g1 rs1 re1 rx
        split at hc
        · rename_i hk
          obtain ⟨fs', hfs'⟩ : ∃ fs', (x.cls, fs') ∈ xs := by
            have : x.cls ∈ xs.map (·.1) := by simpa using hk
            obtain ⟨p, hp, e⟩ := List.mem_map.mp this
            exact ⟨p.2, by rw [← e]; exact hp⟩
          obtain ⟨C1, C3, q1, q3, q2⟩ := M.ex _ hfs' _ hm
          obtain ⟨Cx, r1, rfl, r2⟩ := id rx
          have : Cx = C1 := by rw [r1] at q1; cases q1; rfl
          subst this
          have : C3 = C := by rw [hC] at q3; cases q3; rfl
          subst this
          refine ⟨_, q2, fun hb a ha => ?_, fun hb => ?_⟩
          · have hxc : x.cls = c := of_decide_eq_true hb
            rw [if_pos hxc] at hc
            have hCC : Cx = C3 := by rw [hxc, hC] at r1; cases r1; rfl
            subst hCC
            split at hc
            · cases hc
            · rename_i hne
              obtain ⟨dd, vs, rfl, hdd, hfs⟩ := r2.resolve_left fun z => by rw [z.1] at hne; exact hne rfl
              have hnd : dd ∉ φ1 := fun hm => by
                obtain ⟨o, e, m⟩ := rs1.mut hm
                rw [hdd] at e
                cases e
                exact m
              refine ⟨x, dd, rfl, rfl, ?_⟩
              cases hsx : s x e1 st1 with
              | none => rw [hsx] at hc; cases hc
              | some pr2 =>
                obtain ⟨q2, st2⟩ := pr2
                rw [hsx] at hc
                refine ⟨B1, φ1, e1, st1, q2, st2, re1, rs1, hsx, ?_⟩
                cases q2 with
                | nx e2 => cases hc; exact fun σ2 B2 φ2 H2 g2 rs2 re2 => fin _ _ _ _ (g1.trans g2) rs2 re2
                | bk e2 => cases hc; exact fun σ2 B2 φ2 H2 g2 rs2 re2 => fin _ _ _ _ (g1.trans g2) rs2 re2
                | ct e2 => cases hc; exact fun σ2 B2 φ2 H2 g2 rs2 re2 => fin _ _ _ _ (g1.trans g2) rs2 re2
                | rt d2 => cases hc; exact fun v2 B2 φ2 H2 g2 rs2 rd2 => fin _ _ _ _ (g1.trans g2) rs2 rd2
                | ex x2 e2 => cases hc
          · rw [if_neg (of_decide_eq_false hb)] at hc
            cases hc
            exact fin _ _ _ _ _ _ g1 rs1 re1 rx
        · cases hc
end
end Sw

/-! Front2: the head with classes of exceptions; more rules with boolean premises. -/
set_option Elab.async false
set_option linter.all false
set_option maxRecDepth 100000
set_option maxHeartbeats 4000000
namespace Sw
open PySem PySem.Spec PyProof.Rows L2
variable [LamT]
def clsB : Stmt → List Stmt
  | .ClassDef _ _ _ body _ _ _ _ _ _ _ => body
  | _ => []
abbrev AlX : Type := AlS × (List FnI × List Bool)
def obsX (fa : List He.Fa) (fn : List He.DefD) (cs : List (Str × D)) (file : Str) (xs : List XD) (K : Frag) : AlX := (obsS fa fn cs K, (xs.map fun d => fnI K d.cls, xs.map fun d => xB K file d))
def valX (fn : List He.DefD) (cs : List (Str × D)) (xs : List XD) : AlX := (valS fn cs, (xs.map XD.val, xs.map fun _ => true))
def SaysX (fa : List He.Fa) (fn : List He.DefD) (cs : List (Str × D)) (file : Str) (xs : List XD) (K : Frag) : Prop := obsX fa fn cs file xs K = valX fn cs xs
def obsXG (n : Nat) (fa : List He.Fa) (fn : List He.DefD) (cs : List (Str × D)) (file : Str) (xs : List XD) (g : Addr → Option Obj) : AlX := obsX fa fn cs file xs (He.frG g (cStatics :: He.asD g n))
def hookX (n : Nat) (fa : List He.Fa) (fn : List He.DefD) (cs : List (Str × D)) (file : Str) (xs : List XD) : PySem.W.Hook where
  α := AlX
  obs := fun s => obsXG n fa fn cs file xs s.heap.get?
  val := fun _ => valX fn cs xs
  says := fun _ h => ∃ K : Frag, K.In h ∧ SaysX fa fn cs file xs K
  of := fun _ _ e => ⟨_, He.frG_in, e⟩
  keeps := fun _ _ _ ⟨K, hK, c⟩ k => ⟨K, PySem.W.Frag.In.keeps hK k, c⟩
theorem obsXG_eq {n : Nat} {fa : List He.Fa} {fn : List He.DefD} {cs : List (Str × D)} {file : Str} {xs : List XD} {g : Addr → Option Obj} {s : Shared} (h : ∀ a, g a = s.heap.get? a) : obsXG n fa fn cs file xs g = (hookX n fa fn cs file xs).obs s := by
  have e : g = s.heap.get? := funext h
  rw [e]; rfl
theorem SaysX.s {fa : List He.Fa} {fn : List He.DefD} {cs : List (Str × D)} {file : Str} {xs : List XD} {K : Frag} (c : SaysX fa fn cs file xs K) : SaysS fa fn cs K := congrArg Prod.fst c
theorem SaysX.cl {fa : List He.Fa} {fn : List He.DefD} {cs : List (Str × D)} {file : Str} {xs : List XD} {K : Frag} (c : SaysX fa fn cs file xs K) {d : XD} (hd : d ∈ xs) : fnI K d.cls = d.val ∧ xB K file d = true := by
  have e := congrArg Prod.snd c
  exact ⟨map_eq_mem (congrArg Prod.fst e) d hd, map_eq_mem (congrArg Prod.snd e) d hd⟩
/-- the classes' pairs, as facts -/
def exFa (xs : List XD) : List He.Fa := xs.flatMap fun d => .glo d.cls :: xs.map fun e => .exm d.cls e.cls (decide (d.cls = e.cls))
theorem says_fa {fa : List He.Fa} {fn : List He.DefD} {cs : List (Str × D)} {K : Frag} (c : SaysS fa fn cs K) {f : He.Fa} (h : f ∈ fa) : f.ok K = true := by
  obtain ⟨i, hi⟩ := List.mem_iff_getElem?.mp h
  exact c.d.fact i hi
theorem SaysX.xmo {fa : List He.Fa} {fn : List He.DefD} {cs : List (Str × D)} {file : Str} {xs : List XD} {K : Frag} {h : Heap} {mg : Str → Option Value} {P : Program} {w : World} {base : Heap} {fr : List Str} (c : SaysX (exFa xs ++ fa) fn cs file xs K) (X : K.In h) (G : h.Ns mainGlobals mg) (M : Mo K mg fr cs)
    (hsu : fr.contains ("super" : Str) = true) (ht : xs.all XD.txt = true) (hP : ((P.main.file : Str) == file) = true ∧ (P.main.scope.names.lookup ("super" : Str)).isSome = false)
    (hbd : ∀ d ∈ xs, ∀ (kV doc pm : Value) (an : Option Addr) (cdv ct : Value) (cc : Addr) (us : List Value), us.length = (d.self :: d.fs).length → bindArgs (PySem.W.ksFn "__init__" d.qual d.params d.body d.scope .none kV doc pm an cdv ct cc) ⟨us, []⟩ = pure ((d.self :: d.fs).zip us)) :
    XMo P w K mg base (xs.map fun d => (d.cls, d.fs)) := by
  have hg : ∀ d ∈ xs, mg d.cls = some (.ref (He.ga K d.cls)) := fun d hd => He.glo_ok X G (says_fa c.s (List.mem_append_left _ (List.mem_flatMap.mpr ⟨d, hd, List.mem_cons_self ..⟩)))
  refine ⟨fun p hp => ?_, fun p hp q hq => ?_⟩
  · obtain ⟨d, hd, rfl⟩ := List.mem_map.mp hp
    obtain ⟨h1, h2⟩ := c.cl hd
    exact xcl_of h1 h2 (List.all_eq_true.mp ht d hd) (hg d hd) (M.free _ hsu) hP (hbd d hd)
  · obtain ⟨d, hd, rfl⟩ := List.mem_map.mp hp
    obtain ⟨e, he, rfl⟩ := List.mem_map.mp hq
    have h1 : (He.Fa.exm d.cls e.cls (decide (d.cls = e.cls))).ok K = true := says_fa c.s (List.mem_append_left _ (List.mem_flatMap.mpr ⟨d, hd, List.mem_cons_of_mem _ (List.mem_map.mpr ⟨e, he, rfl⟩)⟩))
    exact ⟨_, _, hg d hd, hg e he, of_decide_eq_true h1⟩
/-! ### raise and try, by printed premises -/
section
variable {X : Cx} {xs : List (Str × List Str)} {x c n f : Str} {e : Expr} {es : List Expr} {cs : Ax} {fs : List Str} {p pos rpos np pos' : Pos} {i : Nat} {body suite : List Stmt} {b₀ : Stmt} {cb : Sx} {s : Exc → Sx}
theorem f_raise (M : XMo X.prog X.w X.K X.mg X.base xs) (j : Nat) (hj : xs[j]? = some (x, fs)) (hc : X.calm = true) (hr : Room 2 X.A) (hg : X.env.kindOf x = some .globalImplicit) (ha : RA X (e :: es) cs) (hdb : (x == ("__debug__" : Str)) = false)
    (he : starEach (e :: es) X.env = (false, eval e X.env) :: starEach es X.env := by rfl) (hpl : (backTo pos (starEach es X.env)).any (·.1) = false := by rfl) :
    RSt X (.Raise (some (.Call (.Name x p) (e :: es) [] pos)) none rpos) (sRaiseX x fs cs) := rs_raise (M.cl _ (List.mem_of_getElem? hj)) hc hr hg ha hdb he hpl
theorem f_try_as {ks : List Str} (M : XMo X.prog X.w X.K X.mg X.base xs) (hks : xs.map (·.1) = ks) (j : Nat) (hj : xs[j]? = some (c, fs)) (hs : X.stack = X.env :: X.outer) (hf : X.env.frame = some X.env.locals) (hN : X.N.Nodup) (hi : (match X.N[i]? with | some y => decide (y = n) | none => false) = true) (hln : eqK (X.env.kindOf n) .local = true) (hg : X.env.kindOf c = some .globalImplicit) (hdb : (c == ("__debug__" : Str)) = false)
    (hb : ∀ (pn : List (Addr × Obj)) (xe : Value → Shared → Prop), PassesOwn (model X.prog X.w) X.A X.env xe → RSs (X.tr pn xe) body cb)
    (hsu : ∀ (x : Exc) (a dd C : Addr) (oe : Obj) (pn : List (Addr × Obj)), X.mg c = some (.ref C) → Zc (.ref C) (some dd) oe → (∃ vs, oe.data = .fields vs) → RSsP (X.suite a ((a, oe) :: pn)) (hasX X.K i a dd x.fs) (b₀ :: suite) (s x)) :
    RSt X (.Try body [.ExceptHandler (some (.Name c np)) (some n) (b₀ :: suite) pos'] [] [] pos) (sTry1 ks c (some i) cb s) := by
  subst hks; exact rs_try_as M hs hf hN (ix_of hi) (eqK_ok hln) (List.mem_of_getElem? hj) hg hdb hb hsu
theorem f_try_only {ks : List Str} (M : XMo X.prog X.w X.K X.mg X.base xs) (hks : xs.map (·.1) = ks) (j : Nat) (hj : xs[j]? = some (c, fs)) (hs : X.stack = X.env :: X.outer) (hf : X.env.frame = some X.env.locals) (hg : X.env.kindOf c = some .globalImplicit) (hdb : (c == ("__debug__" : Str)) = false)
    (hb : ∀ (pn : List (Addr × Obj)) (xe : Value → Shared → Prop), PassesOwn (model X.prog X.w) X.A X.env xe → RSs (X.tr pn xe) body cb)
    (hsu : ∀ (x : Exc) (a dd C : Addr) (oe : Obj) (pn : List (Addr × Obj)), X.mg c = some (.ref C) → Zc (.ref C) (some dd) oe → (∃ vs, oe.data = .fields vs) → RSs (X.suite a ((a, oe) :: pn)) (b₀ :: suite) (s x)) :
    RSt X (.Try body [.ExceptHandler (some (.Name c np)) none (b₀ :: suite) pos'] [] [] pos) (sTry1 ks c none cb s) := by
  subst hks; exact rs_try_only M hs hf (List.mem_of_getElem? hj) hg hdb hb hsu
theorem f_xf {x : Exc} {a dd C : Addr} {oe : Obj} {pn : List (Addr × Obj)} (M : XMo X.prog X.w X.K X.mg X.base xs) (j : Nat) (hj : xs[j]? = some (c, fs)) (hC : X.mg c = some (.ref C)) (hf : fs.contains f = true) (hz : Zc (.ref C) (some dd) oe) (ho : ∃ vs, oe.data = .fields vs) (hv : varB X.N X.env.scope i n = true)
    (hb : attributeBase (.Name n p) f X.env (eval (.Name n p) X.env) = eval (.Name n p) X.env := by rfl) :
    REP (X.suite a ((a, oe) :: pn)) (hasX X.K i a dd x.fs) (.Attribute (.Name n p) f pos) (eFld x f) := by
  unfold varB at hv
  simp only [Bool.and_eq_true, Bool.or_eq_true, Bool.not_eq_true'] at hv
  obtain ⟨h1, h2, h3, h4⟩ := hv
  refine rep_xf (M.cl _ (List.mem_of_getElem? hj)) hC (by simpa using hf) hz ho (ix_of h1) ?_ (by simp [nmOk, h3, h4]) hb
  rcases h2 with h2 | h2 | h2
  · exact .inl (eqK_ok h2)
  · exact .inr (.inl (eqK_ok h2))
  · exact .inr (.inr (eqK_ok h2))
theorem f_setLc {y : Str} {el tg it : Expr} {py spos : Pos} {g : Tg} {ci : Act (List D)} {scope : Scope} {own : List (Str × Nat)} {ifs : List Expr} {ct : Tx} {cy : Ex} (hc : X.calm = true) (hN : X.N.Nodup) (hl : locB X.N X.env.scope i y = true) (hyl : eqK (X.env.scope.names.lookup y) .local = true) (hi : RI X tg it ci) (ok : BlkOk X.N X.env.scope scope own)
    (hg : ∀ (s : Shared) (H : Hp) (C : Addr) (cl : List (Str × Addr)) (fp : List Addr), RGw (X.blk s H scope (compEnvC scope cl C X.env) fp) (own.map (·.2)) tg g)
    (ht : ∀ (s : Shared) (H : Hp) (C : Addr) (cl : List (Str × Addr)) (fp : List Addr), RTs (X.blk s H scope (compEnvC scope cl C X.env) fp) ifs ct)
    (he : ∀ (s : Shared) (H : Hp) (C : Addr) (cl : List (Str × Addr)) (fp : List Addr), RE (X.blk s H scope (compEnvC scope cl C X.env) fp) el cy)
    (hsw : swapsWith (.ListComp el [⟨tg, it, ifs, 0⟩] scope pos) (some (.Name y py)) spos.line X.env = pure true := by rfl) (hs : ∀ x, foldedSetIterable it X.env x = pure x := by intro _; rfl) :
    RSt X (.Assign [.Name y py] (.ListComp el [⟨tg, it, ifs, 0⟩] scope pos) spos) (sSet i (eLc ci g (own.map (·.2)) ct cy)) := rs_setLc hc hN (locB_ok hl).1 (eqK_ok hyl) hi ok hg ht he hsw hs
end
end Sw

/-! Lam: a lambda without parameters, handed to a def that calls it once within a try. -/
set_option Elab.async false
set_option linter.all false
set_option maxRecDepth 100000
set_option maxHeartbeats 4000000
namespace Sw
open PySem PySem.Spec PyProof.Rows L2
variable [LamT]
/-- a wish that does not look at the names, but at their number -/
def Blind (n : Nat) (W : WX) : Prop := ∀ c d σ σ' H, σ.length = n → W c d σ' H → W c d σ H
section
variable (X : Cx) (n : Nat) (P : SP3)
def REL (e : Expr) (c : Ex) : Prop := ∀ W, Takes X W → Blind n W → PE X e (TrP P X.K X.mg (RD X.K) c W)
def RAL (es : List Expr) (c : Ax) : Prop := ∀ W, Takes X W → Blind n W → PA X es (TrP P X.K X.mg (RDs X.K) c W)
def RStL (s : Stmt) (c : Sx) : Prop := ∀ W, Takes X W → Blind n W → PS X s (TrSP P X.K X.mg c W)
def RSsL (s : List Stmt) (c : Sx) : Prop := ∀ W, Takes X W → Blind n W → PSs X s (TrSP P X.K X.mg c W)
end
section
variable {X : Cx} {n : Nat} {P : SP3} {a b : Expr} {ca cb : Ex} {pos : Pos} {es : List Expr} {cs : Ax} {s1 : Stmt} {ss : List Stmt} {c1 c2 : Sx}
theorem rel_of (h : RE X a ca) : REL X n P a ca := fun W tk _ => (rep_of h) W tk
theorem ral_nil : RAL X n P [] aNil := fun W tk _ => rap_nil W tk
theorem ral_cons (s : Stay X.K X.mg P) (ha : REL X n P a ca) (hr : RAL X n P es cs) (hs : starEach (a :: es) X.env = (false, eval a X.env) :: starEach es X.env := by rfl) : RAL X n P (a :: es) (aCons ca cs) := fun W tk bl =>
  (pa_cons (ha W tk bl) (hr W tk bl) hs).imp fun σ H Q h => (TrP.bind s h).mono fun x H1 h1 => (TrKP.bind s mono_d h1).mono fun xs H2 h2 => by
    obtain ⟨B, φ, e, st, d, r, st', re, rs, r1, hc, fin⟩ := h2.forget
    cases hc
    exact fin.here rs (.cons r1.1 r1.2)
theorem rel_tup (s : Stay X.K X.mg P) {k} (ha : RAL X n P es cs) : REL X n P (.Tuple es k pos) (eTup cs) := fun W tk bl => (pe_tupP (ha W tk bl)).imp fun σ H Q h => (TrP.bind s h).mono fun xs H1 h1 => by
  obtain ⟨B, φ, st, ds, z, rs, rd, hz, fin⟩ := h1.forget.vA
  dsimp only at hz
  split at hz
  · rename_i hl
    cases hz
    exact ⟨by rw [rd.length]; exact hl, finT rs fin rd⟩
  · cases hz
theorem rsl_ret (s : Stay X.K X.mg P) (ha : REL X n P a ca) : RStL X n P (.Return (some a) pos) (sRet ca) := fun W tk bl => (ps_ret (ha W tk bl)).imp fun D σ H h =>
  (TrP.intoS s (c := sRet ca) (f := fun d _ st => some (.rt d, st)) (fun e st => by unfold sRet; cases ca e st with | none => rfl | some p => obtain ⟨q, st1⟩ := p; cases q <;> rfl) h).mono fun v H1 ⟨B, φ, e, st, d, r, st', re, rs, _, r1, hc, fin⟩ => by
    cases hc
    exact fin v _ _ _ (.refl rs) rs r1
theorem rsl_do (s : Stay X.K X.mg P) (ha : REL X n P a ca) (hs : swapsWith a none pos.line X.env = pure false := by rfl) : RStL X n P (.Expr a pos) (sDo ca) := fun W tk bl => (ps_expr (ha W tk bl) hs).imp fun D σ H h =>
  (TrP.intoS s (c := sDo ca) (f := fun _ e st => some (.nx e, st)) (fun e st => by unfold sDo; cases ca e st with | none => rfl | some p => obtain ⟨q, st1⟩ := p; cases q <;> rfl) h).mono fun v H1 ⟨B, φ, e, st, d, r, st', re, rs, _, r1, hc, fin⟩ => by
    cases hc
    exact fin _ _ _ _ (.refl rs) rs re
theorem rsl_cons (h1 : RStL X n P s1 c1) (h2 : RSs X ss c2) : RSsL X n P (s1 :: ss) (sSeq c1 c2) := fun W tk bl => (pss_cons (h1 W tk bl) (h2 W tk)).imp fun D σ H ⟨B, φ, e, st, r, st', re, rs, p, hc, fin⟩ => by
  unfold sSeq at hc
  cases ha : c1 e st with
  | none => rw [ha] at hc; cases hc
  | some p1 =>
    obtain ⟨q, st1⟩ := p1
    rw [ha] at hc
    cases q with
    | nx e1 => exact ⟨B, φ, e, st, _, _, re, rs, p, ha, fun σ' B' φ' H' g rs' re' => ⟨B', φ', e1, st1, r, st', re', rs', hc, fin.go g⟩⟩
    | rt d => cases hc; exact ⟨B, φ, e, st, _, _, re, rs, p, ha, fin⟩
    | bk d => cases hc; exact ⟨B, φ, e, st, _, _, re, rs, p, ha, fin⟩
    | ct d => cases hc; exact ⟨B, φ, e, st, _, _, re, rs, p, ha, fin⟩
    | ex d f => cases hc; exact ⟨B, φ, e, st, _, _, re, rs, p, ha, fin⟩
theorem rsl_of (h : RSt X s1 c1) : RStL X n P s1 c1 := fun W tk _ => (rstp_of h) W tk
theorem rssl_of (h : RSs X ss c1) : RSsL X n P ss c1 := fun W tk _ => (rsp_of h) W tk
theorem rsl_one (h1 : RStL X n P s1 c1) : RSsL X n P [s1] c1 := fun W tk bl => pss_one (h1 W tk bl)
end
/-- what the exception's wish is, whatever the names hold -/
def wAll (n : Nat) (W : WX) : WX := fun c d _ H => ∀ σ : L2.St, σ.length = n → W c d σ H
theorem wAll_blind {n : Nat} {W : WX} : Blind n (wAll n W) := fun _ _ _ _ _ _ h => h
theorem wAll_takes {X : Cx} {n : Nat} {W : WX} (hn : X.N.length = n) (tk : Takes X W) : Takes X (wAll n W) := fun u s' ⟨a, B, sI, pins, σ, H, cls, d, e, I, nb, up, sky, na, os, ag, w⟩ =>
  tk u s' ⟨a, B, sI, pins, σ, H, cls, d, e, I, nb, up, sky, na, os, ag, w σ (I.len.trans hn)⟩
/-! ### the call of the parameter -/
/-- slot 0 holds the lambda, its code object has the name q; and P0 -/
def hasL (f c' : Addr) (q : Str) (P0 : (Addr → Prop) → List Addr → Hp → Prop) : SP3 := fun σ B φ H => (0 < σ.length → σ[0]? = some (some (.ref f))) ∧ H c' = some (LamX.CodeO c' q) ∧ c' ∉ φ ∧ P0 B φ H
def Stay0 (K : Frag) (mg : Str → Option Value) (P0 : (Addr → Prop) → List Addr → Hp → Prop) : Prop := ∀ {B B' : Addr → Prop} {φ φ' : List Addr} {H H' : Hp} {st : Store}, RS K mg B φ H st → Go φ B H φ' B' H' → P0 B φ H → P0 B' φ' H'
theorem hasL_stay {K : Frag} {mg : Str → Option Value} {f c' : Addr} {q : Str} {P0 : (Addr → Prop) → List Addr → Hp → Prop} (h0 : Stay0 K mg P0) : Stay K mg (hasL f c' q P0) := fun {σ B B' φ φ' H H' st} rs g ⟨h1, h2, h3, h4⟩ =>
  ⟨h1, g.keep c' _ h2 h3 (LamX.codeO_ne), (fun hm => (g.inφ c' hm).elim h3 fun z => z ⟨_, h2, LamX.codeO_ne⟩), h0 rs g h4⟩
/-- what a lambda's call does: tl, its reading, clo, what it computes -/
def ActOk (K : Frag) (mg : Str → Option Value) (P0 : (Addr → Prop) → List Addr → Hp → Prop) (clo : Store → Res D) (tl : XK → Hp → VK → Prop) : Prop :=
  ∀ (E : XK) (B : Addr → Prop) (φ : List Addr) (H : Hp) (st st' : Store) (r : Except Exc D) (Q : VK), RS K mg B φ H st → P0 B φ H → clo st = some (r, st') → Fin K mg B φ H (RD K) st' Q E r → tl E H Q
theorem rel_act {X : Cx} {n : Nat} {f c' : Addr} {q a : Str} {p1 p2 : Pos} {P0 : (Addr → Prop) → List Addr → Hp → Prop} {clo : Store → Res D} {tl : XK → Hp → VK → Prop} (h0 : 0 < n) (hn : X.N.length = n) (A : ActOk X.K X.mg P0 clo tl)
    (act : ∀ (W : WX) (E : XK), Takes X W → (∀ cls d σ' H', E cls d H' → W cls d σ' H') → PE X (.Call (.Name a p1) [] [] p2) (fun σZ HZ Q => σZ[0]? = some (some (.ref f)) ∧ HZ c' = some (LamX.CodeO c' q) ∧ tl E HZ Q)) :
    REL X n (hasL f c' q P0) (.Call (.Name a p1) [] [] p2) (fun _ st => clo st) := fun W tk bl => by
  refine ⟨fun pins s σ H Q I h => ?_⟩
  obtain ⟨B, φ, e, st, r, st', re, rs, ⟨h1, h2, _, h4⟩, hc, fin⟩ := h
  have hl : σ.length = n := I.len.trans hn
  refine (act (wAll n W) (fun c d H => ∀ σ : L2.St, σ.length = n → W c d σ H) (wAll_takes hn tk) (fun _ _ _ _ h => h)).run pins s σ H Q I ⟨h1 (by omega), h2, ?_⟩
  refine A _ B φ H st st' r Q rs h4 hc ?_
  cases r with
  | ok d => exact fin
  | error x => exact fun cls dx B' φ' H' g rs' rx σ2 hl2 => bl cls dx σ2 σ H' hl2 (fin cls dx B' φ' H' g rs' rx)
/-! ### x(lambda: ..) -/
/-- the def b of n names: what it makes of a lambda's reading -/
def TLam (K : Frag) (mg : Str → Option Value) (n : Nat) (b : Ex → Sx) : (XK → Hp → VK → Prop) → Hp → VK → Prop := fun tl H Q =>
  ∃ (P0 : (Addr → Prop) → List Addr → Hp → Prop) (clo : Store → Res D) (B : Addr → Prop) (φ : List Addr) (st st' : Store) (d : D), Stay0 K mg P0 ∧ ActOk K mg P0 clo tl ∧ RS K mg B φ H st ∧ P0 B φ H ∧
    ((∃ e', b (fun _ st => clo st) (List.replicate n none) st = some (.nx e', st') ∧ d = .non) ∨ b (fun _ st => clo st) (List.replicate n none) st = some (.rt d, st')) ∧ Fin K mg B φ H (RD K) st' Q (fun _ _ _ => False) (.ok d)
section
variable {X : Cx} {xs : List (Str × List Str)} {fs : List Str} {c y : Str} {i n : Nat} {P : SP3} {body suite : List Stmt} {b₀ : Stmt} {np pos pos' : Pos} {cb : Sx} {s : Exc → Sx}
theorem rsl_try (M : XMo X.prog X.w X.K X.mg X.base xs) (hs : X.stack = X.env :: X.outer) (hf : X.env.frame = some X.env.locals) (hN : X.N.Nodup) (hn : X.N.length = n) (hi : X.N[i]? = some y) (hln : X.env.kindOf y = some .local) (hm : (c, fs) ∈ xs) (hg : Gl X c) (hdb : (c == ("__debug__" : Str)) = false)
    (hb : ∀ (pn : List (Addr × Obj)) (xe : Value → Shared → Prop), PassesOwn (model X.prog X.w) X.A X.env xe → RSsL (X.tr pn xe) n P body cb)
    (hsu : ∀ (x : Exc) (a dd C : Addr) (oe : Obj) (pn : List (Addr × Obj)), X.mg c = some (.ref C) → Zc (.ref C) (some dd) oe → (∃ vs, oe.data = .fields vs) → RSsP (X.suite a ((a, oe) :: pn)) (hasX X.K i a dd x.fs) (b₀ :: suite) (s x)) :
    RStL X n P (.Try body [.ExceptHandler (some (.Name c np)) (some y) (b₀ :: suite) pos'] [] [] pos) (sTryL n (xs.map (·.1)) c cb s) := fun W tk bl => by
  obtain ⟨C, C2, hC, hC2, _⟩ := M.ex _ hm _ hm
  have hnames : Names X c (.ref C) := ⟨hg, hdb, .inl hC⟩
  refine (ps_try_as (i := i) (tb := fun W => TrSP P X.K X.mg cb (wAll n W)) (ts := fun a cls d D σ H => ∃ (x : Exc) (dd : Addr), cls = .ref C ∧ d = some dd ∧ TrSP (hasX X.K i a dd x.fs) X.K X.mg (s x) (fun _ _ _ _ => False) D σ H) hs hf hN hi hln hnames tk (fun W' pn xe tk' pw => hb pn xe pw (wAll n W') (wAll_takes hn tk') wAll_blind) (fun a oe cls d pn hz ho => ?_)).imp fun D σ H h => ?_
  · refine ⟨fun pins s0 σ H D I h => ?_⟩
    obtain ⟨x, dd, rfl, rfl, h⟩ := h
    exact (hsu x a dd C oe pn hC hz ho _ takes_none5).run pins s0 σ H D I h
  · obtain ⟨B, φ, e, st, r, st', re, rs, hP, hc, fin⟩ := h
    unfold sTryL at hc
    cases hcb : cb e st with
    | none => rw [hcb] at hc; cases hc
    | some pr =>
      obtain ⟨q, st1⟩ := pr
      rw [hcb] at hc
      refine ⟨B, φ, e, st, q, st1, re, rs, hP, hcb, ?_⟩
      cases q with
      | nx e1 => cases hc; exact fin
      | rt d1 => cases hc; exact fin
      | bk e1 => cases hc; exact fin
      | ct e1 => cases hc; exact fin
      | ex x e1 =>
        dsimp only at hc
        split at hc
        · rename_i hk
          obtain ⟨hk1, hxc, hne⟩ := hk
          intro cls dx σ1 B1 φ1 H1 g1 rs1 re1 rx σ2 hl2
          obtain ⟨C1, C3, q1, q3, q2⟩ := M.ex _ hm _ hm
          obtain ⟨Cx, r1, rfl, r2⟩ := id rx
          have : Cx = C1 := by rw [hxc, q1] at r1; cases r1; rfl
          subst this
          have : C3 = C := by rw [hC] at q3; cases q3; rfl
          subst this
          have hCC : Cx = C3 := by rw [hxc, hC] at r1; cases r1; rfl
          subst hCC
          refine ⟨_, q2, fun hb a ha => ?_, fun hb => absurd (hb.symm.trans (decide_eq_true rfl)) (by simp)⟩
          obtain ⟨dd, vs, rfl, hdd, hfs⟩ := r2.resolve_left fun z => hne z.1
          have hnd : dd ∉ φ1 := fun hm => by
            obtain ⟨o, e, m⟩ := rs1.mut hm
            rw [hdd] at e
            cases e
            exact m
          refine ⟨x, dd, rfl, rfl, ?_⟩
          cases hsx : s x (List.replicate n none) st1 with
          | none => rw [hsx] at hc; cases hc
          | some pr2 =>
            obtain ⟨q2, st2⟩ := pr2
            rw [hsx] at hc
            refine ⟨B1, φ1, List.replicate n none, st1, q2, st2, ⟨by simp [hl2], fun j d hj => ?_⟩, rs1, ⟨fun hl => List.getElem?_set_self (by simpa using hl), hnd, vs, hdd, hfs⟩, hsx, ?_⟩
            · rw [List.getElem?_replicate] at hj
              split at hj <;> cases hj
            · cases q2 with
              | rt d2 => cases hc; exact fun v2 B2 φ2 H2 g2 rs2 rd2 => fin _ _ _ _ (g1.trans g2) rs2 rd2
              | _ => cases hc
        · cases hc
end
/-! ### defs that call what they get -/
/-- the def x, of one parameter, that it calls: b, what it does by what the call does; n: its names -/
structure CalleeL (P : Program) (w : World) (K : Frag) (mg : Str → Option Value) (base : Heap) (x : Str) (b : Ex → Sx) (n : Nat) : Prop where
  ex : ∃ (g : Addr) (oc : Value) (od : Option Addr) (osl : Array (Option Value)) (pg : Arguments) (bg : List Stmt) (sg : Scope) (dV kV doc pm cdv ct : Value) (an : Option Addr) (a : Str) (Ng : List Str),
    mg x = some (.ref g) ∧ PySem.W.keepIn K (.ref g) = true ∧ K.lookup g = some ⟨oc, od, .func (PySem.W.fnOf x x pg bg sg dV kV doc pm an cdv ct), osl⟩ ∧ PySem.W.codeIn K cdv x = true ∧
    L2.Binds K (PySem.W.fnOf x x pg bg sg dV kV doc pm an cdv ct) [a] [] ∧ FnScope Ng [a] sg ∧ Ng[0]? = some a ∧ Vis sg a ∧ nmOk a = true ∧
    ∀ (X : Cx) (q : Str), X.prog = P → X.w = w → X.K = K → X.mg = mg → X.base = base → LamX.GivesTo X Ng x sg g cdv bg a q (TLam K mg n b)
theorem gives_of {P : Program} {w : World} {K : Frag} {mg : Str → Option Value} {base : Heap} {x a q : Str} {bg : List Stmt} {sg : Scope} {g : Addr} {cdv : Value} {Ng : List Str} {b : Ex → Sx} (hN : 0 < Ng.length)
    (hd : ∀ (A : Around) (outer : List PySem.Env) (s : Shared) (H : Hp) (f c' : Addr) (P0 : (Addr → Prop) → List Addr → Hp → Prop) (act : Ex), Stay0 K mg P0 →
      (∀ (pn : List (Addr × Obj)) (xe : Value → Shared → Prop) (p1 p2 : Pos), REL ((cxOf C8.CX0 P w K mg base Ng x sg g cdv A outer s H C8.E0).tr pn xe) Ng.length (hasL f c' q P0) (.Call (.Name a p1) [] [] p2) act) →
      RSsL (cxOf C8.CX0 P w K mg base Ng x sg g cdv A outer s H C8.E0).nox Ng.length (hasL f c' q P0) bg (b act))
    (X : Cx) (e1 : X.prog = P) (e2 : X.w = w) (e3 : X.K = K) (e4 : X.mg = mg) (e5 : X.base = base) : LamX.GivesTo X Ng x sg g cdv bg a q (TLam K mg Ng.length b) := by
  subst e1 e2 e3 e4 e5
  intro f c' s H Q tl act hco ⟨P0, clo, B, φ, st, st', d, h0, hA, rs, hP, hb, fin⟩
  have hact := hd X.A X.stack s H f c' P0 (fun _ st => clo st) h0 fun pn xe p1 p2 => rel_act hN rfl hA fun W E tk hW => act W pn xe E p1 p2 tk hW
  have hc' : c' ∉ φ := fun hm => by
    obtain ⟨o, e, m⟩ := rs.mut hm
    rw [hco] at e; cases e; exact m
  have ev : ∀ (r : SR), b (fun _ st => clo st) (List.replicate Ng.length none) st = some (r, st') → FinS X.K X.mg B φ H st' { nx := fun _ H' => Q .non H', rt := Q } (fun _ _ _ _ => False) r →
      TrSP (hasL f c' q P0) X.K X.mg (b fun _ st => clo st) (fun _ _ _ _ => False) { nx := fun _ H' => Q .non H', rt := Q } (L2.start Ng [.ref f]) H := fun r hr fr => by
    refine ⟨B, φ, List.replicate Ng.length none, st, r, st', ⟨by simp [L2.start]; omega, fun j d hj => ?_⟩, rs, ⟨fun _ => ?_, hco, hc', hP⟩, hr, fr⟩
    · rw [List.getElem?_replicate] at hj
      split at hj <;> cases hj
    · rfl
  refine ⟨_, hact _ LamX.takes0 (fun _ _ _ _ _ _ z => z), ?_⟩
  rcases hb with ⟨e', hb, rfl⟩ | hb
  · exact ev _ hb fun σ' B' φ' H' g rs' re' => fin .non B' φ' H' g rs' .non
  · exact ev _ hb fun v B' φ' H' g rs' rd => fin v B' φ' H' g rs' rd
/-- the maker's table: its code object, its table, the lambdas' name -/
structure MkL (X : Cx) : Prop where
  ex : ∃ (c P : Addr), LamX.TabB X.base X.mg c P ∧ X.env.code = .ref c ∧ (P, X.env.qual ++ "<lambda>") ∈ LamT.T ∧ ∀ p ∈ LamT.T, p.1 = P → p.2 = X.env.qual ++ "<lambda>"
theorem RS.extN {X : Cx} {B : Addr → Prop} {φ : List Addr} {H H1 : Hp} {st : Store} (rs : RS X.K X.mg B φ H st) (e : LamX.ExtN H H1) (t : LamX.Tabs LamT.T H1) : RS X.K X.mg B φ H1 st ∧ Go φ B H φ B H1 := by
  have g : Go φ B H φ B H1 := ⟨rs.sub, fun a o h _ nt => e a o h nt, List.prefix_refl _, fun _ h => h, fun _ h => .inl h, fun _ h => .inl h, fun a o u h => e a _ h (fun _ z => by cases z)⟩
  refine ⟨⟨rs.len, rs.nd, rs.sub, fun a ha => let ⟨o, h, nt⟩ := rs.sd a ha; ⟨o, e a o h nt, nt⟩, fun n c h => ?_, t⟩, g⟩
  obtain ⟨a, e1, rc⟩ := rs.at_ n c h
  obtain ⟨o, ho, mo⟩ := rc.mut
  exact ⟨a, e1, rc.on (RD.go rs g) (RDs.go rs g) ((e a o ho mo.nt).trans ho.symm)⟩
section
variable {X : Cx}
theorem re_lam {x : Str} {b : Ex → Sx} {n k : Nat} {params : Arguments} {body : Expr} {scope : Scope} {cb : Ex} {p lpos pos : Pos} (C : CalleeL X.prog X.w X.K X.mg X.base x b n) (M : MkL X) (hg : Gl X x) (hr : Room (k + 2) X.A) (L : LamX.LamS X.env.scope scope) (hdef : defaultsOf params X.env = ([], []))
    (hbind : ∀ (q : Str) (cl : List (Str × Addr)) (pm cv ctv : Value), bindArgs (PySem.W.kla_fn "<lambda>" q params body scope cl pm cv ctv) ⟨[], []⟩ = pure [])
    (hbody : ∀ (A : Around) (outer : List PySem.Env) (s : Shared) (H : Hp) (E : XK) (f c' : Addr), Room k (A.deeper (LamX.lamEnv X scope s.heap.objs.size f c')) → RE (LamX.lamCx X A outer s H E scope f c') body cb)
    (hdb : (x == ("__debug__" : Str)) = false := by decide) :
    RE X (.Call (.Name x p) [.Lambda params body scope lpos] [] pos) (eLam n b cb) := fun W tk => by
  obtain ⟨g, oc, od, osl, pg, bg, sg, dV, kV, doc, pm, cdv, ct, an, a, Ng, hm, hk, lk, hcg, hb, Sg, hNg, hva, hna, hG⟩ := C.ex
  obtain ⟨c, P, TB, hcode, hmT, hu⟩ := M.ex
  simp only [nmOk, Bool.and_eq_true, Bool.not_eq_true'] at hna
  refine (LamX.pe_lamcall (t := fun E => Tr X.K X.mg (RD X.K) cb fun cls d _ H' => E cls d H') hg hm hk lk hcg hb Sg hNg hva (hG X _ rfl rfl rfl rfl rfl) TB hcode hmT hu hr L hdef hbind (fun A outer s H E f c' hr' => hbody A outer s H E f c' hr' _ (takes_of rfl rfl rfl rfl)) hdb hna.1 hna.2).imp fun σ H Q h => ?_
  obtain ⟨B, φ, e, st, r, st', re, rs, hc, fin⟩ := h
  refine ⟨rs.tabs, fun H1 eN T1 => ?_⟩
  obtain ⟨rs1, g1⟩ := rs.extN (X := X) eN T1
  unfold eLam at hc
  have hd : ∃ d, r = .ok d ∧ ((∃ e', b (fun _ st => cb e st) (List.replicate n none) st = some (.nx e', st') ∧ d = .non) ∨ b (fun _ st => cb e st) (List.replicate n none) st = some (.rt d, st')) := by
    cases hbs : b (fun _ st' => cb e st') (List.replicate n none) st with
    | none => rw [hbs] at hc; cases hc
    | some pr =>
      obtain ⟨q, st2⟩ := pr
      rw [hbs] at hc
      cases q with
      | nx e1 => cases hc; exact ⟨_, rfl, .inl ⟨e1, rfl, rfl⟩⟩
      | rt d => cases hc; exact ⟨_, rfl, .inr rfl⟩
      | _ => cases hc
  obtain ⟨d, rfl, hd⟩ := hd
  exact ⟨fun B φ H => REnv X.K B φ H σ e, fun st => cb e st, B, φ, st, st', d, fun rs g h => REnv.go rs g h, fun E B φ H st st' r Q rs hE hc fin => ⟨B, φ, e, st, r, st', hE, rs, hc, fin⟩, rs1, REnv.go rs g1 re, hd, fun v B' φ' H' g rs' rd => fin v B' φ' H' (g1.trans g) rs' rd⟩
end
end Sw

/-! LamEnd: a law's end, where tables of code objects are followed. -/
set_option Elab.async false
set_option linter.all false
set_option maxRecDepth 100000
set_option maxHeartbeats 400000
namespace Sw
open PySem PySem.Spec PyProof.Rows L2
/-- what the head's heap tells of tables -/
def TabF (q : Program) (h : Heap) : Prop := ∀ (K : Frag) (x : Str) (d : DefRec) (c P : Addr), K.In h → (recsOf q).find? (fun e => e.name == x) = some d → PySem.W.tabIn K x = some (c, P) → PySem.W.CodeHd h c P ∧ h.get? P = some { cls := .none, data := .fields #[] }
theorem walk_ofT {l : PySem.W.OpenLaw} {n k : Nat} {q : Program} {loose : List Str} {XP : (Str → Option Value) → Heap → Prop} {YP : World → Heap → Prop} {d : DefRec} {x : Str} {F : Fn}
    (hn : l.most = some n) (hn2 : n ≤ sizeLine) (hdf : d.params.defaults = []) (hr : Room k callerA) (hF : ∀ ns : List Int, ns.length ≤ n → ∃ st, F [.scr ns] [] = some (.ok (.bl true), st))
    (W : ∀ (w : World) (mg : Str → Option Value) (fa : Addr) (h : Heap), YP w h → h.Ns mainGlobals mg → mg d.name = some (.ref fa) → TabF q h →
      ∃ (K : Frag) (fd : FuncData) (cs : List (Addr × Addr)) (T : LamT), K.In h ∧ (∀ (s : Shared) (u : Value), BindsTo s fd ⟨[u], []⟩ [(x, u)]) ∧ (∀ p ∈ cs, h.get? p.2 = some { cls := .none, data := .fields #[] }) ∧ (∀ p ∈ cs, K.lookup p.2 = none) ∧ (∀ p ∈ cs, PySem.W.CodeHd h p.1 p.2) ∧ (∀ p ∈ T.T, ∃ c ∈ cs, c.2 = p.1) ∧
        ∀ base : Heap, K.In base → base.Ns mainGlobals mg → (∀ p ∈ cs, LamX.TabB base mg p.1 p.2) → FnOk l.prog w K mg base (L2.CX l.prog w) k fa fd [x] (@spF T K mg F 1)) :
    PySem.W.WalkO q loose XP YP l.row.toRowW d [] (fun f vs => PySem.call f vs) := by
  refine Att.attach_callB hn hdf fun w s₀ s₁ mg mb fa o pm cd doc a vs ns G Y ho hd hcd hmg hobj hints hlen hbits hg => ?_
  obtain ⟨K, fd, cs, T, KX, hb, hT, nT, C, hTc, hFn⟩ := W w mg fa _ Y G.T.g hmg fun K x d c P X hr ht => PySem.W.tab_of G.T X hr ht
  refine LamX.law_callTs KX G.T.g G.T.b G.T.builtins G.T.nolimit hg hT nT C G.T.bmain hobj hints (Nat.le_trans hlen hn2) hr hFn hb (fun H hH hS => ?_) fun H e s' h => ?_
  · obtain ⟨st, hst⟩ := hF ns hlen
    have sc : ScrAt K (fun _ => False) H a ns := hS.imp (fun e => ⟨e, id⟩) id
    refine ⟨fun _ => False, [], [.scr ns], [], _, st, rfl, .cons (.scr sc) .nil, ⟨rfl, .nil, fun a h => by simp at h, fun a h => h.elim, fun n c h => by simp at h, fun p hp => ?_⟩, hst, fun v B' φ' H' g rs r => by cases r; rfl⟩
    obtain ⟨c, hc, e⟩ := hTc p hp
    exact LamX.TabS.nil (by rw [← e]; exact hH c hc)
  · obtain ⟨_, _, _, _, _, _, _, _, _, _, _, _, z⟩ := h
    exact z
section
variable [LamT]
/-- its code object is that of its table -/
theorem code_of {K : Frag} {mg : Str → Option Value} {h : Heap} {x : Str} {c P f : Addr} {oc : Value} {od : Option Addr} {fd : FuncData} {osl : Array (Option Value)} (X : K.In h) (G : h.Ns mainGlobals mg) (hm : mg x = some (.ref f)) (lk : K.lookup f = some ⟨oc, od, .func fd, osl⟩) (ht : PySem.W.tabIn K x = some (c, P)) : fd.code = .ref c := by
  unfold PySem.W.tabIn at ht
  split at ht
  · rename_i f' hf
    have e1 := PySem.W.mg_of X G hf
    rw [hm] at e1
    cases e1
    rw [lk] at ht
    dsimp only at ht
    split at ht
    · rename_i c' hc
      split at ht
      · split at ht
        · cases ht; exact hc
        · cases ht
      · cases ht
    · cases ht
  · cases ht
theorem fnok_ofL {P : Program} {w : World} {K : Frag} {mg : Str → Option Value} {base h : Heap} {x qual : Str} {params : Arguments} {body : List Stmt} {scope : Scope} {f c T : Addr} {fd : FuncData} {N ps : List Str} {k : Nat} {cb : Sx} (F : FunD K x qual params body scope [] [] f fd) (hm : mg x = some (.ref f)) (KX : K.In h) (G : h.Ns mainGlobals mg) (ht : PySem.W.tabIn K x = some (c, T)) (S : scB N ps scope = true)
    (TB : LamX.TabB base mg c T) (hmT : (T, qual ++ ".<locals>." ++ "<lambda>") ∈ LamT.T) (hu : ∀ p ∈ LamT.T, p.1 = T → p.2 = qual ++ ".<locals>." ++ "<lambda>")
    (hb : ∀ (cdv : Value) (A : Around) (outer : List PySem.Env) (s : Shared) (H : Hp) (E : XK), N.Nodup → Room k (A.deeper (envOfC qual scope s.heap.objs.size f cdv)) → MkL (cxOf (L2.CX P w) P w K mg base N qual scope f cdv A outer s H E) → RSs (cxOf (L2.CX P w) P w K mg base N qual scope f cdv A outer s H E) body cb) :
    FnOk P w K mg base (L2.CX P w) (k + 1) f fd ps (spF K mg (fn ps.length N.length cb) ps.length) := by
  have hn := (scB_ok S).2
  obtain ⟨oc, od, dV, kV, doc, pm, an, cdv, ct, osl, rfl, lk, hcd, _, _⟩ := F.ex
  have hc : cdv = .ref c := code_of KX G hm lk ht
  refine L2.fn_of lk hcd (scB_ok S).1 (fun vs H Q E h => ?_) (fun A outer s H vs Q E hr h => ?_)
  · obtain ⟨_, _, _, _, _, _, h, _⟩ := h
    exact h
  · obtain ⟨B, φ, ds, st0, r, st', hl, rd, rs, hF, fin⟩ := h
    have hM : MkL (cxOf (L2.CX P w) P w K mg base N qual scope f cdv A outer s H E) := by
      have eq : (cxOf (L2.CX P w) P w K mg base N qual scope f cdv A outer s H E).env.qual = qual ++ ".<locals>." := rfl
      refine ⟨c, T, TB, ?_, ?_, ?_⟩
      · subst hc
        rfl
      · rw [eq]
        exact hmT
      · rw [eq]
        exact hu
    have hB := hb cdv A outer s H E (scB_ok S).1.nd hr hM
    refine ⟨_, hB _ (takes_of rfl rfl rfl rfl), ?_⟩
    unfold fn at hF
    have hds : ds.length = ps.length := rd.length.symm.trans hl
    rw [if_pos hds] at hF
    refine ⟨B, φ, startE N.length ds, st0, ?_⟩
    cases hc : cb (startE N.length ds) st0 with
    | none => rw [hc] at hF; cases hF
    | some p =>
      obtain ⟨q, st1⟩ := p
      rw [hc] at hF
      refine ⟨q, st1, REnv.start rd (by omega), rs, rfl, ?_⟩
      cases q with
      | nx e1 =>
        have cf := clean_fin rs hF fin
        exact fun σ' B' φ' H' g rs' re' => cf .non B' φ' H' g rs' .non
      | rt d => exact clean_fin rs hF fin
      | bk _ => cases hF
      | ct _ => cases hF
      | ex x1 e1 =>
        have cf := clean_fin rs hF fin
        exact fun cls dx σ' B' φ' H' g rs' re' rx => cf cls dx B' φ' H' g rs' rx
theorem callee_ofL {P : Program} {w : World} {K : Frag} {mg : Str → Option Value} {base h : Heap} {x qual : Str} {params : Arguments} {body : List Stmt} {scope : Scope} {f c T : Addr} {fd : FuncData} {N ps : List Str} {k : Nat} {cb : Sx} (F : FunD K x qual params body scope [] [] f fd) (hm : mg x = some (.ref f)) (KX : K.In h) (G : h.Ns mainGlobals mg) (ht : PySem.W.tabIn K x = some (c, T)) (S : scB N ps scope = true)
    (hbd : ∀ (kV doc pm : Value) (an : Option Addr) (cdv ct : Value) (us : List Value), us.length = ps.length → bindArgs (PySem.W.fnOf x qual params body scope .none kV doc pm an cdv ct) ⟨us, []⟩ = pure (ps.zip us))
    (TB : LamX.TabB base mg c T) (hmT : (T, qual ++ ".<locals>." ++ "<lambda>") ∈ LamT.T) (hu : ∀ p ∈ LamT.T, p.1 = T → p.2 = qual ++ ".<locals>." ++ "<lambda>")
    (hb : ∀ (cdv : Value) (A : Around) (outer : List PySem.Env) (s : Shared) (H : Hp) (E : XK), N.Nodup → Room k (A.deeper (envOfC qual scope s.heap.objs.size f cdv)) → MkL (cxOf (L2.CX P w) P w K mg base N qual scope f cdv A outer s H E) → RSs (cxOf (L2.CX P w) P w K mg base N qual scope f cdv A outer s H E) body cb) :
    Callee P w K mg base x (fn ps.length N.length cb) ps.length (k + 1) :=
  ⟨⟨f, fd, ps, fnok_ofL F hm KX G ht S TB hmT hu hb, hm, F.kp, F.bindsN hbd⟩, fn_takes⟩
end
end Sw

/-! Lam2: lambdas as a printing program wants them: the defs that call their parameter, the makers' tables, the head. -/
set_option Elab.async false
set_option linter.all false
set_option maxRecDepth 100000
set_option maxHeartbeats 4000000
namespace Sw
open PySem PySem.Spec PyProof.Rows L2
section
variable [LamT]
/-- a def of one parameter, that it calls -/
theorem calleeL_of {P : Program} {w : World} {K : Frag} {mg : Str → Option Value} {base : Heap} {x a : Str} {params : Arguments} {body : List Stmt} {scope : Scope} {f : Addr} {fd : FuncData} {N : List Str} {b : Ex → Sx} (F : FunD K x x params body scope [] [] f fd) (hm : mg x = some (.ref f)) (S : scB N [a] scope = true) (hna : nmOk a = true)
    (hbd : ∀ (kV doc pm : Value) (an : Option Addr) (cdv ct : Value) (us : List Value), us.length = [a].length → bindArgs (PySem.W.fnOf x x params body scope .none kV doc pm an cdv ct) ⟨us, []⟩ = pure ([a].zip us))
    (hd : ∀ (cdv : Value) (q : Str) (A : Around) (outer : List PySem.Env) (s : Shared) (H : Hp) (f' c' : Addr) (P0 : (Addr → Prop) → List Addr → Hp → Prop) (act : Ex), N.Nodup → Stay0 K mg P0 →
      (∀ (pn : List (Addr × Obj)) (xe : Value → Shared → Prop) (p1 p2 : Pos), REL ((cxOf C8.CX0 P w K mg base N x scope f cdv A outer s H C8.E0).tr pn xe) N.length (hasL f' c' q P0) (.Call (.Name a p1) [] [] p2) act) →
      RSsL (cxOf C8.CX0 P w K mg base N x scope f cdv A outer s H C8.E0).nox N.length (hasL f' c' q P0) body (b act)) :
    CalleeL P w K mg base x b N.length := by
  obtain ⟨S1, hl⟩ := scB_ok S
  have hbN := F.bindsN hbd
  have hkp := F.kp
  obtain ⟨oc, od, dV, kV, doc, pm, an, cdv, ct, osl, rfl, lk, hcd, _, _⟩ := F.ex
  have hlen : 1 ≤ N.length := hl
  have h0 : N[0]? = some a := by
    have := S1.pre
    cases hN : N with
    | nil => rw [hN] at hlen; simp at hlen
    | cons y t => rw [hN] at this; simp at this; rw [this]; rfl
  have hv : Vis scope a := (S1.par a (by simp)).imp id fun z => .inl z
  exact ⟨⟨f, oc, od, osl, params, body, scope, dV, kV, doc, pm, cdv, ct, an, a, N, hm, hkp, lk, hcd, hbN, S1, h0, hv, hna, fun X q e1 e2 e3 e4 e5 => gives_of (by omega) (fun A outer s H f' c' P0 act h0' ha => hd cdv q A outer s H f' c' P0 act S1.nd h0' ha) X e1 e2 e3 e4 e5⟩⟩
theorem f_tryL {X : Cx} {xs : List (Str × List Str)} {fs : List Str} {c y : Str} {i n : Nat} {P : SP3} {body suite : List Stmt} {b₀ : Stmt} {np pos pos' : Pos} {cb : Sx} {s : Exc → Sx} {ks : List Str} (M : XMo X.prog X.w X.K X.mg X.base xs) (hks : xs.map (·.1) = ks) (j : Nat) (hj : xs[j]? = some (c, fs)) (hs : X.stack = X.env :: X.outer) (hf : X.env.frame = some X.env.locals) (hN : X.N.Nodup) (hn : X.N.length = n) (hi : (match X.N[i]? with | some z => decide (z = y) | none => false) = true) (hln : eqK (X.env.kindOf y) .local = true) (hg : X.env.kindOf c = some .globalImplicit) (hdb : (c == ("__debug__" : Str)) = false)
    (hb : ∀ (pn : List (Addr × Obj)) (xe : Value → Shared → Prop), PassesOwn (model X.prog X.w) X.A X.env xe → RSsL (X.tr pn xe) n P body cb)
    (hsu : ∀ (x : Exc) (a dd C : Addr) (oe : Obj) (pn : List (Addr × Obj)), X.mg c = some (.ref C) → Zc (.ref C) (some dd) oe → (∃ vs, oe.data = .fields vs) → RSsP (X.suite a ((a, oe) :: pn)) (hasX X.K i a dd x.fs) (b₀ :: suite) (s x)) :
    RStL X n P (.Try body [.ExceptHandler (some (.Name c np)) (some y) (b₀ :: suite) pos'] [] [] pos) (sTryL n ks c cb s) := by
  subst hks; exact rsl_try M hs hf hN hn (ix_of hi) (eqK_ok hln) (List.mem_of_getElem? hj) hg hdb hb hsu
/-- what is known of the table of a def that makes lambdas -/
structure TabM (K : Frag) (mg : Str → Option Value) (base : Heap) (x q : Str) : Prop where
  ex : ∃ c T, PySem.W.tabIn K x = some (c, T) ∧ LamX.TabB base mg c T ∧ (T, q) ∈ LamT.T ∧ ∀ p ∈ LamT.T, p.1 = T → p.2 = q
theorem callee_ofT {P : Program} {w : World} {K : Frag} {mg : Str → Option Value} {base : Heap} {x qual : Str} {params : Arguments} {body : List Stmt} {scope : Scope} {f : Addr} {fd : FuncData} {N ps : List Str} {k : Nat} {c : Sx} (F : FunD K x qual params body scope [] [] f fd) (hm : mg x = some (.ref f)) (KX : K.In base) (G : base.Ns mainGlobals mg) (TM : TabM K mg base x (qual ++ ".<locals>." ++ "<lambda>")) (S : scB N ps scope = true)
    (hbd : ∀ (kV doc pm : Value) (an : Option Addr) (cdv ct : Value) (us : List Value), us.length = ps.length → bindArgs (PySem.W.fnOf x qual params body scope .none kV doc pm an cdv ct) ⟨us, []⟩ = pure (ps.zip us))
    (hb : ∀ (cdv : Value) (A : Around) (outer : List PySem.Env) (s : Shared) (H : Hp) (E : XK), N.Nodup → Room k (A.deeper (envOfC qual scope s.heap.objs.size f cdv)) → MkL (cxOf (L2.CX P w) P w K mg base N qual scope f cdv A outer s H E) → RSs (cxOf (L2.CX P w) P w K mg base N qual scope f cdv A outer s H E) body c) :
    Callee P w K mg base x (fn ps.length N.length c) ps.length (k + 1) := by
  obtain ⟨_, T, h1, h2, h3, h4⟩ := TM.ex
  exact callee_ofL F hm KX G h1 S hbd h2 h3 h4 hb
theorem fnok_ofT {P : Program} {w : World} {K : Frag} {mg : Str → Option Value} {base : Heap} {x qual : Str} {params : Arguments} {body : List Stmt} {scope : Scope} {f : Addr} {fd : FuncData} {N ps : List Str} {k : Nat} {c : Sx} (F : FunD K x qual params body scope [] [] f fd) (hm : mg x = some (.ref f)) (KX : K.In base) (G : base.Ns mainGlobals mg) (TM : TabM K mg base x (qual ++ ".<locals>." ++ "<lambda>")) (S : scB N ps scope = true)
    (hb : ∀ (cdv : Value) (A : Around) (outer : List PySem.Env) (s : Shared) (H : Hp) (E : XK), N.Nodup → Room k (A.deeper (envOfC qual scope s.heap.objs.size f cdv)) → MkL (cxOf (L2.CX P w) P w K mg base N qual scope f cdv A outer s H E) → RSs (cxOf (L2.CX P w) P w K mg base N qual scope f cdv A outer s H E) body c) :
    FnOk P w K mg base (L2.CX P w) (k + 1) f fd ps (spF K mg (fn ps.length N.length c) ps.length) := by
  obtain ⟨_, T, h1, h2, h3, h4⟩ := TM.ex
  exact fnok_ofL F hm KX G h1 S h2 h3 h4 hb
end
/-! ### the head: the makers' tables -/
/-- ms: the makers, each with its lambdas' name -/
def tabT (K : Frag) (ms : List (Str × Str)) : List (Addr × Str) := ms.filterMap fun m => (PySem.W.tabIn K m.1).map fun p => (p.2, m.2)
def tabC (K : Frag) (ms : List (Str × Str)) : List (Addr × Addr) := ms.filterMap fun m => PySem.W.tabIn K m.1
def tabB (K : Frag) (ms : List (Str × Str)) : Bool := (ms.all fun m => (PySem.W.tabIn K m.1).isSome) && (decide ((tabT K ms).map (·.1)).Nodup && (tabC K ms).all fun p => (K.lookup p.2).isNone)
theorem nodup_fst {α β : Type} : ∀ {l : List (α × β)}, (l.map (·.1)).Nodup → ∀ p ∈ l, ∀ q ∈ l, p.1 = q.1 → p = q
  | [], _, p, hp, _, _, _ => by cases hp
  | x :: l, h, p, hp, q, hq, e => by
    rw [List.map_cons, List.nodup_cons] at h
    rcases List.mem_cons.mp hp with rfl | hp' <;> rcases List.mem_cons.mp hq with rfl | hq'
    · rfl
    · exact absurd (List.mem_map.mpr ⟨q, hq', e.symm⟩) h.1
    · exact absurd (List.mem_map.mpr ⟨p, hp', e⟩) h.1
    · exact nodup_fst h.2 p hp' q hq' e
theorem tabB_ok {K : Frag} {ms : List (Str × Str)} (h : tabB K ms = true) {x q : Str} (hm : (x, q) ∈ ms) : ∃ c T, PySem.W.tabIn K x = some (c, T) ∧ (c, T) ∈ tabC K ms ∧ (T, q) ∈ tabT K ms ∧ ∀ p ∈ tabT K ms, p.1 = T → p.2 = q := by
  unfold tabB at h
  rw [Bool.and_eq_true, Bool.and_eq_true] at h
  obtain ⟨h1, h2, _⟩ := h
  have hs := List.all_eq_true.mp h1 _ hm
  obtain ⟨p, hp⟩ := Option.isSome_iff_exists.mp hs
  have hT : (p.2, q) ∈ tabT K ms := List.mem_filterMap.mpr ⟨_, hm, by rw [hp]; rfl⟩
  exact ⟨p.1, p.2, hp, List.mem_filterMap.mpr ⟨_, hm, hp⟩, hT, fun r hr e => by
    have := nodup_fst (of_decide_eq_true h2) r hr _ hT e
    rw [this]⟩
abbrev AlT : Type := AlX × Bool
def obsT (fa : List He.Fa) (fn : List He.DefD) (cs : List (Str × D)) (file : Str) (xs : List XD) (ms : List (Str × Str)) (K : Frag) : AlT := (obsX fa fn cs file xs K, tabB K ms)
def valT (fn : List He.DefD) (cs : List (Str × D)) (xs : List XD) : AlT := (valX fn cs xs, true)
def SaysT (fa : List He.Fa) (fn : List He.DefD) (cs : List (Str × D)) (file : Str) (xs : List XD) (ms : List (Str × Str)) (K : Frag) : Prop := obsT fa fn cs file xs ms K = valT fn cs xs
def unTab (ts : List Addr) (as : List Addr) : List Addr := as.filter fun a => !ts.contains a
def asT (n : Nat) (ms : List (Str × Str)) (g : Addr → Option Obj) : List Addr := unTab ((tabC (He.frG g (cStatics :: He.asD g n)) ms).map (·.2)) (cStatics :: He.asD g n)
def obsTG (n : Nat) (fa : List He.Fa) (fn : List He.DefD) (cs : List (Str × D)) (file : Str) (xs : List XD) (ms : List (Str × Str)) (g : Addr → Option Obj) : AlT := obsT fa fn cs file xs ms (He.frG g (asT n ms g))
def hookT (n : Nat) (fa : List He.Fa) (fn : List He.DefD) (cs : List (Str × D)) (file : Str) (xs : List XD) (ms : List (Str × Str)) : PySem.W.Hook where
  α := AlT
  obs := fun s => obsTG n fa fn cs file xs ms s.heap.get?
  val := fun _ => valT fn cs xs
  says := fun _ h => ∃ K : Frag, K.In h ∧ SaysT fa fn cs file xs ms K
  of := fun _ _ e => ⟨_, He.frG_in, e⟩
  keeps := fun _ _ _ ⟨K, hK, c⟩ k => ⟨K, PySem.W.Frag.In.keeps hK k, c⟩
theorem obsTG_eq {n : Nat} {fa : List He.Fa} {fn : List He.DefD} {cs : List (Str × D)} {file : Str} {xs : List XD} {ms : List (Str × Str)} {g : Addr → Option Obj} {s : Shared} (h : ∀ a, g a = s.heap.get? a) : obsTG n fa fn cs file xs ms g = (hookT n fa fn cs file xs ms).obs s := by
  have e : g = s.heap.get? := funext h
  rw [e]; rfl
theorem SaysT.x {fa : List He.Fa} {fn : List He.DefD} {cs : List (Str × D)} {file : Str} {xs : List XD} {ms : List (Str × Str)} {K : Frag} (c : SaysT fa fn cs file xs ms K) : SaysX fa fn cs file xs K := congrArg Prod.fst c
theorem SaysT.tb {fa : List He.Fa} {fn : List He.DefD} {cs : List (Str × D)} {file : Str} {xs : List XD} {ms : List (Str × Str)} {K : Frag} (c : SaysT fa fn cs file xs ms K) : tabB K ms = true := congrArg Prod.snd c
/-- a law that makes lambdas -/
theorem walk_ofTX {l : PySem.W.OpenLaw} {n k : Nat} {q : Program} {loose : List Str} {XP : (Str → Option Value) → Heap → Prop} {YP : World → Heap → Prop} {d : DefRec} {x : Str} {F : Fn} (ms : List (Str × Str))
    (hn : l.most = some n) (hn2 : n ≤ sizeLine) (hdf : d.params.defaults = []) (hr : Room k callerA) (hrec : (ms.all fun m => ((recsOf q).find? (fun e => e.name == m.1)).isSome) = true) (hF : ∀ ns : List Int, ns.length ≤ n → ∃ st, F [.scr ns] [] = some (.ok (.bl true), st))
    (W : ∀ (w : World) (mg : Str → Option Value) (fa : Addr) (h : Heap), YP w h → h.Ns mainGlobals mg → mg d.name = some (.ref fa) →
      ∃ (K : Frag) (fd : FuncData), K.In h ∧ tabB K ms = true ∧ (∀ (s : Shared) (u : Value), BindsTo s fd ⟨[u], []⟩ [(x, u)]) ∧
        ∀ (T : LamT) (base : Heap), K.In base → base.Ns mainGlobals mg → (∀ m ∈ ms, @TabM T K mg base m.1 m.2) → FnOk l.prog w K mg base (L2.CX l.prog w) k fa fd [x] (@spF T K mg F 1)) :
    PySem.W.WalkO q loose XP YP l.row.toRowW d [] (fun f vs => PySem.call f vs) := by
  refine walk_ofT (x := x) hn hn2 hdf hr hF fun w mg fa h Y G hm TF => ?_
  obtain ⟨K, fd, KX, hB, hb, hFn⟩ := W w mg fa h Y G hm
  have hh : ∀ p ∈ tabC K ms, PySem.W.CodeHd h p.1 p.2 ∧ h.get? p.2 = some { cls := .none, data := .fields #[] } := fun p hp => by
    obtain ⟨m, hm1, hm2⟩ := List.mem_filterMap.mp hp
    obtain ⟨r, hr⟩ := Option.isSome_iff_exists.mp (List.all_eq_true.mp hrec m hm1)
    exact TF K m.1 r p.1 p.2 KX hr hm2
  refine ⟨K, fd, tabC K ms, ⟨tabT K ms⟩, KX, hb, fun p hp => (hh p hp).2, fun p hp => ?_, fun p hp => (hh p hp).1, fun p hp => ?_, fun base KB GB TB => ?_⟩
  · have h2 := hB
    unfold tabB at h2
    rw [Bool.and_eq_true, Bool.and_eq_true] at h2
    exact Option.isNone_iff_eq_none.mp (List.all_eq_true.mp h2.2.2 p hp)
  · obtain ⟨m, hm1, hm2⟩ := List.mem_filterMap.mp hp
    cases ht : PySem.W.tabIn K m.1 with
    | none => rw [ht] at hm2; cases hm2
    | some r =>
      rw [ht] at hm2
      cases hm2
      exact ⟨r, List.mem_filterMap.mpr ⟨m, hm1, ht⟩, rfl⟩
  · refine hFn ⟨tabT K ms⟩ base KB GB fun m hm => ?_
    obtain ⟨c, T, h1, h2, h3, h4⟩ := tabB_ok hB hm
    exact @TabM.mk ⟨tabT K ms⟩ _ _ _ _ _ ⟨c, T, h1, TB _ h2, h3, h4⟩
end Sw

/-! Sem4: more semantics: join, bits, is of truths, int(t, 2). -/
set_option linter.all false
set_option maxRecDepth 100000
namespace Sw
open PySem (Str)
def mJoin (st : Store) (o : D) : List D → Option (D × Store)
  | [y] => match o with
    | .str a => (seq? st y).bind fun xs => (strs? xs).bind fun ys => if (ys.map (·.length)).sum + ys.length * a.length ≤ 16777216 then some (.str (Str.join a ys), st) else none
    | _ => none
  | _ => none
def vAnd (_ : Store) : D → D → Option D
  | .int i, .int j => if 0 ≤ i ∧ 0 ≤ j then some (.int ((i.toNat &&& j.toNat : Nat) : Int)) else none
  | _, _ => none
def vShr (_ : Store) : D → D → Option D
  | .int i, .int j => if 0 ≤ j then some (.int (i / 2 ^ j.toNat)) else none
  | _, _ => none
def vIs (_ : Store) : D → D → Option D
  | .bl a, .bl b => some (.bl (a == b))
  | _, _ => none
def vIsn (_ : Store) : D → D → Option D
  | .bl a, .bl b => some (.bl (!(a == b)))
  | _, _ => none
/-- the number that signs 0 and 1 tell, the highest first -/
def binNum (l : List Nat) : Nat := l.foldl (fun a c => 2 * a + (c - 48)) 0
def gInt2 (_ : Store) : List D → Option D
  | [.str s, .int 2] => if s.cps.toList ≠ [] ∧ s.cps.toList.length ≤ 640 ∧ (∀ c ∈ s.cps.toList, c = 48 ∨ c = 49) then some (.int ((binNum s.cps.toList : Nat) : Int)) else none
  | _ => none
end Sw

/-! Rules18: join, bits, is of truths. -/
set_option Elab.async false
set_option linter.all false
set_option maxRecDepth 100000
set_option maxHeartbeats 4000000
namespace Sw
open PySem PySem.Spec PyProof.Rows L2
variable [LamT]
theorem rdsStrJ {K : Frag} {B : Addr → Prop} {φ : List Addr} {H : Hp} : ∀ {vs : List V} {ns : List Str}, RDs K B φ H vs (ns.map D.str) → vs = ns.map V.str ∧ ∀ x ∈ ns, strOk x
  | _, [], h => by cases h; exact ⟨rfl, fun _ h => by cases h⟩
  | _, n :: ns, h => by
    cases h with
    | cons r t =>
      cases r with
      | str _ h1 =>
        obtain ⟨e, h2⟩ := rdsStrJ t
        rw [e]
        exact ⟨rfl, fun x hx => (List.mem_cons.mp hx).elim (fun z => z ▸ h1) (h2 x)⟩
theorem join_cps (a : Str) (h : a.cps.all (· < 0x110000) = true) : ∀ ys : List Str, (∀ y ∈ ys, y.cps.all (· < 0x110000) = true) → (Str.join a ys).cps.all (· < 0x110000) = true
  | [], _ => by simp [Str.join, Str.empty]
  | [y], hy => hy y (by simp)
  | y :: z :: r, hy => by
    show ((y.cps ++ a.cps) ++ (Str.join a (z :: r)).cps).all _ = true
    rw [Array.all_append, Array.all_append, hy y (by simp), h, join_cps a h (z :: r) fun x hx => hy x (List.mem_cons_of_mem _ hx)]
    rfl
theorem m_join {X : Cx} : MtR X "str.join" (VM X.K X.mg mJoin) := by
  intro pins s σ H x xs v us Q I rx rxs ⟨B, φ, st, d, ds, z, st', rs, r, rr, hz, fin⟩
  unfold mJoin at hz
  split at hz
  · rename_i y
    split at hz
    · rename_i a
      cases hq : seq? st y with
      | none => rw [hq] at hz; cases hz
      | some zs =>
        rw [hq, Option.bind_some] at hz
        cases hs : strs? zs with
        | none => rw [hs] at hz; cases hz
        | some ys =>
          rw [hs, Option.bind_some] at hz
          split at hz
          · rename_i hl
            cases hz
            cases r with
            | str _ ha =>
              obtain ⟨u, rfl, ru⟩ := args1 rr
              obtain ⟨p, vs, rfl, q, sq⟩ := seq_cases rs ru hq
              rw [strs_eq hs] at q
              obtain ⟨rfl, hy⟩ := rdsStrJ q
              refine mt_join pins s σ H _ _ v us Q I rx rxs ⟨a, p, ys, rfl, rfl, sq.elim (fun z => .inr z.1.t) (fun z => .inl (SqL.of z.1)), hl, ?_⟩
              have e : Txt.join a ys = Str.join a ys := StrLaws.glued_eq_join a ys
              rw [e]
              refine fin0 rs fin (.str _ ⟨join_cps a ha.1 ys fun y hy' => (hy y hy').1, ?_⟩)
              exact Nat.le_trans (StrLaws.join_length_le a ys) (Nat.le_trans hl (by decide))
          · cases hz
    · cases hz
  · cases hz
section
variable {X : Cx}
theorem o_and : OpR X (binaryOp .BitAnd) (V2 X.K X.mg vAnd) := by
  intro pins s σ H x y v u Q I rv ru ⟨B, φ, st, d, e, z, rs, r1, r2, hz, fin⟩
  cases d <;> cases e <;> simp only [vAnd] at hz <;> try (cases hz; done)
  split at hz
  · rename_i i j hc
    cases hz; cases r1; cases r2
    refine op_and pins s σ H _ _ v u Q I rv ru ⟨i, j, rfl, rfl, ?_⟩
    have e : Builtin.bitAnd i j = ((i.toNat &&& j.toNat : Nat) : Int) := by
      unfold Builtin.bitAnd
      rw [decide_eq_true hc.1, decide_eq_true hc.2]
    show Q (.int (Builtin.bitAnd i j)) H
    rw [e]
    exact fin0 rs fin (.int _)
  · cases hz
theorem o_shr : OpR X (binaryOp .RShift) (V2 X.K X.mg vShr) := o_ints op_shr (fun st d e z h => by
  cases d <;> cases e <;> simp only [vShr] at h <;> try (cases h; done)
  split at h
  · rename_i hc; exact ⟨_, _, rfl, rfl, hc, (Option.some.inj h).symm⟩
  · cases h) fun _ _ _ _ _ => .int _
theorem ip_aShr : PIp X .RShift (tIpI X.K X.mg vShr) := by
  intro pins s σ H x y v u Q I r1 r2 ⟨B, φ, st, d, e, z, rs, q1, q2, hz, fin⟩
  cases d <;> cases e <;> simp only [vShr] at hz <;> try (cases hz; done)
  split at hz
  · rename_i i j hc
    cases hz; cases q1; cases q2
    exact iop_shr pins s σ H _ _ v u Q I r1 r2 ⟨_, _, rfl, rfl, hc, fin0 rs fin (.int _)⟩
  · cases hz
theorem o_is : OpR X (compareOp .Is) (V2 X.K X.mg vIs) := by
  intro pins s σ H x y v u Q I rv ru ⟨B, φ, st, d, e, z, rs, r1, r2, hz, fin⟩
  cases d <;> cases e <;> simp only [vIs] at hz <;> try (cases hz; done)
  cases hz; cases r1; cases r2
  refine op_isBl pins s σ H _ _ v u Q I rv ru ⟨_, _, rfl, rfl, ?_⟩
  rename_i a b
  have e : decide (a = b) = (a == b) := by cases a <;> cases b <;> rfl
  rw [e]
  exact fin0 rs fin (.bl _)
theorem o_isn : OpR X (compareOp .IsNot) (V2 X.K X.mg vIsn) := by
  intro pins s σ H x y v u Q I rv ru ⟨B, φ, st, d, e, z, rs, r1, r2, hz, fin⟩
  cases d <;> cases e <;> simp only [vIsn] at hz <;> try (cases hz; done)
  cases hz; cases r1; cases r2
  refine op_notBl pins s σ H _ _ v u Q I rv ru ⟨_, _, rfl, rfl, ?_⟩
  rename_i a b
  have e : (!decide (a = b)) = (!(a == b)) := by cases a <;> cases b <;> rfl
  rw [e]
  exact fin0 rs fin (.bl _)
theorem isB_is : IsB vIs := fun st d e z h => by cases d <;> cases e <;> simp only [vIs] at h <;> first | (cases h; done) | exact ⟨_, (Option.some.inj h).symm⟩
theorem isB_isn : IsB vIsn := fun st d e z h => by cases d <;> cases e <;> simp only [vIsn] at h <;> first | (cases h; done) | exact ⟨_, (Option.some.inj h).symm⟩
end
end Sw

/-! IntBin: int(t, 2) of a text of signs 0 and 1. -/
set_option Elab.async false
set_option linter.all false
set_option maxRecDepth 100000
set_option maxHeartbeats 4000000
namespace Sw
open PySem PySem.Spec PyProof.Rows L2
namespace Bin
open PySem.NumText PySem.Calls
abbrev AllB (l : List Nat) : Prop := ∀ z ∈ l, z = 48 ∨ z = 49
theorem fold_b : ∀ (l : List Nat) (acc : Array Nat) (k : Bool), AllB l → l.foldlM (NumText.step 2) (acc, k) = some (acc ++ (l.map (· - 48)).toArray, k || !l.isEmpty)
  | [], acc, k, _ => by simp
  | z :: l, acc, k, h => by
    have hz : NumText.step 2 (acc, k) z = some (acc.push (z - 48), true) := by
      rcases h z (by simp) with rfl | rfl <;> rfl
    have ih := fold_b l (acc.push (z - 48)) true fun y hy => h y (List.mem_cons_of_mem _ hy)
    rw [List.foldlM_cons, hz]
    show l.foldlM (NumText.step 2) (acc.push (z - 48), true) = _
    rw [ih]; simp
theorem digits_b {l : List Nat} (h : AllB l) (hn : l ≠ []) : digits? 2 l = some (l.map (· - 48)).toArray := by
  unfold digits?
  rw [fold_b l #[] false h]
  cases l with
  | nil => exact absurd rfl hn
  | cons z l => simp
theorem blank_b {l : List Nat} (h : AllB l) : l.dropWhile blank = l := by
  cases l with
  | nil => rfl
  | cons z l => rw [List.dropWhile_cons]; rcases h z (by simp) with rfl | rfl <;> rfl
theorem sign_b {l : List Nat} (h : AllB l) : sign l = (false, l) := by
  cases l with
  | nil => rfl
  | cons z l => rcases h z (by simp) with rfl | rfl <;> rfl
theorem based_b {l : List Nat} (h : AllB l) : based 2 l = (2, false, l) := by
  match l, h with
  | [], _ => rfl
  | [z], h => rcases h z (by simp) with rfl | rfl <;> rfl
  | z :: y :: l, h =>
    rcases h z (by simp) with rfl | rfl
    · rcases h y (by simp) with rfl | rfl <;> rfl
    · rfl
theorem num_b (l : List Nat) : ∀ acc : Nat, (l.map (· - 48)).foldl (fun acc d => acc * 2 + d) acc = l.foldl (fun a c => 2 * a + (c - 48)) acc := by
  induction l with
  | nil => intro _; rfl
  | cons z l ih => intro acc; rw [List.map_cons, List.foldl_cons, List.foldl_cons, ih, Nat.mul_comm acc 2]
theorem read_b {l : List Nat} (h : AllB l) (hn : l ≠ []) : (int_private% "readNumeral") 0 2 l = (int_private% "Numeral.value") ((binNum l : Nat) : Int) := by
  have hr : AllB l.reverse := fun z hz => h z (List.mem_reverse.mp hz)
  have hb := based_b h
  rw [readNumeral_eq, blank_b h, sign_b h]
  dsimp only
  rw [hb]
  dsimp only
  rw [blank_b hr, List.reverse_reverse, digits_b h hn]
  unfold judge
  dsimp only
  rw [if_neg (by simp), if_neg (by simp), if_neg (by simp)]
  congr 1
  rw [if_neg (by decide), List.foldl_toArray, num_b]; rfl
theorem seen_b {x : PySem.Str} (h : AllB x.cps.toList) : numTextOf x = x.cps.toList ∧ numSeenOf x = x.cps.toList := by
  have q : numTextOf x = x.cps.toList := by
    unfold numTextOf
    rw [if_pos]
    rw [← Array.all_toList, List.all_eq_true]
    intro z hz
    rcases h z hz with rfl | rfl <;> rfl
  refine ⟨q, ?_⟩
  unfold numSeenOf
  rw [q]
  exact takeWhile_all fun z hz => by rcases h z hz with rfl | rfl <;> rfl
structure Kept (p q r : Prop) : Prop where
  a : p
  b : q
  c : r
set_option maxHeartbeats 8000000 in
theorem made_b {x : PySem.Str} {u t : Tok} (hl : x.length ≤ 640) (h : AllB x.cps.toList) (hn : x.cps.toList ≠ []) : Gives (Builtin.«int.__new__» ⟨[.type "int", .str x u, .int 2 t], []⟩) (.int ((binNum x.cps.toList : Nat) : Int)) := by
  refine .of_wp fun M A E s Q q => ?_
  obtain ⟨hp, g, d, tk, os⟩ := s
  have ty : typeOf (.str x u) = pure (.type "str") := rfl
  have c1 := F.conv_sub_int
  have c2 := F.madeHere_int
  obtain ⟨z1, z2⟩ := seen_b h
  have kk : Kept ((numSeenOf x).length ≤ 640) ((int_private% "readNumeral") 0 2 (numSeenOf x) = (int_private% "Numeral.value") ((binNum x.cps.toList : Nat) : Int)) (((numSeenOf x).length == (numTextOf x).length) = true) :=
    ⟨by rw [z2, Array.length_toList]; exact hl, by rw [z2]; exact read_b h hn, by rw [z1, z2, beq_self_eq_true]⟩
  clear z1 z2 hl hn h
  repeat (any_goals (first | assumption | ((with_reducible show wpAny _ _ ((int_private% "intFromText") _ _ _) _ _ _); refine Hx.wp_textB kk.a kk.b kk.c ?_) | wp_step))
  all_goals first | exact ⟨_, rfl, q⟩ | skip
end Bin
variable [LamT]
theorem c_int2 {X : Cx} : CallR X (.type "int") (VA X.K X.mg gInt2) := by
  intro pins s σ H xs us Q I rv ⟨B, φ, st, ds, z, rs, r, hz, fin⟩
  unfold gInt2 at hz
  split at hz
  · split at hz
    · rename_i x hh
      obtain ⟨hn, hl, hb⟩ := hh
      cases hz
      obtain ⟨v, u, rfl, rd, rd2⟩ := args2 r
      cases rd; cases rd2
      obtain ⟨w1, w2, rfl, r1, r2⟩ := vals2 rv
      obtain ⟨t1, rfl⟩ := r1
      obtain ⟨t2, rfl⟩ := r2
      exact callType_new F.called_int F.newNe_int (Hx.typeCall_int_2 _ _) (Hx.newCall_int_2 _ _) (fun obj => F.initArgs_range_2 obj _ _) F.entry_int_new (Bin.made_b (show x.cps.size ≤ 640 by rw [← Array.length_toList]; exact hl) hb hn).meets (show (Made.int _).post _ s from ⟨rfl, .int _, H, I.tok _, ⟨_, rfl⟩, fin0 rs fin (.int _)⟩)
    · cases hz
  · cases hz
end Sw

/-! Rules19: a, b, c = x, y, z of locals. -/
set_option Elab.async false
set_option linter.all false
set_option maxRecDepth 100000
set_option maxHeartbeats 4000000
namespace Sw
open PySem PySem.Spec PyProof.Rows L2
variable [LamT]
theorem args3' {K : Frag} {B : Addr → Prop} {φ : List Addr} {H : Hp} {xs : List V} {d e f : D} (r : RDs K B φ H xs [d, e, f]) : ∃ v u w, xs = [v, u, w] ∧ RD K B φ H v d ∧ RD K B φ H u e ∧ RD K B φ H w f := by
  cases r with | cons r t => cases t with | cons r2 t2 => cases t2 with | cons r3 t3 => cases t3; exact ⟨_, _, _, rfl, r, r2, r3⟩
section
variable {X : Cx} {a b c : Expr} {pos : Pos} {cs : Ax}
theorem f_par3 {i j l : Nat} {x y z : Str} {px py pz pt : Pos} {kt k2 pt2} (hc : X.calm = true) (hN : X.N.Nodup) (hx : (locB X.N X.env.scope i x && (locB X.N X.env.scope j y && locB X.N X.env.scope l z)) = true) (hij : (!Nat.beq i j && (!Nat.beq i l && !Nat.beq j l)) = true)
    (hl : (eqK (X.env.scope.names.lookup x) .local && (eqK (X.env.scope.names.lookup y) .local && eqK (X.env.scope.names.lookup z) .local)) = true) (ha : RA X [a, b, c] cs)
    (hw : swappedStores [.Tuple [.Name x px, .Name y py, .Name z pz] kt pt] (.Tuple [a, b, c] k2 pt2) X.env = pure (some [x, y, z]) := by rfl)
    (hs : swapsWithSole [.Tuple [.Name x px, .Name y py, .Name z pz] kt pt] (.Tuple [a, b, c] k2 pt2) pos.line X.env = pure false := by rfl) :
    RSt X (.Assign [.Tuple [.Name x px, .Name y py, .Name z pz] kt pt] (.Tuple [a, b, c] k2 pt2) pos) (sPar [gName i, gName j, gName l] cs) := fun W tk => by
  rw [Bool.and_eq_true, Bool.and_eq_true] at hx hl
  simp only [Bool.and_eq_true, Bool.not_eq_true'] at hij
  obtain ⟨h1, h2, h3⟩ := hx
  obtain ⟨n1, n2, n3⟩ := hij
  refine (ps_par3 hc hN (locB_ok h1).1 (locB_ok h2).1 (locB_ok h3).1 (Nat.ne_of_beq_eq_false n1) (Nat.ne_of_beq_eq_false n2) (Nat.ne_of_beq_eq_false n3) (eqK_ok hl.1) (eqK_ok hl.2.1) (eqK_ok hl.2.2) (ha W tk) hw hs).imp fun D σ H h =>
    (Tr.intoS (c := sPar [gName i, gName j, gName l] cs) (f := fun ds e st => match gTups [gName i, gName j, gName l] ds e st with | some (e', st'') => some (.nx e', st'') | none => none) (fun e st => by unfold sPar; cases cs e st with | none => rfl | some p => obtain ⟨q, st1⟩ := p; cases q <;> rfl) h).mono fun v H1 ⟨B, φ, e, st, d, r, st', re, rs, r1, hc, fin⟩ => ?_
  match d, r1, hc with
  | [], _, hc => simp [gTups] at hc
  | [_], _, hc => simp [gTups, Sw.gName] at hc
  | [_, _], _, hc => simp [gTups, Sw.gName] at hc
  | [d1, d2, d3], r1, hc =>
    obtain ⟨v, u, w, rfl, q1, q2, q3⟩ := args3' r1
    simp only [gTups, Sw.gName, Option.some.injEq, Prod.mk.injEq] at hc
    obtain ⟨rfl, rfl⟩ := hc
    exact ⟨v, u, w, rfl, fin _ _ _ _ (.refl rs) rs (((re.set q1).set q2).set q3)⟩
  | _ :: _ :: _ :: _ :: _, _, hc => simp [gTups, Sw.gName] at hc
end
end Sw

/-! Wp: what a combinator comes to, told from behind. -/
set_option linter.all false
set_option maxRecDepth 100000
namespace Sw
open PySem (Str)
/-- what a value gives that is walked -/
def walkD : D → Option (List D)
  | .str s => some (s.cps.toList.map fun c => .str ⟨#[c]⟩)
  | .tup xs => some xs
  | .lst xs => some xs
  | _ => none
/-- what zip walks -/
def zip2 (x y : D) : Option (List D) := match x, y with
  | .lst xs, .lst ys => some (zipP xs ys)
  | .tup xs, .tup ys => some (zipP xs ys)
  | _, _ => none
/-- c gives a value (no exception) for which Q holds -/
def WE {α : Type} (c : Act α) (e : Env) (st : Store) (Q : α → Store → Prop) : Prop := ∃ r st', c e st = some (.ok r, st') ∧ Q r st'
/-- c ends in a way for which Q holds -/
def WS (c : Sx) (e : Env) (st : Store) (Q : SR → Store → Prop) : Prop := ∃ r st', c e st = some (r, st') ∧ Q r st'
section
variable {α β : Type} {e : Env} {st : Store}
theorem WE.mono {c : Act α} {Q Q' : α → Store → Prop} (h : WE c e st Q) (f : ∀ r s, Q r s → Q' r s) : WE c e st Q' := by
  obtain ⟨r, s, h1, h2⟩ := h
  exact ⟨r, s, h1, f r s h2⟩
theorem WS.mono {c : Sx} {Q Q' : SR → Store → Prop} (h : WS c e st Q) (f : ∀ r s, Q r s → Q' r s) : WS c e st Q' := by
  obtain ⟨r, s, h1, h2⟩ := h
  exact ⟨r, s, h1, f r s h2⟩
theorem w_bind {a : Act α} {f : α → Act β} {Q : β → Store → Prop} (h : WE a e st fun x s1 => WE (f x) e s1 Q) : WE (a.bind f) e st Q := by
  obtain ⟨x, s1, h1, y, s2, h2, q⟩ := h
  exact ⟨y, s2, by unfold Act.bind; rw [h1]; exact h2, q⟩
theorem w_pure {v : α} {Q : α → Store → Prop} (h : Q v st) : WE (Act.pure v) e st Q := ⟨v, st, rfl, h⟩
theorem w_look {f : Store → Option α} {Q : α → Store → Prop} (h : ∃ z, f st = some z ∧ Q z st) : WE (look f) e st Q := by
  obtain ⟨z, h1, h2⟩ := h
  exact ⟨z, st, by unfold look; rw [h1]; rfl, h2⟩
theorem w_var {i : Nat} {d : D} {Q : D → Store → Prop} (h : e[i]? = some (some d)) (q : Q d st) : WE (eVar i) e st Q := ⟨d, st, by unfold eVar; rw [h], q⟩
theorem w_c {d : D} {Q : D → Store → Prop} (q : Q d st) : WE (eC d) e st Q := ⟨d, st, rfl, q⟩
theorem w_op1 {g : Store → D → Option D} {a : Ex} {Q : D → Store → Prop} (h : WE a e st fun x s1 => ∃ z, g s1 x = some z ∧ Q z s1) : WE (op1 g a) e st Q := w_bind (h.mono fun _ _ q => w_look q)
theorem w_op2 {g : Store → D → D → Option D} {a b : Ex} {Q : D → Store → Prop} (h : WE a e st fun x s1 => WE b e s1 fun y s2 => ∃ z, g s2 x y = some z ∧ Q z s2) : WE (op2 g a b) e st Q := w_bind (h.mono fun _ _ q => w_bind (q.mono fun _ _ q => w_look q))
theorem w_enot {a : Ex} {Q : D → Store → Prop} (h : WE a e st fun x s1 => ∃ z, vNot s1 x = some z ∧ Q z s1) : WE (eNotT a) e st Q := w_op1 h
theorem w_opA {g : Store → List D → Option D} {a : Ax} {Q : D → Store → Prop} (h : WE a e st fun x s1 => ∃ z, g s1 x = some z ∧ Q z s1) : WE (opA g a) e st Q := w_bind (h.mono fun _ _ q => w_look q)
theorem w_nil {Q : List D → Store → Prop} (q : Q [] st) : WE aNil e st Q := ⟨[], st, rfl, q⟩
theorem w_cons {a : Ex} {r : Ax} {Q : List D → Store → Prop} (h : WE a e st fun x s1 => WE r e s1 fun xs s2 => Q (x :: xs) s2) : WE (aCons a r) e st Q := w_bind (h.mono fun _ _ q => w_bind (q.mono fun _ _ q => w_pure q))
theorem w_tup {a : Ax} {Q : D → Store → Prop} (h : WE a e st fun xs s1 => xs.length ≤ PySem.sizeLine ∧ Q (.tup xs) s1) : WE (eTup a) e st Q := w_opA (h.mono fun xs _ q => ⟨_, if_pos q.1, q.2⟩)
theorem w_lst {a : Ax} {Q : D → Store → Prop} (h : WE a e st fun xs s1 => xs.length ≤ PySem.sizeLine ∧ Q (.lst xs) s1) : WE (eLst a) e st Q := w_opA (h.mono fun xs _ q => ⟨_, if_pos q.1, q.2⟩)
theorem w_lstC {a : Ax} {Q : D → Store → Prop} (h : WE a e st fun xs s1 => xs.length ≤ PySem.sizeLine ∧ Q (.loc s1.length) (s1 ++ [.lst xs])) : WE (eLstC a) e st Q := w_bind (h.mono fun xs s1 q => ⟨_, _, by rw [if_pos q.1]; rfl, q.2⟩)
theorem w_pnone {Q : Option Int → Store → Prop} (q : Q none st) : WE pNone e st Q := ⟨none, st, rfl, q⟩
theorem w_psome {a : Ex} {Q : Option Int → Store → Prop} (h : WE a e st fun d s1 => ∃ i, d = .int i ∧ Q (some i) s1) : WE (pSome a) e st Q := w_bind (h.mono fun d s1 ⟨i, e, q⟩ => by subst e; exact w_pure q)
theorem w_slice {a : Ex} {l h : Px} {Q : D → Store → Prop} (w : WE a e st fun d s1 => WE l e s1 fun lo s2 => WE h e s2 fun hi s3 => ∃ z, vSlice s3 d lo hi = some z ∧ Q z s3) : WE (eSlice a l h) e st Q :=
  w_bind (w.mono fun _ _ q => w_bind (q.mono fun _ _ q => w_bind (q.mono fun _ _ q => w_look q)))
theorem w_tv {a : Ex} {Q : Bool → Store → Prop} (h : WE a e st fun d s1 => ∃ b, truth s1 d = some b ∧ Q b s1) : WE (tV a) e st Q := w_bind (h.mono fun _ _ q => w_look q)
theorem w_not {t : Tx} {Q : Bool → Store → Prop} (h : WE t e st fun b s1 => Q (!b) s1) : WE (tNot t) e st Q := w_bind (h.mono fun _ _ q => w_pure q)
theorem w_and {t u : Tx} {Q : Bool → Store → Prop} (h : WE t e st fun b s1 => (b = true → WE u e s1 Q) ∧ (b = false → Q false s1)) : WE (tAnd t u) e st Q := w_bind (h.mono fun b s1 q => by
  cases b with
  | true => exact q.1 rfl
  | false => exact ⟨false, s1, rfl, q.2 rfl⟩)
theorem w_or {t u : Tx} {Q : Bool → Store → Prop} (h : WE t e st fun b s1 => (b = false → WE u e s1 Q) ∧ (b = true → Q true s1)) : WE (tOr t u) e st Q := w_bind (h.mono fun b s1 q => by
  cases b with
  | false => exact q.1 rfl
  | true => exact ⟨true, s1, rfl, q.2 rfl⟩)
theorem w_if {t : Tx} {a b : Ex} {Q : D → Store → Prop} (h : WE t e st fun k s1 => (k = true → WE a e s1 Q) ∧ (k = false → WE b e s1 Q)) : WE (eIf t a b) e st Q := w_bind (h.mono fun k s1 q => by
  cases k with
  | true => exact q.1 rfl
  | false => exact q.2 rfl)
theorem w_eand {a b : Ex} {Q : D → Store → Prop} (h : WE a e st fun d s1 => ∃ k, truth s1 d = some k ∧ (k = true → WE b e s1 Q) ∧ (k = false → Q d s1)) : WE (eAnd a b) e st Q := w_bind (h.mono fun d s1 ⟨k, hk, q⟩ => w_bind (w_look ⟨k, hk, by
  cases k with
  | true => exact q.1 rfl
  | false => exact w_c (q.2 rfl)⟩))
theorem w_eor {a b : Ex} {Q : D → Store → Prop} (h : WE a e st fun d s1 => ∃ k, truth s1 d = some k ∧ (k = false → WE b e s1 Q) ∧ (k = true → Q d s1)) : WE (eOr a b) e st Q := w_bind (h.mono fun d s1 ⟨k, hk, q⟩ => w_bind (w_look ⟨k, hk, by
  cases k with
  | false => exact q.1 rfl
  | true => exact w_c (q.2 rfl)⟩))
theorem w_chain {g g' : Store → D → D → Option D} {a b c : Ex} {Q : D → Store → Prop} (h : WE a e st fun x s1 => WE b e s1 fun y s2 => ∃ k, g s2 x y = some (.bl k) ∧ (k = true → WE c e s2 fun z s3 => ∃ w, g' s3 y z = some w ∧ Q w s3) ∧ (k = false → Q (.bl false) s2)) : WE (eChain g g' a b c) e st Q :=
  w_bind (h.mono fun x s1 q => w_bind (q.mono fun y s2 ⟨k, hk, q1, q2⟩ => w_bind (w_look ⟨_, hk, by
    cases k with
    | true => exact w_bind ((q1 rfl).mono fun _ _ q => w_look q)
    | false => exact w_c (q2 rfl)⟩)))
theorem w_call {F : Fn} {a : Ax} {Q : D → Store → Prop} (h : WE a e st fun ds s1 => ∃ r s2, viewCall F ds s1 = some (.ok r, s2) ∧ Q r s2) : WE (eCall F a) e st Q := w_bind (h.mono fun _ _ q => q)
theorem w_lc {it : Act (List D)} {g : Tg} {vs : List Nat} {c : Tx} {y : Ex} {Q : D → Store → Prop} (h : WE it e st fun ds s1 => ∃ ys s2, compL g c y ds (wipe e vs) s1 = some (ys, s2) ∧ Q (.lst ys) s2) : WE (eLc it g vs c y) e st Q :=
  w_bind (h.mono fun ds s1 ⟨ys, s2, h1, q⟩ => ⟨_, s2, by dsimp only; rw [h1], q⟩)
theorem w_seqi {a : Ex} {Q : List D → Store → Prop} (h : WE a e st fun d s1 => ∃ xs, walkD d = some xs ∧ Q xs s1) : WE (iSeq a) e st Q := w_bind (h.mono fun d s1 ⟨xs, e, q⟩ => w_look ⟨xs, by cases d <;> exact e, q⟩)
theorem w_opAS {g : Store → List D → Option (D × Store)} {a : Ax} {Q : D → Store → Prop} (h : WE a e st fun x s1 => ∃ z s2, g s1 x = some (z, s2) ∧ Q z s2) : WE (opAS g a) e st Q := w_bind (h.mono fun _ _ ⟨z, s2, h1, q⟩ => ⟨z, s2, by dsimp only; rw [h1]; rfl, q⟩)
theorem w_meth {T : String} {g : Store → D → List D → Option (D × Store)} {a : Ex} {as : Ax} {Q : D → Store → Prop} (h : WE a e st fun x s1 => tyN s1 x = some T ∧ WE as e s1 fun xs s2 => ∃ z s3, g s2 x xs = some (z, s3) ∧ Q z s3) : WE (eMeth T g a as) e st Q :=
  w_bind (h.mono fun x s1 ⟨ty, q⟩ => w_bind ⟨(), s1, by unfold look; dsimp only; rw [if_pos ty]; rfl, w_bind (q.mono fun _ _ ⟨z, s2, h1, q⟩ => ⟨z, s2, by dsimp only; rw [h1]; rfl, q⟩)⟩)
theorem w_range1 {a : Ex} {Q : List D → Store → Prop} (h : WE a e st fun d s1 => ∃ j, d = .int j ∧ (j ≤ PySem.sizeLine ∧ -(2 ^ 62) ≤ j) ∧ Q (rangeL 0 j) s1) : WE (iRange1 a) e st Q := w_bind (h.mono fun d s1 ⟨j, e, h1, q⟩ => by subst e; exact w_look ⟨_, if_pos h1, q⟩)
theorem w_zip2 {a b : Ex} {Q : List D → Store → Prop} (h : WE a e st fun x s1 => WE b e s1 fun y s2 => ∃ z, zip2 x y = some z ∧ Q z s2) : WE (iZip2 a b) e st Q := w_bind (h.mono fun x _ q => w_bind (q.mono fun y _ ⟨z, h1, q⟩ => w_look ⟨z, by unfold zip2 at h1; exact h1, q⟩))
/-! ### statements -/
theorem w_skip {Q : SR → Store → Prop} (q : Q (.nx e) st) : WS sSkip e st Q := ⟨_, _, rfl, q⟩
theorem w_sseq {a b : Sx} {Q : SR → Store → Prop} (h : WS a e st fun r s1 => (∀ e1, r = .nx e1 → WS b e1 s1 Q) ∧ ((∀ e1, r ≠ .nx e1) → Q r s1)) : WS (sSeq a b) e st Q := by
  obtain ⟨r, s1, h1, h2, h3⟩ := h
  unfold WS sSeq
  rw [h1]
  cases r with
  | nx e1 => exact h2 e1 rfl
  | rt d => exact ⟨_, _, rfl, h3 (fun _ => by simp)⟩
  | bk d => exact ⟨_, _, rfl, h3 (fun _ => by simp)⟩
  | ct d => exact ⟨_, _, rfl, h3 (fun _ => by simp)⟩
  | ex d f => exact ⟨_, _, rfl, h3 (fun _ => by simp)⟩
/-- the first goes on -/
theorem w_then {a b : Sx} {Q : SR → Store → Prop} (h : WS a e st fun r s1 => match r with | .nx e1 => WS b e1 s1 Q | r => Q r s1) : WS (sSeq a b) e st Q :=
  w_sseq (h.mono fun r s1 q => ⟨fun e1 h => by subst h; exact q, fun h => by cases r <;> first | exact absurd rfl (h _) | exact q⟩)
theorem w_do {a : Ex} {Q : SR → Store → Prop} (h : WE a e st fun _ s1 => Q (.nx e) s1) : WS (sDo a) e st Q := by
  obtain ⟨r, s1, h1, q⟩ := h
  exact ⟨_, s1, by unfold sDo; rw [h1], q⟩
theorem w_ret {a : Ex} {Q : SR → Store → Prop} (h : WE a e st fun d s1 => Q (.rt d) s1) : WS (sRet a) e st Q := by
  obtain ⟨r, s1, h1, q⟩ := h
  exact ⟨_, s1, by unfold sRet; rw [h1], q⟩
theorem w_asg {a : Ex} {g : Tg} {Q : SR → Store → Prop} (h : WE a e st fun d s1 => ∃ e' s2, g d e s1 = some (e', s2) ∧ Q (.nx e') s2) : WS (sAsg a g) e st Q := by
  obtain ⟨r, s1, h1, e', s2, h2, q⟩ := h
  exact ⟨_, s2, by unfold sAsg; rw [h1]; dsimp only; rw [h2], q⟩
theorem w_set {i : Nat} {a : Ex} {Q : SR → Store → Prop} (h : WE a e st fun d s1 => Q (.nx (e.set i (some d))) s1) : WS (sSet i a) e st Q := w_asg (h.mono fun d s1 q => ⟨_, _, rfl, q⟩)
theorem w_aug {i : Nat} {f : Store → D → D → Option D} {a : Ex} {Q : SR → Store → Prop} (h : ∃ x, e[i]? = some (some x) ∧ WE a e st fun d s1 => ∃ z, f s1 x d = some z ∧ Q (.nx (e.set i (some z))) s1) : WS (sAug i f a) e st Q := by
  obtain ⟨x, hx, r, s1, h1, z, h2, q⟩ := h
  exact ⟨_, s1, by unfold sAug; rw [hx]; dsimp only; rw [h1]; dsimp only; rw [h2], q⟩
theorem w_augS {f : Store → D → D → Option D} {o i a : Ex} {Q : SR → Store → Prop} (h : WE o e st fun x s1 => WE i e s1 fun k s2 => ∃ y, getIx s2 x k = some y ∧ WE a e s2 fun d s3 => ∃ z, f s3 y d = some z ∧ ∃ s4, setIx s3 x k z = some s4 ∧ Q (.nx e) s4) : WS (sAugS f o i a) e st Q := by
  obtain ⟨x, s1, h1, k, s2, h2, y, h3, d, s3, h4, z, h5, s4, h6, q⟩ := h
  refine ⟨_, s4, ?_, q⟩
  unfold sAugS
  rw [h1]; dsimp only; rw [h2]; dsimp only; rw [h3]; dsimp only; rw [h4]; dsimp only; rw [h5]; dsimp only; rw [h6]
theorem g_set {o i : Ex} {d : D} {P : Env → Store → Prop} (h : WE o e st fun x s1 => WE i e s1 fun k s2 => ∃ s3, setIx s2 x k d = some s3 ∧ P e s3) : ∃ e' s', gSet o i d e st = some (e', s') ∧ P e' s' := by
  obtain ⟨x, s1, h1, k, s2, h2, s3, h3, q⟩ := h
  refine ⟨e, s3, ?_, q⟩
  unfold gSet
  rw [h1]; dsimp only; rw [h2]; dsimp only; rw [h3]; rfl
theorem w_par {gs : List Tg} {a : Ax} {Q : SR → Store → Prop} (h : WE a e st fun d s1 => ∃ e' s2, gTups gs d e s1 = some (e', s2) ∧ Q (.nx e') s2) : WS (sPar gs a) e st Q := by
  obtain ⟨r, s1, h1, e', s2, h2, q⟩ := h
  exact ⟨_, s2, by unfold sPar; rw [h1]; dsimp only; rw [h2], q⟩
theorem w_sif {c : Tx} {a b : Sx} {Q : SR → Store → Prop} (h : WE c e st fun k s1 => (k = true → WS a e s1 Q) ∧ (k = false → WS b e s1 Q)) : WS (sIf c a b) e st Q := by
  obtain ⟨k, s1, h1, q1, q2⟩ := h
  unfold WS sIf
  rw [h1]
  cases k with
  | true => exact q1 rfl
  | false => exact q2 rfl
theorem w_break {Q : SR → Store → Prop} (q : Q (.bk e) st) : WS sBreak e st Q := ⟨_, _, rfl, q⟩
theorem w_cont {Q : SR → Store → Prop} (q : Q (.ct e) st) : WS sCont e st Q := ⟨_, _, rfl, q⟩
/-- a loop that goes on: I holds at each head; or it ends within -/
theorem w_forL {g : Tg} {vs : List Nat} {b : Sx} {Q : SR → Store → Prop} : ∀ {ds : List D} {e : Env} {st : Store} (I : List D → Env → Store → Prop), I ds e st →
    (∀ d ds e st, I (d :: ds) e st → ∃ e1 s1, g d e st = some (e1, s1) ∧ WS b e1 s1 fun r s2 => match r with
      | .nx e2 => I ds (wipe e2 vs) s2
      | .ct e2 => I ds (wipe e2 vs) s2
      | .bk e2 => Q (.nx (wipe e2 vs)) s2
      | r => Q r s2) → (∀ e st, I [] e st → Q (.nx e) st) → WS (forL g vs b ds) e st Q
  | [], e, st, I, h0, _, hd => ⟨_, _, rfl, hd e st h0⟩
  | d :: ds, e, st, I, h0, hs, hd => by
    obtain ⟨e1, s1, h1, r, s2, h2, q⟩ := hs d ds e st h0
    unfold WS forL
    rw [h1]
    dsimp only
    rw [h2]
    cases r with
    | nx e2 => exact w_forL I q hs hd
    | ct e2 => exact w_forL I q hs hd
    | bk e2 => exact ⟨_, _, rfl, q⟩
    | rt d => exact ⟨_, _, rfl, q⟩
    | ex x e => exact ⟨_, _, rfl, q⟩
theorem w_for {it : Act (List D)} {g : Tg} {vs : List Nat} {b : Sx} {Q : SR → Store → Prop} (h : WE it e st fun ds s1 => WS (forL g vs b ds) (wipe e vs) s1 Q) : WS (sFor it g vs b) e st Q := by
  obtain ⟨ds, s1, h1, q⟩ := h
  unfold WS sFor
  rw [h1]
  exact q
/-- a while, by a measure -/
theorem w_while {c : Tx} {vs : List Nat} {b : Sx} {Q : SR → Store → Prop} (I : Nat → Env → Store → Prop) (m : Nat) (h0 : I m (wipe e vs) st)
    (hs : ∀ m e st, I m e st → WE c e st fun k s1 => (k = false → Q (.nx e) s1) ∧ (k = true → WS b e s1 fun r s2 => match r with
      | .nx e2 => ∃ m', m' < m ∧ I m' (wipe e2 vs) s2
      | .ct e2 => ∃ m', m' < m ∧ I m' (wipe e2 vs) s2
      | .bk e2 => Q (.nx (wipe e2 vs)) s2
      | r => Q r s2)) : WS (sWhile c vs b) e st Q := by
  have go : ∀ (n m : Nat) (e : Env) (st : Store), m < n → I m e st → ∃ k r st', whileN c vs b k e st = some (r, st') ∧ Q r st' := by
    intro n
    induction n with
    | zero => intro m e st h; omega
    | succ n ih =>
      intro m e st hm hi
      obtain ⟨k, s1, h1, q1, q2⟩ := hs m e st hi
      cases k with
      | false => exact ⟨1, .nx e, s1, by unfold whileN; rw [h1], q1 rfl⟩
      | true =>
        obtain ⟨r, s2, h2, q⟩ := q2 rfl
        cases r with
        | nx e2 =>
          obtain ⟨m', hm', hi'⟩ := q
          obtain ⟨k, r, st', h3, q⟩ := ih m' _ _ (by omega) hi'
          exact ⟨k + 1, r, st', by unfold whileN; rw [h1]; dsimp only; rw [h2]; exact h3, q⟩
        | ct e2 =>
          obtain ⟨m', hm', hi'⟩ := q
          obtain ⟨k, r, st', h3, q⟩ := ih m' _ _ (by omega) hi'
          exact ⟨k + 1, r, st', by unfold whileN; rw [h1]; dsimp only; rw [h2]; exact h3, q⟩
        | bk e2 => exact ⟨1, _, s2, by unfold whileN; rw [h1]; dsimp only; rw [h2], q⟩
        | rt d => exact ⟨1, _, s2, by unfold whileN; rw [h1]; dsimp only; rw [h2], q⟩
        | ex x e => exact ⟨1, _, s2, by unfold whileN; rw [h1]; dsimp only; rw [h2], q⟩
  obtain ⟨k, r, st', h, q⟩ := go (m + 1) m _ _ (Nat.lt_succ_self m) h0
  exact ⟨r, st', sWhile_iff.mpr ⟨k, h⟩, q⟩
/-- a comprehension: R tells what each item gives -/
theorem compL_all {g : Tg} {c : Tx} {y : Ex} {e : Env} (I : Store → Prop) (P : D → Prop) : ∀ {ds : List D} {st : Store}, I st → (∀ d ∈ ds, ∀ st, I st → ∃ e1 s1, g d e st = some (e1, s1) ∧ WE c e1 s1 fun k s2 => (k = true → WE y e1 s2 fun v s3 => P v ∧ I s3) ∧ (k = false → I s2)) →
    ∃ ys s', compL g c y ds e st = some (ys, s') ∧ (∀ v ∈ ys, P v) ∧ I s' ∧ ys.length ≤ ds.length
  | [], st, h0, _ => ⟨[], st, rfl, by simp, h0, Nat.le_refl _⟩
  | d :: ds, st, h0, hs => by
    obtain ⟨e1, s1, h1, k, s2, h2, q1, q2⟩ := hs d (by simp) st h0
    unfold compL
    rw [h1]
    dsimp only
    rw [h2]
    cases k with
    | true =>
      obtain ⟨v, s3, h3, pv, i3⟩ := q1 rfl
      dsimp only
      rw [h3]
      obtain ⟨ys, s', h4, a1, a2, a3⟩ := compL_all I P i3 fun d hd => hs d (List.mem_cons_of_mem _ hd)
      exact ⟨v :: ys, s', by dsimp only; rw [h4], fun w hw => by
        rcases List.mem_cons.mp hw with z | z
        · rw [z]; exact pv
        · exact a1 w z, a2, by simpa using a3⟩
    | false =>
      obtain ⟨ys, s', h4, a1, a2, a3⟩ := compL_all I P (q2 rfl) fun d hd => hs d (List.mem_cons_of_mem _ hd)
      exact ⟨ys, s', h4, a1, a2, Nat.le_succ_of_le a3⟩
/-- a comprehension without effects: f d is what d gives, if anything -/
theorem compL_pure {g : Tg} {c : Tx} {y : Ex} {e : Env} {st : Store} (f : D → Option D) : ∀ {ds : List D}, (∀ d ∈ ds, ∃ e1, g d e st = some (e1, st) ∧ WE c e1 st fun k s2 => s2 = st ∧ (k = true → WE y e1 st fun v s3 => s3 = st ∧ f d = some v) ∧ (k = false → f d = none)) →
    compL g c y ds e st = some (ds.filterMap f, st)
  | [], _ => rfl
  | d :: ds, hs => by
    obtain ⟨e1, h1, k, s2, h2, rfl, q1, q2⟩ := hs d (by simp)
    have ih := compL_pure f (ds := ds) fun d hd => hs d (List.mem_cons_of_mem _ hd)
    unfold compL
    rw [h1]
    dsimp only
    rw [h2]
    cases k with
    | true =>
      obtain ⟨v, s3, h3, rfl, fv⟩ := q1 rfl
      dsimp only
      rw [h3]
      dsimp only
      rw [ih, List.filterMap_cons, fv]
    | false =>
      dsimp only
      rw [ih, List.filterMap_cons, q2 rfl]
end
/-- a comprehension over coded items, without effects -/
theorem compL_filter {α : Type} {g : Tg} {c : Tx} {y : Ex} {e : Env} {st : Store} (i o : α → D) (p : α → Bool) : ∀ {xs : List α}, (∀ x ∈ xs, ∃ e1, g (i x) e st = some (e1, st) ∧ WE c e1 st (fun k s => k = p x ∧ s = st) ∧ (p x = true → WE y e1 st fun v s => v = o x ∧ s = st)) →
    compL g c y (xs.map i) e st = some ((xs.filter p).map o, st)
  | [], _ => rfl
  | x :: xs, h => by
    obtain ⟨e1, h1, ⟨k, s1, h2, rfl, rfl⟩, h3⟩ := h x (by simp)
    have ih := compL_filter i o p (xs := xs) fun x hx => h x (List.mem_cons_of_mem _ hx)
    rw [List.map_cons]
    unfold compL
    rw [h1]
    dsimp only
    rw [h2]
    cases hp : p x with
    | true =>
      obtain ⟨v, s2, h4, rfl, rfl⟩ := h3 hp
      dsimp only
      rw [h4]
      dsimp only
      rw [ih, List.filter_cons_of_pos hp, List.map_cons]
    | false =>
      dsimp only
      rw [ih, List.filter_cons_of_neg (by simp [hp])]
theorem compL_map {α : Type} {g : Tg} {y : Ex} {e : Env} {st : Store} (i o : α → D) {xs : List α} (h : ∀ x ∈ xs, ∃ e1, g (i x) e st = some (e1, st) ∧ WE y e1 st fun v s => v = o x ∧ s = st) : compL g tYes y (xs.map i) e st = some (xs.map o, st) := by
  have := compL_filter (c := tYes) (y := y) (g := g) (e := e) (st := st) i o (fun _ => true) (xs := xs) fun x hx => by
    obtain ⟨e1, h1, h2⟩ := h x hx
    exact ⟨e1, h1, ⟨true, st, rfl, rfl, rfl⟩, fun _ => h2⟩
  rw [this, List.filter_eq_self.mpr (by intro _ _; rfl)]
theorem compL_mapD {g : Tg} {y : Ex} {e : Env} {st : Store} (o : D → D) {xs : List D} (h : ∀ x ∈ xs, ∃ e1, g x e st = some (e1, st) ∧ WE y e1 st fun v s => v = o x ∧ s = st) : compL g tYes y xs e st = some (xs.map o, st) := by
  have := compL_map (g := g) (y := y) (e := e) (st := st) id o (xs := xs) h
  rwa [List.map_id] at this
theorem compL_filterD {g : Tg} {c : Tx} {y : Ex} {e : Env} {st : Store} (o : D → D) (p : D → Bool) {xs : List D} (h : ∀ x ∈ xs, ∃ e1, g x e st = some (e1, st) ∧ WE c e1 st (fun k s => k = p x ∧ s = st) ∧ (p x = true → WE y e1 st fun v s => v = o x ∧ s = st)) :
    compL g c y xs e st = some ((xs.filter p).map o, st) := by
  have := compL_filter (g := g) (c := c) (y := y) (e := e) (st := st) id o p (xs := xs) h
  rwa [List.map_id] at this
/-- a dict of what is walked: each item a key -/
theorem compD_keys {g : Tg} {k y : Ex} {e : Env} {st : Store} (o : D) : ∀ {xs : List D} {acc : List (D × D)}, (∀ x ∈ xs, ∃ e1, g x e st = some (e1, st) ∧ isKey x = true ∧ WE k e1 st (fun v s => v = x ∧ s = st) ∧ WE y e1 st fun v s => v = o ∧ s = st) →
    compD g tYes k y xs e st acc = some (xs.foldl (fun acc x => putKv acc x o) acc, st)
  | [], _, _ => rfl
  | x :: xs, acc, h => by
    obtain ⟨e1, h1, hk, ⟨v, s, h2, rfl, rfl⟩, ⟨w, s', h3, rfl, rfl⟩⟩ := h x (by simp)
    unfold compD
    rw [h1]
    dsimp only
    have : tYes e1 s' = some (.ok true, s') := rfl
    rw [this]
    dsimp only
    rw [h2]
    dsimp only
    rw [if_pos hk, h3]
    exact compD_keys (o := w) fun x hx => h x (List.mem_cons_of_mem _ hx)
theorem w_dc {it : Act (List D)} {g : Tg} {vs : List Nat} {c : Tx} {k y : Ex} {e : Env} {st : Store} {Q : D → Store → Prop} (h : WE it e st fun ds s1 => ∃ kvs s2, compD g c k y ds (wipe e vs) s1 [] = some (kvs, s2) ∧ Q (.loc s2.length) (s2 ++ [.dct kvs])) : WE (eDc it g vs c k y) e st Q :=
  w_bind (h.mono fun ds s1 ⟨ys, s2, h1, q⟩ => ⟨_, s2 ++ [.dct ys], by dsimp only; rw [h1], q⟩)
/-- each thing once, at its first place -/
def once {α : Type} [DecidableEq α] (xs : List α) : List α := xs.foldl (fun acc x => if x ∈ acc then acc else acc ++ [x]) []
section
variable {α : Type} [DecidableEq α]
theorem once_len : ∀ (xs acc : List α), acc.Nodup → (xs.foldl (fun acc x => if x ∈ acc then acc else acc ++ [x]) acc).length ≤ acc.length + xs.length ∧ ((xs.foldl (fun acc x => if x ∈ acc then acc else acc ++ [x]) acc).length = acc.length + xs.length ↔ (acc ++ xs).Nodup)
  | [], acc, h => by simp [h]
  | x :: xs, acc, h => by
    rw [List.foldl_cons]
    by_cases hx : x ∈ acc
    · rw [if_pos hx]
      obtain ⟨h1, _⟩ := once_len xs acc h
      refine ⟨by rw [List.length_cons]; omega, fun e => by rw [List.length_cons] at e; omega, fun nd => ?_⟩
      rw [List.nodup_append] at nd
      exact absurd rfl (nd.2.2 x hx x (by simp))
    · rw [if_neg hx]
      have nd : (acc ++ [x]).Nodup := by
        rw [List.nodup_append]
        exact ⟨h, by simp, fun a ha b hb e => hx (by have : b = x := by simpa using hb
                                                     rw [← this, ← e]; exact ha)⟩
      obtain ⟨h1, h2⟩ := once_len xs (acc ++ [x]) nd
      rw [List.length_append, List.length_singleton] at h1 h2
      rw [List.append_assoc, List.singleton_append] at h2
      rw [List.length_cons]
      exact ⟨by omega, by rw [← h2]; omega⟩
theorem once_nodup (xs : List α) : (once xs).length = xs.length ↔ xs.Nodup := by
  have := (once_len xs [] List.nodup_nil).2
  unfold once
  simpa using this
theorem once_mem (xs : List α) : ∀ (acc : List α) (k : α), k ∈ xs.foldl (fun acc x => if x ∈ acc then acc else acc ++ [x]) acc ↔ k ∈ acc ∨ k ∈ xs := by
  induction xs with
  | nil => intro acc k; simp
  | cons x xs ih =>
    intro acc k
    rw [List.foldl_cons]
    by_cases hx : x ∈ acc
    · rw [if_pos hx, ih, List.mem_cons]
      constructor
      · rintro (h | h)
        · exact .inl h
        · exact .inr (.inr h)
      · rintro (h | rfl | h)
        · exact .inl h
        · exact .inl hx
        · exact .inr h
    · rw [if_neg hx, ih, List.mem_append, List.mem_singleton, List.mem_cons, or_assoc]
theorem once_nd (xs : List α) : ∀ (acc : List α), acc.Nodup → (xs.foldl (fun acc x => if x ∈ acc then acc else acc ++ [x]) acc).Nodup := by
  induction xs with
  | nil => intro acc h; exact h
  | cons x xs ih =>
    intro acc h
    rw [List.foldl_cons]
    by_cases hx : x ∈ acc
    · rw [if_pos hx]; exact ih acc h
    · rw [if_neg hx]
      refine ih _ ?_
      rw [List.nodup_append]
      exact ⟨h, by simp, fun a ha b hb e => hx (by have : b = x := by simpa using hb
                                                   rw [← this, ← e]; exact ha)⟩
theorem once_mem' (xs : List α) (k : α) : k ∈ once xs ↔ k ∈ xs := by
  unfold once
  rw [once_mem]; simp
theorem once_nd' (xs : List α) : (once xs).Nodup := once_nd xs [] List.nodup_nil
theorem keys_put (i : α → D) (hi : ∀ a b, keyEq (i a) (i b) = decide (a = b)) (o : D) : ∀ (xs : List α) (acc : List (D × D)) (ks : List α), acc.map (·.1) = ks.map i →
    ((xs.map i).foldl (fun acc x => putKv acc x o) acc).map (·.1) = (xs.foldl (fun acc x => if x ∈ acc then acc else acc ++ [x]) ks).map i
  | [], acc, ks, h => h
  | x :: xs, acc, ks, h => by
    rw [List.map_cons, List.foldl_cons, List.foldl_cons]
    refine keys_put i hi o xs _ _ ?_
    have ha : (acc.any fun p => keyEq p.1 (i x)) = decide (x ∈ ks) := by
      have e1 : (acc.any fun p => keyEq p.1 (i x)) = (acc.map (·.1)).any fun y => keyEq y (i x) := by rw [List.any_map]; rfl
      rw [e1, h, List.any_map]
      have e2 : ((fun y => keyEq y (i x)) ∘ i) = fun a => decide (a = x) := by funext a; exact hi a x
      rw [e2]
      by_cases hx : x ∈ ks
      · rw [decide_eq_true hx, List.any_eq_true]
        exact ⟨x, hx, decide_eq_true rfl⟩
      · rw [decide_eq_false hx, List.any_eq_false]
        intro a ha he
        exact hx (of_decide_eq_true he ▸ ha)
    unfold putKv
    rw [ha]
    by_cases hx : x ∈ ks
    · rw [decide_eq_true hx, if_pos rfl, if_pos hx, ← h, List.map_map]
      apply List.map_congr_left
      intro p _
      show (if keyEq p.1 (i x) = true then (p.1, o) else p).1 = p.1
      split <;> rfl
    · rw [decide_eq_false hx, if_neg (by decide), if_neg hx, List.map_append, List.map_append, h]
      rfl
theorem dict_keys (i : α → D) (hi : ∀ a b, keyEq (i a) (i b) = decide (a = b)) (o : D) (xs : List α) : ((xs.map i).foldl (fun acc x => putKv acc x o) []).map (·.1) = (once xs).map i := keys_put i hi o xs [] [] rfl
end
/-- neighbours rise -/
def adjI (ns : List Int) : Bool := (ns.zip (ns.drop 1)).all fun p => decide (p.1 < p.2)
theorem adjI_iff : ∀ ns : List Int, adjI ns = true ↔ ns.Pairwise (· < ·)
  | [] => by simp [adjI]
  | [a] => by simp [adjI]
  | a :: b :: r => by
    have ih := adjI_iff (b :: r)
    have e : adjI (a :: b :: r) = (decide (a < b) && adjI (b :: r)) := rfl
    rw [e, Bool.and_eq_true, decide_eq_true_eq, ih, List.pairwise_cons (a := a)]
    constructor
    · rintro ⟨h1, h2⟩
      refine ⟨fun y hy => ?_, h2⟩
      rcases List.mem_cons.mp hy with rfl | h
      · exact h1
      · have := (List.pairwise_cons.mp h2).1 y h
        omega
    · rintro ⟨h1, h2⟩
      exact ⟨h1 b (by simp), h2⟩
theorem adj_sort (ns : List Int) : decide (ns = sortI (once ns)) = adjI ns := by
  have key : ns = sortI (once ns) ↔ adjI ns = true := by
    rw [adjI_iff]
    constructor
    · intro h
      have h1 := sortI_sorted (once ns)
      have h2 : (sortI (once ns)).Nodup := (sortI_perm _).nodup_iff.mpr (once_nd' ns)
      rw [h]
      generalize sortI (once ns) = m at h1 h2
      clear h
      induction m with
      | nil => exact .nil
      | cons x m ih =>
        obtain ⟨a1, a2⟩ := List.pairwise_cons.mp h1
        obtain ⟨b1, b2⟩ := List.nodup_cons.mp h2
        refine List.pairwise_cons.mpr ⟨fun y hy => ?_, ih a2 b2⟩
        have := a1 y hy
        have : x ≠ y := fun z => b1 (z ▸ hy)
        omega
    · intro h
      have nd : ns.Nodup := h.imp fun h => by omega
      exact sortI_eq ((List.perm_ext_iff_of_nodup nd (once_nd' ns)).mpr fun k => (once_mem' ns k).symm) (h.imp fun h => by omega)
  by_cases h : ns = sortI (once ns)
  · rw [decide_eq_true h, key.mp h]
  · rw [decide_eq_false h]
    exact (Bool.eq_false_iff.mpr fun z => h (key.mpr z)).symm
theorem ints_map (ns : List Int) : ints? (ns.map D.int) = some ns := by
  induction ns with
  | nil => rfl
  | cons n ns ih => rw [List.map_cons]; unfold ints?; rw [ih]; rfl
theorem eq_ints {st : Store} (ns ms : List Int) : vEq st (.lst (ns.map D.int)) (.lst (ms.map D.int)) = some (.bl (decide (ns = ms))) := by
  have ok : ∀ ns : List Int, (D.lst (ns.map D.int)).ok = true := fun ns => by
    show (ns.map D.int).all (okd 59) = true
    rw [List.all_map, List.all_eq_true]
    intro _ _; rfl
  unfold vEq
  have e : ∀ ns : List Int, see st (.lst (ns.map D.int)) = .lst (ns.map D.int) := fun _ => rfl
  rw [e, e, ok, ok]
  have : (D.lst (ns.map D.int)).eqv (.lst (ms.map D.int)) = decide (ns = ms) := by
    show ((ns.map D.int).length == (ms.map D.int).length && ((ns.map D.int).zip (ms.map D.int)).all fun p => eqn 59 p.1 p.2) = _
    induction ns generalizing ms with
    | nil => cases ms <;> rfl
    | cons n ns ih =>
      cases ms with
      | nil => rfl
      | cons m ms =>
        have ih := ih ms
        rw [List.map_cons, List.map_cons, List.length_cons, List.length_cons, List.zip_cons_cons, List.all_cons]
        have e1 : eqn 59 (.int n) (.int m) = decide (n = m) := by
          show (n == m) = _
          by_cases h : n = m <;> simp [h]
        dsimp only
        rw [e1]
        have e2 : ((ns.map D.int).length + 1 == (ms.map D.int).length + 1) = ((ns.map D.int).length == (ms.map D.int).length) := by simp
        rw [e2]
        by_cases h : n = m
        · subst h
          rw [decide_eq_true rfl, Bool.true_and, ih]
          simp
        · rw [decide_eq_false h, Bool.false_and, Bool.and_false]
          simp [h]
  rw [this]; rfl
theorem tup_nil {st : Store} {xs : List D} (h : (D.tup xs).ok = true) : vEq st (.tup xs) (.tup []) = some (.bl xs.isEmpty) := by
  unfold vEq
  have e : see st (.tup xs) = .tup xs := rfl
  rw [e, h]
  have : (D.tup xs).eqv (.tup []) = xs.isEmpty := by cases xs <;> rfl
  show some (D.bl ((D.tup xs).eqv (.tup []))) = _
  rw [this]
theorem tup_nnil {st : Store} {xs : List D} (h : (D.tup xs).ok = true) : vNe st (.tup xs) (.tup []) = some (.bl !xs.isEmpty) := by
  unfold vNe
  have e : see st (.tup xs) = .tup xs := rfl
  rw [e, h]
  have : (D.tup xs).eqv (.tup []) = xs.isEmpty := by cases xs <;> rfl
  show some (D.bl !((D.tup xs).eqv (.tup []))) = _
  rw [this]
theorem bls_map (bs : List Bool) : bls? (bs.map D.bl) = some bs := by
  induction bs with
  | nil => rfl
  | cons b bs ih => rw [List.map_cons]; unfold bls?; rw [ih]; rfl
theorem gAll_map {st : Store} (bs : List Bool) : gAll st [.lst (bs.map D.bl)] = some (.bl (bs.all id)) := by
  unfold gAll lstOf
  dsimp only
  rw [Option.bind_some, bls_map]; rfl
/-- [1 ..] == [] -/
theorem ones_nil {α : Type} {st : Store} (ys : List α) : vEq st (.lst (ys.map fun _ => .int 1)) (.lst []) = some (.bl ys.isEmpty) := by
  cases ys with
  | nil => rfl
  | cons y ys =>
    unfold vEq
    have : (see st (.lst ((y :: ys).map fun _ => D.int 1))).ok = true := by
      show ((y :: ys).map fun _ => D.int 1).all (okd 59) = true
      rw [List.all_map, List.all_eq_true]
      intro _ _; rfl
    rw [this]
    rfl
theorem filter_empty {α : Type} (p : α → Bool) (xs : List α) : (xs.filter p).isEmpty = xs.all fun x => !p x := by
  induction xs with
  | nil => rfl
  | cons x xs ih =>
    rw [List.all_cons]
    cases hp : p x with
    | true => rw [List.filter_cons_of_pos hp]; rfl
    | false => rw [List.filter_cons_of_neg (by simp [hp]), ih]; rfl
/-! ### calls -/
theorem ok_top {d : D} (h : d.ok = true) : isTop d = true := by cases d <;> first | rfl | exact h
theorem locIds_ok : ∀ {ds : List D}, (∀ d ∈ ds, D.ok d = true) → locIds ds = []
  | [], _ => rfl
  | d :: r, h => by
    have ih := locIds_ok (ds := r) fun x hx => h x (List.mem_cons_of_mem _ hx)
    have hd := h d (by simp)
    cases d <;> first | (simp [D.ok, okd] at hd; done) | (unfold locIds; exact ih)
theorem inView_ok {d : D} {ids : List Nat} (h : d.ok = true) : inView ids d = d := by
  cases d <;> first | rfl | (simp [D.ok, okd] at h)
theorem map_inView_ok {ids : List Nat} : ∀ {ds : List D}, (∀ d ∈ ds, D.ok d = true) → ds.map (inView ids) = ds
  | [], _ => rfl
  | d :: r, h => by rw [List.map_cons, inView_ok (h d (by simp)), map_inView_ok fun x hx => h x (List.mem_cons_of_mem _ hx)]
theorem outOf_ok {d : D} {ids : List Nat} {n : Nat} (h : d.ok = true) : outOf ids n d = d := by
  cases d <;> first | rfl | (simp [D.ok, okd] at h)
/-- a call without cells -/
theorem call_0 {F : Fn} {ds : List D} {st : Store} {r : D} (hd : ∀ d ∈ ds, D.ok d = true) (hF : F ds [] = some (.ok r, [])) (hr : r.ok = true) : viewCall F ds st = some (.ok r, st) := by
  unfold viewCall
  rw [locIds_ok hd]
  have e1 : ([] : List Nat).mapM (fun n => st[n]?) = some [] := rfl
  dsimp only
  rw [e1, map_inView_ok hd]
  dsimp only
  have e2 : (ds.all isTop && ([] : List Cell).all Cell.ok) = true := by
    rw [Bool.and_eq_true]
    exact ⟨List.all_eq_true.mpr fun d h => ok_top (hd d h), rfl⟩
  rw [if_pos e2, hF]
  dsimp only
  rw [if_pos (by rfl), if_pos (ok_top hr), outOf_ok hr]
  simp [putBack]
/-- a call with one cell, that comes first -/
theorem call_1 {F : Fn} {ds : List D} {st : Store} {n : Nat} {c c' : Cell} {r : D} (hn : st[n]? = some c) (hd : ∀ d ∈ ds, D.ok d = true) (hc : c.ok = true) (hF : F (.loc 0 :: ds) [c] = some (.ok r, [c'])) (hc' : c'.ok = true) (hr : r.ok = true) :
    viewCall F (.loc n :: ds) st = some (.ok r, st.set n c') := by
  have e0 : locIds (.loc n :: ds) = [n] := by
    unfold locIds
    rw [locIds_ok hd]
    rfl
  unfold viewCall
  rw [e0]
  have e1 : [n].mapM (fun n => st[n]?) = some [c] := by
    rw [List.mapM_cons, hn]; rfl
  dsimp only
  rw [e1]
  dsimp only
  have e2 : ((D.loc n :: ds).all isTop && ([c] : List Cell).all Cell.ok) = true := by
    rw [Bool.and_eq_true]
    refine ⟨List.all_eq_true.mpr fun d h => ?_, by simp [hc]⟩
    rcases List.mem_cons.mp h with z | z
    · rw [z]; rfl
    · exact ok_top (hd d z)
  have e3 : (D.loc n :: ds).map (inView [n]) = .loc 0 :: ds := by
    rw [List.map_cons, map_inView_ok hd]
    show D.loc ([n].idxOf n) :: ds = _
    simp
  rw [if_pos e2, e3, hF]
  dsimp only
  rw [if_pos (by simp [hc']), if_pos (ok_top hr), outOf_ok hr]
  simp [putBack]
/-- a def, by its body -/
theorem fn_of {n N : Nat} {b : Sx} {ds : List D} {st : Store} {Q : D → Store → Prop} (hl : ds.length = n) (h : WS b (startE N ds) st fun r s => ∃ d, (r = .rt d ∨ (∃ e, r = .nx e ∧ d = .non)) ∧ ∃ d' s', clean st.length (.ok d) s = some (.ok d', s') ∧ Q d' s') :
    ∃ d s, fn n N b ds st = some (.ok d, s) ∧ Q d s := by
  obtain ⟨r, s, h1, d, hr, d', s', h2, q⟩ := h
  unfold fn
  rw [if_pos hl, h1]
  rcases hr with rfl | ⟨e, rfl, rfl⟩
  · exact ⟨d', s', h2, q⟩
  · exact ⟨d', s', h2, q⟩
theorem clean_ok {n : Nat} {d : D} {s : Store} (hs : (s.take n).all Cell.ok = true) (hd : d.ok = true) : clean n (.ok d) s = some (.ok d, s.take n) := by
  unfold clean
  rw [if_pos hs]
  cases d <;> first | (simp [D.ok, okd] at hd; done) | (dsimp only; rw [if_pos hd])
theorem clean_new {n m : Nat} {c : Cell} {s : Store} (hs : (s.take n).all Cell.ok = true) (hm : n ≤ m) (hc : s[m]? = some c) (ck : c.ok = true) : clean n (.ok (.loc m)) s = some (.ok (.loc n), s.take n ++ [c]) := by
  unfold clean
  rw [if_pos hs]
  dsimp only
  rw [if_neg (by omega), hc]
  dsimp only
  rw [if_pos ck]
end Sw

/-! Lib: helpers of many laws: their mirrors, and what they come to. -/
set_option linter.all false
set_option maxRecDepth 100000
set_option maxHeartbeats 4000000
namespace Sw.Lib
open PySem (Str)
noncomputable def b__law_take : Sx := (sSeq (sIf (tV (op2 vEq (op2 vIx (eVar 0) (eC (.int 0))) (eC (.int 0))))
  (sSeq (sSet 2 (op2 vIx (op2 vAdd (eSlice (op2 vIx (eVar 0) (eC (.int 3))) (pSome (op2 vIx (eVar 0) (eC (.int 2)))) pNone) (eLst (aCons (eC (.int 0)) aNil))) (eC (.int 0))))
  (sSeq (sAugS aAdd (eVar 0) (eC (.int 2)) (eC (.int 1)))
  (sSeq (sIf (tV (op2 vGe (eVar 2) (op2 vPow (eC (.int 10)) (eC (.int 18)))))
  (sAsg (eVar 2) (gSet (eVar 0) (eC (.int 0))))
  sSkip)
  (sSeq (sSet 3 (op2 vAdd (op2 vAdd (op2 vMul (op2 vIx (eVar 0) (eC (.int 1))) (eC (.int 48271))) (op2 vMod (opA gInt (aCons (eVar 2) aNil)) (eC (.int 2147483647)))) (op2 vMul (eC (.int 7919)) (op2 vIx (eVar 0) (eC (.int 2))))))
  (sAsg (op2 vMod (opA gInt (aCons (eVar 3) aNil)) (eC (.int 2147483647))) (gSet (eVar 0) (eC (.int 1))))))))
  sSkip)
  (sSeq (sIf (tV (op2 vGt (op2 vIx (eVar 0) (eC (.int 0))) (eC (.int 0))))
  (sSeq (sSet 4 (op2 vMod (opA gInt (aCons (op2 vIx (eVar 0) (eC (.int 0))) aNil)) (eVar 1)))
  (sSeq (sAsg (op2 vDiv (opA gInt (aCons (op2 vIx (eVar 0) (eC (.int 0))) aNil)) (eVar 1)) (gSet (eVar 0) (eC (.int 0))))
  (sRet (eVar 4))))
  sSkip)
  (sSeq (sSet 5 (op2 vMod (opA gInt (aCons (op2 vMul (op2 vAdd (op2 vIx (eVar 0) (eC (.int 1))) (eC (.int 1))) (eC (.int 39373))) aNil)) (eC (.int 1000000007))))
  (sSeq (sSet 6 (op2 vMod (opA gInt (aCons (op2 vMul (op2 vMod (opA gInt (aCons (op2 vMul (eVar 5) (eVar 5)) aNil)) (eC (.int 998244353))) (eC (.int 30011))) aNil)) (eC (.int 998244353))))
  (sRet (op2 vMod (opA gInt (aCons (op2 vDiv (eVar 6) (eC (.int 7))) aNil)) (eVar 1)))))))
noncomputable def F__law_take : Fn := fn 2 7 b__law_take
noncomputable def b__law_some : Sx := (sRet (op2 vIx (eVar 1) (eCall F__law_take (aCons (eVar 0) (aCons (opA gLen (aCons (eVar 1) aNil)) aNil)))))
noncomputable def F__law_some : Fn := fn 2 2 b__law_some
noncomputable def b__law_bag : Sx := (sRet (eLstC (aCons (eC (.int 0)) (aCons (eC (.int 1234567891)) (aCons (eC (.int 0)) (aCons (eLc (iSeq (eSlice (eVar 0) pNone (pSome (eC (.int 63))))) (gName 2) [1, 2] tYes (opA gAbs (aCons (eVar 2) aNil))) aNil))))))
noncomputable def F__law_bag : Fn := fn 1 3 b__law_bag
noncomputable def b__law_alike_w1 : Sx := (sSeq (sAsg (op2 vIx (eVar 2) (eVar 3)) (gTup [(gName 4), (gName 5)]))
  (sSeq (sAug 3 aAdd (eC (.int 1)))
  (sSeq (sIf (tOr (tV (op2 vNe (op1 (vIsi ["bool"]) (eVar 4)) (op1 (vIsi ["bool"]) (eVar 5)))) (tV (op2 vNe (op1 (vIsi ["str"]) (eVar 4)) (op1 (vIsi ["str"]) (eVar 5)))))
  (sRet (eC (.bl false)))
  sSkip)
  (sSeq (sIf (tV (op2 vNe (op1 (vIsi ["tuple", "list"]) (eVar 4)) (op1 (vIsi ["tuple", "list"]) (eVar 5))))
  (sRet (eC (.bl false)))
  sSkip)
  (sIf (tV (op1 (vIsi ["tuple", "list"]) (eVar 4)))
  (sSeq (sIf (tOr (tV (op2 vNe (op1 (vIsi ["tuple"]) (eVar 4)) (op1 (vIsi ["tuple"]) (eVar 5)))) (tV (op2 vNe (opA gLen (aCons (eVar 4) aNil)) (opA gLen (aCons (eVar 5) aNil)))))
  (sRet (eC (.bl false)))
  sSkip)
  (sDo (eMeth "list" mExtend (eVar 2) (aCons (op2 vZipL (eVar 4) (eVar 5)) aNil))))
  (sIf (tV (op2 vNe (eVar 4) (eVar 5)))
  (sRet (eC (.bl false)))
  sSkip))))))
noncomputable def b__law_alike_t2 : Tx := (tV (op2 vLt (eVar 3) (opA gLen (aCons (eVar 2) aNil))))
noncomputable def b__law_alike : Sx := (sSeq (sPar [gName 2, gName 3] (aCons (eLstC (aCons (eTup (aCons (eVar 0) (aCons (eVar 1) aNil))) aNil)) (aCons (eC (.int 0)) aNil)))
  (sSeq (sWhile b__law_alike_t2 [4, 5] b__law_alike_w1)
  (sRet (eC (.bl true)))))
noncomputable def F__law_alike : Fn := fn 2 6 b__law_alike
theorem vMul_right {st : Store} {i j : Int} (h : isSmall j = true) : vMul st (.int i) (.int j) = some (.int (i * j)) := by
  unfold vMul
  dsimp only
  rw [if_pos (by rw [h, Bool.or_true])]
theorem vMul_left {st : Store} {i j : Int} (h : isSmall i = true) : vMul st (.int i) (.int j) = some (.int (i * j)) := by
  unfold vMul
  dsimp only
  rw [if_pos (by rw [h, Bool.true_or])]
theorem small_of {i : Int} (h0 : 0 ≤ i) (h1 : i < 18446744073709551616) : isSmall i = true := by
  unfold isSmall
  simp only [Bool.and_eq_true, decide_eq_true_eq]
  omega
/-- the bag of a law, as a cell -/
def BagC (c : Cell) : Prop := ∃ (a b k : Int) (xs : List Int), c = .lst [.int a, .int b, .int k, .lst (xs.map D.int)] ∧ 0 ≤ a ∧ 0 ≤ b ∧ 0 ≤ k ∧ (∀ x ∈ xs, 0 ≤ x) ∧ xs.length ≤ 63
theorem okd_ints (n : Nat) (xs : List Int) : (xs.map D.int).all (okd n) = true := by
  rw [List.all_map, List.all_eq_true]
  intro x _
  cases n <;> rfl
theorem bag_ok {c : Cell} (h : BagC c) : c.ok = true := by
  obtain ⟨a, b, k, xs, rfl, _⟩ := h
  show (okd 60 (.int a) && (okd 60 (.int b) && (okd 60 (.int k) && (okd 60 (.lst (xs.map D.int)) && true)))) = true
  have : okd 60 (.lst (xs.map D.int)) = true := okd_ints 59 xs
  rw [this]; rfl
theorem first_cell (st : Store) (xs : List Int) (k : Int) (hk : 0 ≤ k) (hx : ∀ x ∈ xs, 0 ≤ x) : ∃ y, vIx st (.lst (cut (xs.map D.int) (some k) none ++ [.int 0])) (.int 0) = some (.int y) ∧ 0 ≤ y := by
  have e : cut (xs.map D.int) (some k) none = (xs.drop (min k.toNat xs.length)).map D.int := by
    unfold cut cutAt
    dsimp only
    rw [if_neg (by omega), List.length_map, ← List.map_drop, List.take_of_length_le (by simp)]
  rw [e]
  generalize hys : xs.drop (min k.toNat xs.length) = ys
  have hy : ∀ y ∈ ys, 0 ≤ y := fun y h => hx y (List.mem_of_mem_drop (by rw [hys]; exact h))
  cases ys with
  | nil => exact ⟨0, rfl, Int.le_refl 0⟩
  | cons y ys =>
    refine ⟨y, ?_, hy y (by simp)⟩
    show (ix? _ 0).bind _ = _
    unfold ix?
    rw [if_pos (by omega), if_pos (by simp; omega)]
    rfl
mutual
theorem okd_mono : ∀ {n : Nat} {d : D}, okd n d = true → okd (n + 1) d = true
  | n, .non, _ => by cases n <;> rfl
  | n, .bl _, _ => by cases n <;> rfl
  | n, .int _, _ => by cases n <;> rfl
  | n, .str _, _ => by cases n <;> rfl
  | 0, .tup _, h => by cases h
  | 0, .lst _, h => by cases h
  | n + 1, .tup xs, h => okd_monos (n := n) xs h
  | n + 1, .lst xs, h => okd_monos (n := n) xs h
  | n, .loc _, h => by cases n <;> cases h
  | n, .scr _, h => by cases n <;> cases h
  | n, .par _, h => by cases n <;> cases h
theorem okd_monos : ∀ {n : Nat} (xs : List D), xs.all (okd n) = true → xs.all (okd (n + 1)) = true
  | _, [], _ => rfl
  | n, x :: xs, h => by
    rw [List.all_cons, Bool.and_eq_true] at h ⊢
    exact ⟨okd_mono h.1, okd_monos xs h.2⟩
end
theorem okd_up {d : D} (h : okd 59 d = true) : d.ok = true := okd_mono h
theorem take_spec {c : Cell} (h : BagC c) {many : Int} (h0 : 0 < many) (h1 : many < 1073741824) : ∃ v c', F__law_take [.loc 0, .int many] [c] = some (.ok (.int v), [c']) ∧ BagC c' ∧ 0 ≤ v ∧ v < many := by
  obtain ⟨a, b, k, xs, rfl, ha, hb, hk, hx, hl⟩ := h
  suffices hh : ∃ d s, F__law_take [.loc 0, .int many] [.lst [.int a, .int b, .int k, .lst (xs.map D.int)]] = some (.ok d, s) ∧ ∃ v c', d = .int v ∧ s = [c'] ∧ BagC c' ∧ 0 ≤ v ∧ v < many by
    obtain ⟨d, s, e, v, c', rfl, rfl, r⟩ := hh
    exact ⟨v, c', e, r⟩
  refine fn_of rfl ?_
  show WS b__law_take [some (.loc 0), some (.int many), none, none, none, none, none] [.lst [.int a, .int b, .int k, .lst (xs.map D.int)]] _
  unfold b__law_take
  refine w_then (WS.mono (Q := fun r s => ∃ (a b k : Int) (x2 x3 : Option D), r = .nx [some (.loc 0), some (.int many), x2, x3, none, none, none] ∧ s = [.lst [.int a, .int b, .int k, .lst (xs.map D.int)]] ∧ 0 ≤ a ∧ 0 ≤ b ∧ 0 ≤ k) ?_ ?_)
  · refine w_sif ?_
    (repeat (first | (with_reducible refine w_then ?_) | (with_reducible refine w_set ?_) | (with_reducible refine w_asg ?_) | (with_reducible refine w_do ?_) | (with_reducible refine w_ret ?_) | (with_reducible refine w_sif ?_) | (with_reducible refine w_par ?_) | (with_reducible refine w_skip ?_) | (with_reducible refine w_break ?_) | (with_reducible refine w_cont ?_) | (with_reducible refine w_tv ?_) | (with_reducible refine w_not ?_) | (with_reducible refine w_and ?_) | (with_reducible refine w_or ?_) | (with_reducible refine w_if ?_) | (with_reducible refine w_eand ?_) | (with_reducible refine w_eor ?_) | (with_reducible refine w_chain ?_) | (with_reducible refine w_op1 ?_) | (with_reducible refine w_enot ?_) | (with_reducible refine w_op2 ?_) | (with_reducible refine w_opA ?_) | (with_reducible refine w_opAS ?_) | (with_reducible refine w_meth ?_) | (with_reducible refine w_cons ?_) | (with_reducible refine w_nil ?_) | (with_reducible refine w_tup ?_) | (with_reducible refine w_lst ?_) | (with_reducible refine w_lstC ?_) | (with_reducible refine w_slice ?_) | (with_reducible refine w_psome ?_) | (with_reducible refine w_pnone ?_) | (with_reducible refine w_aug ?_) | (with_reducible refine w_call ?_) | (with_reducible refine w_lc ?_) | (with_reducible refine w_seqi ?_) | (with_reducible refine w_range1 ?_) | (with_reducible refine w_for ?_) | (with_reducible refine w_star ?_) | (with_reducible refine w_op2S ?_) | (with_reducible refine w_dctC ?_) | refine w_var rfl ?_ | (with_reducible refine w_c ?_) | refine ⟨_, rfl, ?_⟩ | refine ⟨Nat.le_of_ble_eq_true rfl, ?_⟩ | refine ⟨rfl, ?_⟩ | refine ⟨fun _ => ?_, fun h => absurd h.symm Bool.false_ne_true⟩ | refine ⟨fun h => absurd h Bool.false_ne_true, fun _ => ?_⟩ | refine ⟨fun _ => ?_, fun h => absurd h Bool.false_ne_true⟩ | refine ⟨fun h => absurd h.symm Bool.false_ne_true, fun _ => ?_⟩))
    refine ⟨fun _ => ?_, fun _ => ?_⟩
    · refine w_then ?_
      refine w_set ?_
      refine w_op2 ?_
      refine w_op2 ?_
      (repeat (first | (with_reducible refine w_then ?_) | (with_reducible refine w_set ?_) | (with_reducible refine w_asg ?_) | (with_reducible refine w_do ?_) | (with_reducible refine w_ret ?_) | (with_reducible refine w_sif ?_) | (with_reducible refine w_par ?_) | (with_reducible refine w_skip ?_) | (with_reducible refine w_break ?_) | (with_reducible refine w_cont ?_) | (with_reducible refine w_tv ?_) | (with_reducible refine w_not ?_) | (with_reducible refine w_and ?_) | (with_reducible refine w_or ?_) | (with_reducible refine w_if ?_) | (with_reducible refine w_eand ?_) | (with_reducible refine w_eor ?_) | (with_reducible refine w_chain ?_) | (with_reducible refine w_op1 ?_) | (with_reducible refine w_enot ?_) | (with_reducible refine w_op2 ?_) | (with_reducible refine w_opA ?_) | (with_reducible refine w_opAS ?_) | (with_reducible refine w_meth ?_) | (with_reducible refine w_cons ?_) | (with_reducible refine w_nil ?_) | (with_reducible refine w_tup ?_) | (with_reducible refine w_lst ?_) | (with_reducible refine w_lstC ?_) | (with_reducible refine w_slice ?_) | (with_reducible refine w_psome ?_) | (with_reducible refine w_pnone ?_) | (with_reducible refine w_aug ?_) | (with_reducible refine w_call ?_) | (with_reducible refine w_lc ?_) | (with_reducible refine w_seqi ?_) | (with_reducible refine w_range1 ?_) | (with_reducible refine w_for ?_) | (with_reducible refine w_star ?_) | (with_reducible refine w_op2S ?_) | (with_reducible refine w_dctC ?_) | refine w_var rfl ?_ | (with_reducible refine w_c ?_) | refine ⟨_, rfl, ?_⟩ | refine ⟨Nat.le_of_ble_eq_true rfl, ?_⟩ | refine ⟨rfl, ?_⟩ | refine ⟨fun _ => ?_, fun h => absurd h.symm Bool.false_ne_true⟩ | refine ⟨fun h => absurd h Bool.false_ne_true, fun _ => ?_⟩ | refine ⟨fun _ => ?_, fun h => absurd h Bool.false_ne_true⟩ | refine ⟨fun h => absurd h.symm Bool.false_ne_true, fun _ => ?_⟩))
      refine ⟨_, if_pos ?_, ?_⟩
      · have : (cut (xs.map D.int) (some k) none).length ≤ 63 := by
          unfold cut
          rw [List.length_take, List.length_drop, List.length_map]
          omega
        rw [PySem.sizeLine_eq]
        simp only [List.length_cons, List.length_nil]
        omega
      refine w_c ?_
      obtain ⟨y, hy, hy0⟩ := first_cell [.lst [.int a, .int b, .int k, .lst (xs.map D.int)]] xs k hk hx
      refine ⟨_, hy, ?_⟩
      refine w_then (w_augS ?_)
      (repeat (first | (with_reducible refine w_tv ?_) | (with_reducible refine w_not ?_) | (with_reducible refine w_op1 ?_) | (with_reducible refine w_enot ?_) | (with_reducible refine w_op2 ?_) | (with_reducible refine w_opA ?_) | (with_reducible refine w_opAS ?_) | (with_reducible refine w_meth ?_) | (with_reducible refine w_cons ?_) | (with_reducible refine w_nil ?_) | (with_reducible refine w_tup ?_) | (with_reducible refine w_lst ?_) | (with_reducible refine w_lstC ?_) | (with_reducible refine w_slice ?_) | (with_reducible refine w_psome ?_) | (with_reducible refine w_pnone ?_) | (with_reducible refine w_seqi ?_) | (with_reducible refine w_range1 ?_) | (with_reducible refine w_star ?_) | refine w_var rfl ?_ | (with_reducible refine w_c ?_) | refine ⟨_, rfl, ?_⟩ | refine ⟨Nat.le_of_ble_eq_true rfl, ?_⟩ | refine ⟨rfl, ?_⟩ | refine ⟨fun _ => ?_, fun h => absurd h.symm Bool.false_ne_true⟩ | refine ⟨fun h => absurd h Bool.false_ne_true, fun _ => ?_⟩ | refine ⟨fun _ => ?_, fun h => absurd h Bool.false_ne_true⟩ | refine ⟨fun h => absurd h.symm Bool.false_ne_true, fun _ => ?_⟩))
      refine w_then (WS.mono (Q := fun r s => ∃ (a : Int), r = .nx [some (.loc 0), some (.int many), some (.int y), none, none, none, none] ∧ s = [.lst [.int a, .int b, .int (k + 1), .lst (xs.map D.int)]] ∧ 0 ≤ a) ?_ ?_)
      · refine w_sif ?_
        (repeat (first | (with_reducible refine w_then ?_) | (with_reducible refine w_set ?_) | (with_reducible refine w_asg ?_) | (with_reducible refine w_do ?_) | (with_reducible refine w_ret ?_) | (with_reducible refine w_sif ?_) | (with_reducible refine w_par ?_) | (with_reducible refine w_skip ?_) | (with_reducible refine w_break ?_) | (with_reducible refine w_cont ?_) | (with_reducible refine w_tv ?_) | (with_reducible refine w_not ?_) | (with_reducible refine w_and ?_) | (with_reducible refine w_or ?_) | (with_reducible refine w_if ?_) | (with_reducible refine w_eand ?_) | (with_reducible refine w_eor ?_) | (with_reducible refine w_chain ?_) | (with_reducible refine w_op1 ?_) | (with_reducible refine w_enot ?_) | (with_reducible refine w_op2 ?_) | (with_reducible refine w_opA ?_) | (with_reducible refine w_opAS ?_) | (with_reducible refine w_meth ?_) | (with_reducible refine w_cons ?_) | (with_reducible refine w_nil ?_) | (with_reducible refine w_tup ?_) | (with_reducible refine w_lst ?_) | (with_reducible refine w_lstC ?_) | (with_reducible refine w_slice ?_) | (with_reducible refine w_psome ?_) | (with_reducible refine w_pnone ?_) | (with_reducible refine w_aug ?_) | (with_reducible refine w_call ?_) | (with_reducible refine w_lc ?_) | (with_reducible refine w_seqi ?_) | (with_reducible refine w_range1 ?_) | (with_reducible refine w_for ?_) | (with_reducible refine w_star ?_) | (with_reducible refine w_op2S ?_) | (with_reducible refine w_dctC ?_) | refine w_var rfl ?_ | (with_reducible refine w_c ?_) | refine ⟨_, rfl, ?_⟩ | refine ⟨Nat.le_of_ble_eq_true rfl, ?_⟩ | refine ⟨rfl, ?_⟩ | refine ⟨fun _ => ?_, fun h => absurd h.symm Bool.false_ne_true⟩ | refine ⟨fun h => absurd h Bool.false_ne_true, fun _ => ?_⟩ | refine ⟨fun _ => ?_, fun h => absurd h Bool.false_ne_true⟩ | refine ⟨fun h => absurd h.symm Bool.false_ne_true, fun _ => ?_⟩))
        refine ⟨fun _ => ?_, fun _ => ?_⟩
        · refine w_asg ?_
          refine w_var rfl (g_set ?_)
          (repeat (first | (with_reducible refine w_then ?_) | (with_reducible refine w_set ?_) | (with_reducible refine w_asg ?_) | (with_reducible refine w_do ?_) | (with_reducible refine w_ret ?_) | (with_reducible refine w_sif ?_) | (with_reducible refine w_par ?_) | (with_reducible refine w_skip ?_) | (with_reducible refine w_break ?_) | (with_reducible refine w_cont ?_) | (with_reducible refine w_tv ?_) | (with_reducible refine w_not ?_) | (with_reducible refine w_and ?_) | (with_reducible refine w_or ?_) | (with_reducible refine w_if ?_) | (with_reducible refine w_eand ?_) | (with_reducible refine w_eor ?_) | (with_reducible refine w_chain ?_) | (with_reducible refine w_op1 ?_) | (with_reducible refine w_enot ?_) | (with_reducible refine w_op2 ?_) | (with_reducible refine w_opA ?_) | (with_reducible refine w_opAS ?_) | (with_reducible refine w_meth ?_) | (with_reducible refine w_cons ?_) | (with_reducible refine w_nil ?_) | (with_reducible refine w_tup ?_) | (with_reducible refine w_lst ?_) | (with_reducible refine w_lstC ?_) | (with_reducible refine w_slice ?_) | (with_reducible refine w_psome ?_) | (with_reducible refine w_pnone ?_) | (with_reducible refine w_aug ?_) | (with_reducible refine w_call ?_) | (with_reducible refine w_lc ?_) | (with_reducible refine w_seqi ?_) | (with_reducible refine w_range1 ?_) | (with_reducible refine w_for ?_) | (with_reducible refine w_star ?_) | (with_reducible refine w_op2S ?_) | (with_reducible refine w_dctC ?_) | refine w_var rfl ?_ | (with_reducible refine w_c ?_) | refine ⟨_, rfl, ?_⟩ | refine ⟨Nat.le_of_ble_eq_true rfl, ?_⟩ | refine ⟨rfl, ?_⟩ | refine ⟨fun _ => ?_, fun h => absurd h.symm Bool.false_ne_true⟩ | refine ⟨fun h => absurd h Bool.false_ne_true, fun _ => ?_⟩ | refine ⟨fun _ => ?_, fun h => absurd h Bool.false_ne_true⟩ | refine ⟨fun h => absurd h.symm Bool.false_ne_true, fun _ => ?_⟩))
          exact ⟨y, rfl, rfl, hy0⟩
        · exact w_skip ⟨a, rfl, rfl, ha⟩
      · rintro r s ⟨a, rfl, rfl, ha⟩
        refine w_then (w_set ?_)
        refine w_op2 (w_op2 (w_op2 (w_op2 ?_)))
        (repeat (first | (with_reducible refine w_then ?_) | (with_reducible refine w_set ?_) | (with_reducible refine w_asg ?_) | (with_reducible refine w_do ?_) | (with_reducible refine w_ret ?_) | (with_reducible refine w_sif ?_) | (with_reducible refine w_par ?_) | (with_reducible refine w_skip ?_) | (with_reducible refine w_break ?_) | (with_reducible refine w_cont ?_) | (with_reducible refine w_tv ?_) | (with_reducible refine w_not ?_) | (with_reducible refine w_and ?_) | (with_reducible refine w_or ?_) | (with_reducible refine w_if ?_) | (with_reducible refine w_eand ?_) | (with_reducible refine w_eor ?_) | (with_reducible refine w_chain ?_) | (with_reducible refine w_op1 ?_) | (with_reducible refine w_enot ?_) | (with_reducible refine w_op2 ?_) | (with_reducible refine w_opA ?_) | (with_reducible refine w_opAS ?_) | (with_reducible refine w_meth ?_) | (with_reducible refine w_cons ?_) | (with_reducible refine w_nil ?_) | (with_reducible refine w_tup ?_) | (with_reducible refine w_lst ?_) | (with_reducible refine w_lstC ?_) | (with_reducible refine w_slice ?_) | (with_reducible refine w_psome ?_) | (with_reducible refine w_pnone ?_) | (with_reducible refine w_aug ?_) | (with_reducible refine w_call ?_) | (with_reducible refine w_lc ?_) | (with_reducible refine w_seqi ?_) | (with_reducible refine w_range1 ?_) | (with_reducible refine w_for ?_) | (with_reducible refine w_star ?_) | (with_reducible refine w_op2S ?_) | (with_reducible refine w_dctC ?_) | refine w_var rfl ?_ | (with_reducible refine w_c ?_) | refine ⟨_, rfl, ?_⟩ | refine ⟨Nat.le_of_ble_eq_true rfl, ?_⟩ | refine ⟨rfl, ?_⟩ | refine ⟨fun _ => ?_, fun h => absurd h.symm Bool.false_ne_true⟩ | refine ⟨fun h => absurd h Bool.false_ne_true, fun _ => ?_⟩ | refine ⟨fun _ => ?_, fun h => absurd h Bool.false_ne_true⟩ | refine ⟨fun h => absurd h.symm Bool.false_ne_true, fun _ => ?_⟩))
        refine ⟨_, vMul_right (by decide), ?_⟩
        (repeat (first | (with_reducible refine w_then ?_) | (with_reducible refine w_set ?_) | (with_reducible refine w_asg ?_) | (with_reducible refine w_do ?_) | (with_reducible refine w_ret ?_) | (with_reducible refine w_sif ?_) | (with_reducible refine w_par ?_) | (with_reducible refine w_skip ?_) | (with_reducible refine w_break ?_) | (with_reducible refine w_cont ?_) | (with_reducible refine w_tv ?_) | (with_reducible refine w_not ?_) | (with_reducible refine w_and ?_) | (with_reducible refine w_or ?_) | (with_reducible refine w_if ?_) | (with_reducible refine w_eand ?_) | (with_reducible refine w_eor ?_) | (with_reducible refine w_chain ?_) | (with_reducible refine w_op1 ?_) | (with_reducible refine w_enot ?_) | (with_reducible refine w_op2 ?_) | (with_reducible refine w_opA ?_) | (with_reducible refine w_opAS ?_) | (with_reducible refine w_meth ?_) | (with_reducible refine w_cons ?_) | (with_reducible refine w_nil ?_) | (with_reducible refine w_tup ?_) | (with_reducible refine w_lst ?_) | (with_reducible refine w_lstC ?_) | (with_reducible refine w_slice ?_) | (with_reducible refine w_psome ?_) | (with_reducible refine w_pnone ?_) | (with_reducible refine w_aug ?_) | (with_reducible refine w_call ?_) | (with_reducible refine w_lc ?_) | (with_reducible refine w_seqi ?_) | (with_reducible refine w_range1 ?_) | (with_reducible refine w_for ?_) | (with_reducible refine w_star ?_) | (with_reducible refine w_op2S ?_) | (with_reducible refine w_dctC ?_) | refine w_var rfl ?_ | (with_reducible refine w_c ?_) | refine ⟨_, rfl, ?_⟩ | refine ⟨Nat.le_of_ble_eq_true rfl, ?_⟩ | refine ⟨rfl, ?_⟩ | refine ⟨fun _ => ?_, fun h => absurd h.symm Bool.false_ne_true⟩ | refine ⟨fun h => absurd h Bool.false_ne_true, fun _ => ?_⟩ | refine ⟨fun _ => ?_, fun h => absurd h Bool.false_ne_true⟩ | refine ⟨fun h => absurd h.symm Bool.false_ne_true, fun _ => ?_⟩))
        refine g_set ?_
        (repeat (first | (with_reducible refine w_then ?_) | (with_reducible refine w_set ?_) | (with_reducible refine w_asg ?_) | (with_reducible refine w_do ?_) | (with_reducible refine w_ret ?_) | (with_reducible refine w_sif ?_) | (with_reducible refine w_par ?_) | (with_reducible refine w_skip ?_) | (with_reducible refine w_break ?_) | (with_reducible refine w_cont ?_) | (with_reducible refine w_tv ?_) | (with_reducible refine w_not ?_) | (with_reducible refine w_and ?_) | (with_reducible refine w_or ?_) | (with_reducible refine w_if ?_) | (with_reducible refine w_eand ?_) | (with_reducible refine w_eor ?_) | (with_reducible refine w_chain ?_) | (with_reducible refine w_op1 ?_) | (with_reducible refine w_enot ?_) | (with_reducible refine w_op2 ?_) | (with_reducible refine w_opA ?_) | (with_reducible refine w_opAS ?_) | (with_reducible refine w_meth ?_) | (with_reducible refine w_cons ?_) | (with_reducible refine w_nil ?_) | (with_reducible refine w_tup ?_) | (with_reducible refine w_lst ?_) | (with_reducible refine w_lstC ?_) | (with_reducible refine w_slice ?_) | (with_reducible refine w_psome ?_) | (with_reducible refine w_pnone ?_) | (with_reducible refine w_aug ?_) | (with_reducible refine w_call ?_) | (with_reducible refine w_lc ?_) | (with_reducible refine w_seqi ?_) | (with_reducible refine w_range1 ?_) | (with_reducible refine w_for ?_) | (with_reducible refine w_star ?_) | (with_reducible refine w_op2S ?_) | (with_reducible refine w_dctC ?_) | refine w_var rfl ?_ | (with_reducible refine w_c ?_) | refine ⟨_, rfl, ?_⟩ | refine ⟨Nat.le_of_ble_eq_true rfl, ?_⟩ | refine ⟨rfl, ?_⟩ | refine ⟨fun _ => ?_, fun h => absurd h.symm Bool.false_ne_true⟩ | refine ⟨fun h => absurd h Bool.false_ne_true, fun _ => ?_⟩ | refine ⟨fun _ => ?_, fun h => absurd h Bool.false_ne_true⟩ | refine ⟨fun h => absurd h.symm Bool.false_ne_true, fun _ => ?_⟩))
        exact ⟨a, _, k + 1, _, _, rfl, rfl, ha, Int.emod_nonneg _ (by decide), by omega⟩
    · exact w_skip ⟨a, b, k, none, none, rfl, rfl, ha, hb, hk⟩
  · rintro r s ⟨a, b, k, x2, x3, rfl, rfl, ha, hb, hk⟩
    have bag : ∀ a, 0 ≤ a → BagC (.lst [.int a, .int b, .int k, .lst (xs.map D.int)]) := fun a ha => ⟨a, b, k, xs, rfl, ha, hb, hk, hx, hl⟩
    have fin : ∀ (v a : Int), 0 ≤ a → 0 ≤ v → v < many → ∃ d, (SR.rt (.int v) = .rt d ∨ (∃ e, SR.rt (.int v) = .nx e ∧ d = .non)) ∧ ∃ d' s', clean 1 (.ok d) [.lst [.int a, .int b, .int k, .lst (xs.map D.int)]] = some (.ok d', s') ∧ ∃ v c', d' = .int v ∧ s' = [c'] ∧ BagC c' ∧ 0 ≤ v ∧ v < many := fun v a ha hv hv2 =>
      ⟨_, .inl rfl, _, _, clean_ok (by simp [bag_ok (bag a ha)]) rfl, v, _, rfl, rfl, bag a ha, hv, hv2⟩
    refine w_then ?_
    refine w_sif ?_
    (repeat (first | (with_reducible refine w_then ?_) | (with_reducible refine w_set ?_) | (with_reducible refine w_asg ?_) | (with_reducible refine w_do ?_) | (with_reducible refine w_ret ?_) | (with_reducible refine w_sif ?_) | (with_reducible refine w_par ?_) | (with_reducible refine w_skip ?_) | (with_reducible refine w_break ?_) | (with_reducible refine w_cont ?_) | (with_reducible refine w_tv ?_) | (with_reducible refine w_not ?_) | (with_reducible refine w_and ?_) | (with_reducible refine w_or ?_) | (with_reducible refine w_if ?_) | (with_reducible refine w_eand ?_) | (with_reducible refine w_eor ?_) | (with_reducible refine w_chain ?_) | (with_reducible refine w_op1 ?_) | (with_reducible refine w_enot ?_) | (with_reducible refine w_op2 ?_) | (with_reducible refine w_opA ?_) | (with_reducible refine w_opAS ?_) | (with_reducible refine w_meth ?_) | (with_reducible refine w_cons ?_) | (with_reducible refine w_nil ?_) | (with_reducible refine w_tup ?_) | (with_reducible refine w_lst ?_) | (with_reducible refine w_lstC ?_) | (with_reducible refine w_slice ?_) | (with_reducible refine w_psome ?_) | (with_reducible refine w_pnone ?_) | (with_reducible refine w_aug ?_) | (with_reducible refine w_call ?_) | (with_reducible refine w_lc ?_) | (with_reducible refine w_seqi ?_) | (with_reducible refine w_range1 ?_) | (with_reducible refine w_for ?_) | (with_reducible refine w_star ?_) | (with_reducible refine w_op2S ?_) | (with_reducible refine w_dctC ?_) | refine w_var rfl ?_ | (with_reducible refine w_c ?_) | refine ⟨_, rfl, ?_⟩ | refine ⟨Nat.le_of_ble_eq_true rfl, ?_⟩ | refine ⟨rfl, ?_⟩ | refine ⟨fun _ => ?_, fun h => absurd h.symm Bool.false_ne_true⟩ | refine ⟨fun h => absurd h Bool.false_ne_true, fun _ => ?_⟩ | refine ⟨fun _ => ?_, fun h => absurd h Bool.false_ne_true⟩ | refine ⟨fun h => absurd h.symm Bool.false_ne_true, fun _ => ?_⟩))
    refine ⟨fun hp => ?_, fun _ => ?_⟩
    · have hp : 0 < a := of_decide_eq_true hp
      refine w_then (w_set (w_op2 ?_))
      (repeat (first | (with_reducible refine w_then ?_) | (with_reducible refine w_set ?_) | (with_reducible refine w_asg ?_) | (with_reducible refine w_do ?_) | (with_reducible refine w_ret ?_) | (with_reducible refine w_sif ?_) | (with_reducible refine w_par ?_) | (with_reducible refine w_skip ?_) | (with_reducible refine w_break ?_) | (with_reducible refine w_cont ?_) | (with_reducible refine w_tv ?_) | (with_reducible refine w_not ?_) | (with_reducible refine w_and ?_) | (with_reducible refine w_or ?_) | (with_reducible refine w_if ?_) | (with_reducible refine w_eand ?_) | (with_reducible refine w_eor ?_) | (with_reducible refine w_chain ?_) | (with_reducible refine w_op1 ?_) | (with_reducible refine w_enot ?_) | (with_reducible refine w_op2 ?_) | (with_reducible refine w_opA ?_) | (with_reducible refine w_opAS ?_) | (with_reducible refine w_meth ?_) | (with_reducible refine w_cons ?_) | (with_reducible refine w_nil ?_) | (with_reducible refine w_tup ?_) | (with_reducible refine w_lst ?_) | (with_reducible refine w_lstC ?_) | (with_reducible refine w_slice ?_) | (with_reducible refine w_psome ?_) | (with_reducible refine w_pnone ?_) | (with_reducible refine w_aug ?_) | (with_reducible refine w_call ?_) | (with_reducible refine w_lc ?_) | (with_reducible refine w_seqi ?_) | (with_reducible refine w_range1 ?_) | (with_reducible refine w_for ?_) | (with_reducible refine w_star ?_) | (with_reducible refine w_op2S ?_) | (with_reducible refine w_dctC ?_) | refine w_var rfl ?_ | (with_reducible refine w_c ?_) | refine ⟨_, rfl, ?_⟩ | refine ⟨Nat.le_of_ble_eq_true rfl, ?_⟩ | refine ⟨rfl, ?_⟩ | refine ⟨fun _ => ?_, fun h => absurd h.symm Bool.false_ne_true⟩ | refine ⟨fun h => absurd h Bool.false_ne_true, fun _ => ?_⟩ | refine ⟨fun _ => ?_, fun h => absurd h Bool.false_ne_true⟩ | refine ⟨fun h => absurd h.symm Bool.false_ne_true, fun _ => ?_⟩))
      refine ⟨_, if_pos h0, ?_⟩
      refine w_then (w_asg (w_op2 ?_))
      (repeat (first | (with_reducible refine w_then ?_) | (with_reducible refine w_set ?_) | (with_reducible refine w_asg ?_) | (with_reducible refine w_do ?_) | (with_reducible refine w_ret ?_) | (with_reducible refine w_sif ?_) | (with_reducible refine w_par ?_) | (with_reducible refine w_skip ?_) | (with_reducible refine w_break ?_) | (with_reducible refine w_cont ?_) | (with_reducible refine w_tv ?_) | (with_reducible refine w_not ?_) | (with_reducible refine w_and ?_) | (with_reducible refine w_or ?_) | (with_reducible refine w_if ?_) | (with_reducible refine w_eand ?_) | (with_reducible refine w_eor ?_) | (with_reducible refine w_chain ?_) | (with_reducible refine w_op1 ?_) | (with_reducible refine w_enot ?_) | (with_reducible refine w_op2 ?_) | (with_reducible refine w_opA ?_) | (with_reducible refine w_opAS ?_) | (with_reducible refine w_meth ?_) | (with_reducible refine w_cons ?_) | (with_reducible refine w_nil ?_) | (with_reducible refine w_tup ?_) | (with_reducible refine w_lst ?_) | (with_reducible refine w_lstC ?_) | (with_reducible refine w_slice ?_) | (with_reducible refine w_psome ?_) | (with_reducible refine w_pnone ?_) | (with_reducible refine w_aug ?_) | (with_reducible refine w_call ?_) | (with_reducible refine w_lc ?_) | (with_reducible refine w_seqi ?_) | (with_reducible refine w_range1 ?_) | (with_reducible refine w_for ?_) | (with_reducible refine w_star ?_) | (with_reducible refine w_op2S ?_) | (with_reducible refine w_dctC ?_) | refine w_var rfl ?_ | (with_reducible refine w_c ?_) | refine ⟨_, rfl, ?_⟩ | refine ⟨Nat.le_of_ble_eq_true rfl, ?_⟩ | refine ⟨rfl, ?_⟩ | refine ⟨fun _ => ?_, fun h => absurd h.symm Bool.false_ne_true⟩ | refine ⟨fun h => absurd h Bool.false_ne_true, fun _ => ?_⟩ | refine ⟨fun _ => ?_, fun h => absurd h Bool.false_ne_true⟩ | refine ⟨fun h => absurd h.symm Bool.false_ne_true, fun _ => ?_⟩))
      refine ⟨_, if_pos ⟨h0, h1⟩, ?_⟩
      refine g_set ?_
      (repeat (first | (with_reducible refine w_then ?_) | (with_reducible refine w_set ?_) | (with_reducible refine w_asg ?_) | (with_reducible refine w_do ?_) | (with_reducible refine w_ret ?_) | (with_reducible refine w_sif ?_) | (with_reducible refine w_par ?_) | (with_reducible refine w_skip ?_) | (with_reducible refine w_break ?_) | (with_reducible refine w_cont ?_) | (with_reducible refine w_tv ?_) | (with_reducible refine w_not ?_) | (with_reducible refine w_and ?_) | (with_reducible refine w_or ?_) | (with_reducible refine w_if ?_) | (with_reducible refine w_eand ?_) | (with_reducible refine w_eor ?_) | (with_reducible refine w_chain ?_) | (with_reducible refine w_op1 ?_) | (with_reducible refine w_enot ?_) | (with_reducible refine w_op2 ?_) | (with_reducible refine w_opA ?_) | (with_reducible refine w_opAS ?_) | (with_reducible refine w_meth ?_) | (with_reducible refine w_cons ?_) | (with_reducible refine w_nil ?_) | (with_reducible refine w_tup ?_) | (with_reducible refine w_lst ?_) | (with_reducible refine w_lstC ?_) | (with_reducible refine w_slice ?_) | (with_reducible refine w_psome ?_) | (with_reducible refine w_pnone ?_) | (with_reducible refine w_aug ?_) | (with_reducible refine w_call ?_) | (with_reducible refine w_lc ?_) | (with_reducible refine w_seqi ?_) | (with_reducible refine w_range1 ?_) | (with_reducible refine w_for ?_) | (with_reducible refine w_star ?_) | (with_reducible refine w_op2S ?_) | (with_reducible refine w_dctC ?_) | refine w_var rfl ?_ | (with_reducible refine w_c ?_) | refine ⟨_, rfl, ?_⟩ | refine ⟨Nat.le_of_ble_eq_true rfl, ?_⟩ | refine ⟨rfl, ?_⟩ | refine ⟨fun _ => ?_, fun h => absurd h.symm Bool.false_ne_true⟩ | refine ⟨fun h => absurd h Bool.false_ne_true, fun _ => ?_⟩ | refine ⟨fun _ => ?_, fun h => absurd h Bool.false_ne_true⟩ | refine ⟨fun h => absurd h.symm Bool.false_ne_true, fun _ => ?_⟩))
      exact fin _ _ (Int.ediv_nonneg ha (Int.le_of_lt h0)) (Int.emod_nonneg _ (by omega)) (Int.emod_lt_of_pos _ h0)
    · refine w_skip ?_
      refine w_then (w_set (w_op2 ?_))
      (repeat (first | (with_reducible refine w_then ?_) | (with_reducible refine w_set ?_) | (with_reducible refine w_asg ?_) | (with_reducible refine w_do ?_) | (with_reducible refine w_ret ?_) | (with_reducible refine w_sif ?_) | (with_reducible refine w_par ?_) | (with_reducible refine w_skip ?_) | (with_reducible refine w_break ?_) | (with_reducible refine w_cont ?_) | (with_reducible refine w_tv ?_) | (with_reducible refine w_not ?_) | (with_reducible refine w_and ?_) | (with_reducible refine w_or ?_) | (with_reducible refine w_if ?_) | (with_reducible refine w_eand ?_) | (with_reducible refine w_eor ?_) | (with_reducible refine w_chain ?_) | (with_reducible refine w_op1 ?_) | (with_reducible refine w_enot ?_) | (with_reducible refine w_op2 ?_) | (with_reducible refine w_opA ?_) | (with_reducible refine w_opAS ?_) | (with_reducible refine w_meth ?_) | (with_reducible refine w_cons ?_) | (with_reducible refine w_nil ?_) | (with_reducible refine w_tup ?_) | (with_reducible refine w_lst ?_) | (with_reducible refine w_lstC ?_) | (with_reducible refine w_slice ?_) | (with_reducible refine w_psome ?_) | (with_reducible refine w_pnone ?_) | (with_reducible refine w_aug ?_) | (with_reducible refine w_call ?_) | (with_reducible refine w_lc ?_) | (with_reducible refine w_seqi ?_) | (with_reducible refine w_range1 ?_) | (with_reducible refine w_for ?_) | (with_reducible refine w_star ?_) | (with_reducible refine w_op2S ?_) | (with_reducible refine w_dctC ?_) | refine w_var rfl ?_ | (with_reducible refine w_c ?_) | refine ⟨_, rfl, ?_⟩ | refine ⟨Nat.le_of_ble_eq_true rfl, ?_⟩ | refine ⟨rfl, ?_⟩ | refine ⟨fun _ => ?_, fun h => absurd h.symm Bool.false_ne_true⟩ | refine ⟨fun h => absurd h Bool.false_ne_true, fun _ => ?_⟩ | refine ⟨fun _ => ?_, fun h => absurd h Bool.false_ne_true⟩ | refine ⟨fun h => absurd h.symm Bool.false_ne_true, fun _ => ?_⟩))
      refine ⟨_, vMul_right (by decide), ?_⟩
      (repeat (first | (with_reducible refine w_then ?_) | (with_reducible refine w_set ?_) | (with_reducible refine w_asg ?_) | (with_reducible refine w_do ?_) | (with_reducible refine w_ret ?_) | (with_reducible refine w_sif ?_) | (with_reducible refine w_par ?_) | (with_reducible refine w_skip ?_) | (with_reducible refine w_break ?_) | (with_reducible refine w_cont ?_) | (with_reducible refine w_tv ?_) | (with_reducible refine w_not ?_) | (with_reducible refine w_and ?_) | (with_reducible refine w_or ?_) | (with_reducible refine w_if ?_) | (with_reducible refine w_eand ?_) | (with_reducible refine w_eor ?_) | (with_reducible refine w_chain ?_) | (with_reducible refine w_op1 ?_) | (with_reducible refine w_enot ?_) | (with_reducible refine w_op2 ?_) | (with_reducible refine w_opA ?_) | (with_reducible refine w_opAS ?_) | (with_reducible refine w_meth ?_) | (with_reducible refine w_cons ?_) | (with_reducible refine w_nil ?_) | (with_reducible refine w_tup ?_) | (with_reducible refine w_lst ?_) | (with_reducible refine w_lstC ?_) | (with_reducible refine w_slice ?_) | (with_reducible refine w_psome ?_) | (with_reducible refine w_pnone ?_) | (with_reducible refine w_aug ?_) | (with_reducible refine w_call ?_) | (with_reducible refine w_lc ?_) | (with_reducible refine w_seqi ?_) | (with_reducible refine w_range1 ?_) | (with_reducible refine w_for ?_) | (with_reducible refine w_star ?_) | (with_reducible refine w_op2S ?_) | (with_reducible refine w_dctC ?_) | refine w_var rfl ?_ | (with_reducible refine w_c ?_) | refine ⟨_, rfl, ?_⟩ | refine ⟨Nat.le_of_ble_eq_true rfl, ?_⟩ | refine ⟨rfl, ?_⟩ | refine ⟨fun _ => ?_, fun h => absurd h.symm Bool.false_ne_true⟩ | refine ⟨fun h => absurd h Bool.false_ne_true, fun _ => ?_⟩ | refine ⟨fun _ => ?_, fun h => absurd h Bool.false_ne_true⟩ | refine ⟨fun h => absurd h.symm Bool.false_ne_true, fun _ => ?_⟩))
      have hs : isSmall (((b + 1) * 39373) % 1000000007) = true := small_of (Int.emod_nonneg _ (by decide)) (Int.lt_trans (Int.emod_lt_of_pos _ (by decide)) (by decide))
      refine ⟨_, vMul_left hs, ?_⟩
      (repeat (first | (with_reducible refine w_then ?_) | (with_reducible refine w_set ?_) | (with_reducible refine w_asg ?_) | (with_reducible refine w_do ?_) | (with_reducible refine w_ret ?_) | (with_reducible refine w_sif ?_) | (with_reducible refine w_par ?_) | (with_reducible refine w_skip ?_) | (with_reducible refine w_break ?_) | (with_reducible refine w_cont ?_) | (with_reducible refine w_tv ?_) | (with_reducible refine w_not ?_) | (with_reducible refine w_and ?_) | (with_reducible refine w_or ?_) | (with_reducible refine w_if ?_) | (with_reducible refine w_eand ?_) | (with_reducible refine w_eor ?_) | (with_reducible refine w_chain ?_) | (with_reducible refine w_op1 ?_) | (with_reducible refine w_enot ?_) | (with_reducible refine w_op2 ?_) | (with_reducible refine w_opA ?_) | (with_reducible refine w_opAS ?_) | (with_reducible refine w_meth ?_) | (with_reducible refine w_cons ?_) | (with_reducible refine w_nil ?_) | (with_reducible refine w_tup ?_) | (with_reducible refine w_lst ?_) | (with_reducible refine w_lstC ?_) | (with_reducible refine w_slice ?_) | (with_reducible refine w_psome ?_) | (with_reducible refine w_pnone ?_) | (with_reducible refine w_aug ?_) | (with_reducible refine w_call ?_) | (with_reducible refine w_lc ?_) | (with_reducible refine w_seqi ?_) | (with_reducible refine w_range1 ?_) | (with_reducible refine w_for ?_) | (with_reducible refine w_star ?_) | (with_reducible refine w_op2S ?_) | (with_reducible refine w_dctC ?_) | refine w_var rfl ?_ | (with_reducible refine w_c ?_) | refine ⟨_, rfl, ?_⟩ | refine ⟨Nat.le_of_ble_eq_true rfl, ?_⟩ | refine ⟨rfl, ?_⟩ | refine ⟨fun _ => ?_, fun h => absurd h.symm Bool.false_ne_true⟩ | refine ⟨fun h => absurd h Bool.false_ne_true, fun _ => ?_⟩ | refine ⟨fun _ => ?_, fun h => absurd h Bool.false_ne_true⟩ | refine ⟨fun h => absurd h.symm Bool.false_ne_true, fun _ => ?_⟩))
      refine ⟨_, vMul_right (by decide), ?_⟩
      (repeat (first | (with_reducible refine w_then ?_) | (with_reducible refine w_set ?_) | (with_reducible refine w_asg ?_) | (with_reducible refine w_do ?_) | (with_reducible refine w_ret ?_) | (with_reducible refine w_sif ?_) | (with_reducible refine w_par ?_) | (with_reducible refine w_skip ?_) | (with_reducible refine w_break ?_) | (with_reducible refine w_cont ?_) | (with_reducible refine w_tv ?_) | (with_reducible refine w_not ?_) | (with_reducible refine w_and ?_) | (with_reducible refine w_or ?_) | (with_reducible refine w_if ?_) | (with_reducible refine w_eand ?_) | (with_reducible refine w_eor ?_) | (with_reducible refine w_chain ?_) | (with_reducible refine w_op1 ?_) | (with_reducible refine w_enot ?_) | (with_reducible refine w_op2 ?_) | (with_reducible refine w_opA ?_) | (with_reducible refine w_opAS ?_) | (with_reducible refine w_meth ?_) | (with_reducible refine w_cons ?_) | (with_reducible refine w_nil ?_) | (with_reducible refine w_tup ?_) | (with_reducible refine w_lst ?_) | (with_reducible refine w_lstC ?_) | (with_reducible refine w_slice ?_) | (with_reducible refine w_psome ?_) | (with_reducible refine w_pnone ?_) | (with_reducible refine w_aug ?_) | (with_reducible refine w_call ?_) | (with_reducible refine w_lc ?_) | (with_reducible refine w_seqi ?_) | (with_reducible refine w_range1 ?_) | (with_reducible refine w_for ?_) | (with_reducible refine w_star ?_) | (with_reducible refine w_op2S ?_) | (with_reducible refine w_dctC ?_) | refine w_var rfl ?_ | (with_reducible refine w_c ?_) | refine ⟨_, rfl, ?_⟩ | refine ⟨Nat.le_of_ble_eq_true rfl, ?_⟩ | refine ⟨rfl, ?_⟩ | refine ⟨fun _ => ?_, fun h => absurd h.symm Bool.false_ne_true⟩ | refine ⟨fun h => absurd h Bool.false_ne_true, fun _ => ?_⟩ | refine ⟨fun _ => ?_, fun h => absurd h Bool.false_ne_true⟩ | refine ⟨fun h => absurd h.symm Bool.false_ne_true, fun _ => ?_⟩))
      refine ⟨_, if_pos h0, ?_⟩
      exact fin _ _ ha (Int.emod_nonneg _ (by omega)) (Int.emod_lt_of_pos _ h0)
/-! ### a thing among things -/
theorem some_spec {c : Cell} (h : BagC c) {t : D} {xs : List D} (ht : t = .lst xs ∨ t = .tup xs) (hok : t.ok = true) (h0 : 0 < xs.length) (h1 : xs.length < 1073741824) : ∃ d c', F__law_some [.loc 0, t] [c] = some (.ok d, [c']) ∧ BagC c' ∧ d ∈ xs ∧ d.ok = true := by
  suffices hh : ∃ d s, F__law_some [.loc 0, t] [c] = some (.ok d, s) ∧ ∃ c', s = [c'] ∧ BagC c' ∧ d ∈ xs ∧ d.ok = true by
    obtain ⟨d, s, e, c', rfl, r⟩ := hh
    exact ⟨d, c', e, r⟩
  refine fn_of rfl ?_
  show WS b__law_some [some (.loc 0), some t] [c] _
  unfold b__law_some
  refine w_ret (w_op2 ?_)
  refine w_var rfl (w_call (w_cons (w_var rfl (w_cons (w_opA (w_cons (w_var rfl (w_nil ?_)))))))) 
  have hs : seq? [c] t = some xs := by rcases ht with rfl | rfl <;> rfl
  have hg : gLen [c] [t] = some (.int xs.length) := by rcases ht with rfl | rfl <;> rfl
  refine ⟨_, hg, w_nil ?_⟩
  obtain ⟨v, c', e, hc', hv0, hv1⟩ := take_spec h (many := (xs.length : Int)) (by omega) (by omega)
  refine ⟨_, _, call_1 (ds := [.int xs.length]) rfl (by simp [D.ok, okd]) (bag_ok h) e (bag_ok hc') rfl, ?_⟩
  have hlt : v.toNat < xs.length := by omega
  have hx : vIx [c'] t (.int v) = some xs[v.toNat] := by
    have hs' : seq? [c'] t = some xs := by rcases ht with rfl | rfl <;> rfl
    have : (seq? [c'] t).bind (fun xs => (ix? xs.length v).bind fun j => xs[j]?) = some xs[v.toNat] := by
      rw [hs', Option.bind_some]
      unfold ix?
      rw [if_pos hv0, if_pos hv1, Option.bind_some]
      exact List.getElem?_eq_getElem hlt
    rcases ht with rfl | rfl <;> exact this
  refine ⟨_, hx, ?_⟩
  have hmem : xs[v.toNat] ∈ xs := List.getElem_mem hlt
  have hd : (xs[v.toNat]).ok = true := by
    have hall : xs.all (okd 59) = true := by rcases ht with rfl | rfl <;> exact hok
    exact okd_up (List.all_eq_true.mp hall _ hmem)
  exact ⟨_, .inl rfl, _, _, clean_ok (by simp [bag_ok hc']) hd, c', rfl, hc', hmem, hd⟩
/-! ### the bag at first -/
theorem bag_spec (ns : List Int) : ∃ c, F__law_bag [.scr ns] [] = some (.ok (.loc 0), [c]) ∧ BagC c := by
  suffices hh : ∃ d s, F__law_bag [.scr ns] [] = some (.ok d, s) ∧ ∃ c, d = .loc 0 ∧ s = [c] ∧ BagC c by
    obtain ⟨d, s, e, c, rfl, rfl, r⟩ := hh
    exact ⟨c, e, r⟩
  refine fn_of rfl ?_
  show WS b__law_bag [some (.scr ns), none, none] [] _
  unfold b__law_bag
  refine w_ret (w_lstC ?_)
  refine w_cons (w_c (w_cons (w_c (w_cons (w_c (w_cons (w_lc (w_seqi ?_)))))))) 
  (repeat (first | (with_reducible refine w_tv ?_) | (with_reducible refine w_not ?_) | (with_reducible refine w_op1 ?_) | (with_reducible refine w_enot ?_) | (with_reducible refine w_op2 ?_) | (with_reducible refine w_opA ?_) | (with_reducible refine w_opAS ?_) | (with_reducible refine w_meth ?_) | (with_reducible refine w_cons ?_) | (with_reducible refine w_nil ?_) | (with_reducible refine w_tup ?_) | (with_reducible refine w_lst ?_) | (with_reducible refine w_lstC ?_) | (with_reducible refine w_slice ?_) | (with_reducible refine w_psome ?_) | (with_reducible refine w_pnone ?_) | (with_reducible refine w_seqi ?_) | (with_reducible refine w_range1 ?_) | (with_reducible refine w_star ?_) | refine w_var rfl ?_ | (with_reducible refine w_c ?_) | refine ⟨_, rfl, ?_⟩ | refine ⟨Nat.le_of_ble_eq_true rfl, ?_⟩ | refine ⟨rfl, ?_⟩ | refine ⟨fun _ => ?_, fun h => absurd h.symm Bool.false_ne_true⟩ | refine ⟨fun h => absurd h Bool.false_ne_true, fun _ => ?_⟩ | refine ⟨fun _ => ?_, fun h => absurd h Bool.false_ne_true⟩ | refine ⟨fun h => absurd h.symm Bool.false_ne_true, fun _ => ?_⟩))
  have hcut : cut (ns.map D.int) none (some 63) = (ns.take 63).map D.int := by
    unfold cut cutAt
    simp only [List.length_map, List.drop_zero, Nat.sub_zero]
    rw [if_neg (by omega), ← List.map_take]
    congr 1
    rw [List.take_eq_take_iff]
    omega
  rw [hcut]
  have hc := compL_pure (g := gName 2) (c := tYes) (y := opA gAbs (aCons (eVar 2) aNil)) (e := wipe [some (.scr ns), none, none] [1, 2]) (st := []) (fun d => match d with | .int i => some (.int (if i < 0 then -i else i)) | _ => none) (ds := (ns.take 63).map D.int) fun d hd => by
    obtain ⟨i, _, rfl⟩ := List.mem_map.mp hd
    refine ⟨_, rfl, true, [], rfl, rfl, fun _ => ?_, fun h => absurd h.symm Bool.false_ne_true⟩
    (repeat (first | (with_reducible refine w_tv ?_) | (with_reducible refine w_not ?_) | (with_reducible refine w_op1 ?_) | (with_reducible refine w_enot ?_) | (with_reducible refine w_op2 ?_) | (with_reducible refine w_opA ?_) | (with_reducible refine w_opAS ?_) | (with_reducible refine w_meth ?_) | (with_reducible refine w_cons ?_) | (with_reducible refine w_nil ?_) | (with_reducible refine w_tup ?_) | (with_reducible refine w_lst ?_) | (with_reducible refine w_lstC ?_) | (with_reducible refine w_slice ?_) | (with_reducible refine w_psome ?_) | (with_reducible refine w_pnone ?_) | (with_reducible refine w_seqi ?_) | (with_reducible refine w_range1 ?_) | (with_reducible refine w_star ?_) | refine w_var rfl ?_ | (with_reducible refine w_c ?_) | refine ⟨_, rfl, ?_⟩ | refine ⟨Nat.le_of_ble_eq_true rfl, ?_⟩ | refine ⟨rfl, ?_⟩ | refine ⟨fun _ => ?_, fun h => absurd h.symm Bool.false_ne_true⟩ | refine ⟨fun h => absurd h Bool.false_ne_true, fun _ => ?_⟩ | refine ⟨fun _ => ?_, fun h => absurd h Bool.false_ne_true⟩ | refine ⟨fun h => absurd h.symm Bool.false_ne_true, fun _ => ?_⟩))
    exact rfl
  refine ⟨_, _, hc, w_nil ⟨Nat.le_of_ble_eq_true rfl, ?_⟩⟩
  have hf : (((ns.take 63).map D.int).filterMap fun d => match d with | .int i => some (D.int (if i < 0 then -i else i)) | _ => none) = ((ns.take 63).map fun i => if i < 0 then -i else i).map D.int := by
    rw [List.filterMap_map, List.map_map]
    exact (List.filterMap_eq_map (f := fun i : Int => D.int (if i < 0 then -i else i))) ▸ rfl
  rw [hf]
  have hb : BagC (.lst [.int 0, .int 1234567891, .int 0, .lst (((ns.take 63).map fun i => if i < 0 then -i else i).map D.int)]) := ⟨0, 1234567891, 0, _, rfl, by omega, by omega, by omega, fun x hx => by
    obtain ⟨i, _, rfl⟩ := List.mem_map.mp hx
    split <;> omega, by rw [List.length_map, List.length_take]; omega⟩
  exact ⟨_, .inl rfl, _, _, clean_new rfl (Nat.le_refl 0) rfl (bag_ok hb), _, rfl, rfl, hb⟩
/-! ### alike -/
def sz : Nat → D → Nat
  | n + 1, .tup xs => 1 + (xs.map (sz n)).sum
  | n + 1, .lst xs => 1 + (xs.map (sz n)).sum
  | _, _ => 1
mutual
theorem eqn_refl : ∀ {n : Nat} {d : D}, okd n d = true → eqn n d d = true
  | n, .non, _ => by cases n <;> rfl
  | n, .bl b, _ => by cases n <;> simp [eqn]
  | n, .int i, _ => by cases n <;> simp [eqn]
  | n, .str x, _ => by cases n <;> simp [eqn]
  | 0, .tup _, h => by cases h
  | 0, .lst _, h => by cases h
  | n + 1, .tup xs, h => by
    show (xs.length == xs.length && (xs.zip xs).all fun p => eqn n p.1 p.2) = true
    rw [beq_self_eq_true, Bool.true_and]
    exact eqn_refls xs h
  | n + 1, .lst xs, h => by
    show (xs.length == xs.length && (xs.zip xs).all fun p => eqn n p.1 p.2) = true
    rw [beq_self_eq_true, Bool.true_and]
    exact eqn_refls xs h
  | n, .loc _, h => by cases n <;> cases h
  | n, .scr _, h => by cases n <;> cases h
  | n, .par _, h => by cases n <;> cases h
theorem eqn_refls : ∀ {n : Nat} (xs : List D), xs.all (okd n) = true → ((xs.zip xs).all fun p => eqn n p.1 p.2) = true
  | _, [], _ => rfl
  | n, x :: xs, h => by
    rw [List.all_cons, Bool.and_eq_true] at h
    rw [List.zip_cons_cons, List.all_cons, Bool.and_eq_true]
    exact ⟨eqn_refl h.1, eqn_refls xs h.2⟩
end
mutual
theorem sz_mono : ∀ {n : Nat} {d : D}, okd n d = true → sz (n + 1) d = sz n d
  | n, .non, _ => by cases n <;> rfl
  | n, .bl _, _ => by cases n <;> rfl
  | n, .int _, _ => by cases n <;> rfl
  | n, .str _, _ => by cases n <;> rfl
  | 0, .tup _, h => by cases h
  | 0, .lst _, h => by cases h
  | n + 1, .tup xs, h => congrArg (1 + ·) (sz_monos (n := n) xs h)
  | n + 1, .lst xs, h => congrArg (1 + ·) (sz_monos (n := n) xs h)
  | n, .loc _, h => by cases n <;> cases h
  | n, .scr _, h => by cases n <;> cases h
  | n, .par _, h => by cases n <;> cases h
theorem sz_monos : ∀ {n : Nat} (xs : List D), xs.all (okd n) = true → (xs.map (sz (n + 1))).sum = (xs.map (sz n)).sum
  | _, [], _ => rfl
  | n, x :: xs, h => by
    rw [List.all_cons, Bool.and_eq_true] at h
    rw [List.map_cons, List.map_cons, List.sum_cons, List.sum_cons, sz_mono h.1, sz_monos xs h.2]
end
theorem sz_pos : ∀ (n : Nat) (d : D), 1 ≤ sz n d
  | 0, d => by cases d <;> exact Nat.le_refl 1
  | n + 1, d => by cases d <;> first | exact Nat.le_refl 1 | exact Nat.le_add_right 1 _
theorem sz_len {n : Nat} : ∀ xs : List D, xs.length ≤ (xs.map (sz n)).sum
  | [] => Nat.le_refl 0
  | x :: xs => by
    have := sz_pos n x
    have := sz_len (n := n) xs
    rw [List.map_cons, List.sum_cons, List.length_cons]; omega
def pr (x : D) : D := .tup [x, x]
theorem zip_self (xs : List D) : zipL xs xs = xs.map pr := by
  unfold zipL
  induction xs with
  | nil => rfl
  | cons x xs ih => rw [List.zip_cons_cons, List.map_cons, List.map_cons, ih]; rfl
theorem ne_self {st : Store} {d : D} (h : d.ok = true) : vNe st d d = some (.bl false) := by
  have hs : see st d = d := by cases d <;> first | rfl | (simp [D.ok, okd] at h)
  unfold vNe
  rw [hs, h]
  show some (D.bl !(eqn 60 d d)) = _
  rw [eqn_refl h]; rfl
theorem eq_self {st : Store} {d : D} (h : d.ok = true) : vEq st d d = some (.bl true) := by
  have hs : see st d = d := by cases d <;> first | rfl | (simp [D.ok, okd] at h)
  unfold vEq
  rw [hs, h]
  show some (D.bl (eqn 60 d d)) = _
  rw [eqn_refl h]
def AI (d : D) (m : Nat) (e : Env) (st : Store) : Prop := ∃ (pre ps : List D), e = [some d, some d, some (.loc 0), some (.int pre.length), none, none] ∧ st = [.lst (pre ++ ps.map pr)] ∧ (∀ x ∈ ps, D.ok x = true) ∧ (ps.map (sz 60)).sum = m ∧ pre.length + m ≤ 1000000
theorem alike_spec {d : D} (hd : d.ok = true) (hs : sz 60 d ≤ 1000000) : F__law_alike [d, d] [] = some (.ok (.bl true), []) := by
  suffices hh : ∃ r s, F__law_alike [d, d] [] = some (.ok r, s) ∧ r = .bl true ∧ s = [] by
    obtain ⟨r, s, e, rfl, rfl⟩ := hh
    exact e
  refine fn_of rfl ?_
  show WS b__law_alike [some d, some d, none, none, none, none] [] _
  unfold b__law_alike
  refine w_then (w_par ?_)
  (repeat (first | (with_reducible refine w_tv ?_) | (with_reducible refine w_not ?_) | (with_reducible refine w_op1 ?_) | (with_reducible refine w_enot ?_) | (with_reducible refine w_op2 ?_) | (with_reducible refine w_opA ?_) | (with_reducible refine w_opAS ?_) | (with_reducible refine w_meth ?_) | (with_reducible refine w_cons ?_) | (with_reducible refine w_nil ?_) | (with_reducible refine w_tup ?_) | (with_reducible refine w_lst ?_) | (with_reducible refine w_lstC ?_) | (with_reducible refine w_slice ?_) | (with_reducible refine w_psome ?_) | (with_reducible refine w_pnone ?_) | (with_reducible refine w_seqi ?_) | (with_reducible refine w_range1 ?_) | (with_reducible refine w_star ?_) | refine w_var rfl ?_ | (with_reducible refine w_c ?_) | refine ⟨_, rfl, ?_⟩ | refine ⟨Nat.le_of_ble_eq_true rfl, ?_⟩ | refine ⟨rfl, ?_⟩ | refine ⟨fun _ => ?_, fun h => absurd h.symm Bool.false_ne_true⟩ | refine ⟨fun h => absurd h Bool.false_ne_true, fun _ => ?_⟩ | refine ⟨fun _ => ?_, fun h => absurd h Bool.false_ne_true⟩ | refine ⟨fun h => absurd h.symm Bool.false_ne_true, fun _ => ?_⟩))
  refine ⟨_, _, rfl, ?_⟩
  refine w_then ?_
  refine w_while (AI d) (sz 60 d) ⟨[], [d], rfl, rfl, by simpa using hd, by simp, by simpa using hs⟩ ?_
  rintro m e st ⟨pre, ps, rfl, rfl, ok, hm, hl⟩
  unfold b__law_alike_t2
  (repeat (first | (with_reducible refine w_tv ?_) | (with_reducible refine w_not ?_) | (with_reducible refine w_op1 ?_) | (with_reducible refine w_enot ?_) | (with_reducible refine w_op2 ?_) | (with_reducible refine w_opA ?_) | (with_reducible refine w_opAS ?_) | (with_reducible refine w_meth ?_) | (with_reducible refine w_cons ?_) | (with_reducible refine w_nil ?_) | (with_reducible refine w_tup ?_) | (with_reducible refine w_lst ?_) | (with_reducible refine w_lstC ?_) | (with_reducible refine w_slice ?_) | (with_reducible refine w_psome ?_) | (with_reducible refine w_pnone ?_) | (with_reducible refine w_seqi ?_) | (with_reducible refine w_range1 ?_) | (with_reducible refine w_star ?_) | refine w_var rfl ?_ | (with_reducible refine w_c ?_) | refine ⟨_, rfl, ?_⟩ | refine ⟨Nat.le_of_ble_eq_true rfl, ?_⟩ | refine ⟨rfl, ?_⟩ | refine ⟨fun _ => ?_, fun h => absurd h.symm Bool.false_ne_true⟩ | refine ⟨fun h => absurd h Bool.false_ne_true, fun _ => ?_⟩ | refine ⟨fun _ => ?_, fun h => absurd h Bool.false_ne_true⟩ | refine ⟨fun h => absurd h.symm Bool.false_ne_true, fun _ => ?_⟩))
  refine ⟨fun hk => ?_, fun hk => ?_⟩
  · refine w_ret (w_c ⟨_, .inl rfl, _, _, clean_ok rfl rfl, rfl, rfl⟩)
  · have hk : ((pre.length : Nat) : Int) < (((pre ++ ps.map pr).length : Nat) : Int) := of_decide_eq_true hk
    cases ps with
    | nil => simp at hk
    | cons x ps =>
      have hx := ok x (by simp)
      have hix : vIx [.lst (pre ++ (x :: ps).map pr)] (.loc 0) (.int pre.length) = some (pr x) := by
        show (ix? _ _).bind _ = _
        unfold ix?
        rw [if_pos (by omega), if_pos hk]
        show (pre ++ (x :: ps).map pr)[((pre.length : Nat) : Int).toNat]? = _
        rw [Int.toNat_natCast, List.getElem?_append_right (Nat.le_refl _), Nat.sub_self]
        rfl
      have next : ∀ (qs : List D), (∀ y ∈ qs, D.ok y = true) → (qs.map (sz 60)).sum + 1 ≤ sz 60 x → ∃ m', m' < m ∧ AI d m' [some d, some d, some (.loc 0), some (.int ((pre.length : Nat) + 1 : Int)), none, none] [.lst (pre ++ (x :: ps).map pr ++ qs.map pr)] := fun qs hq hz => by
        rw [List.map_cons, List.sum_cons] at hm
        refine ⟨((ps ++ qs).map (sz 60)).sum, by rw [List.map_append, List.sum_append]; omega, pre ++ [pr x], ps ++ qs, by simp, by simp, fun y hy => ?_, rfl, by rw [List.map_append, List.sum_append, List.length_append, List.length_singleton]; omega⟩
        rcases List.mem_append.mp hy with h | h
        · exact ok y (List.mem_cons_of_mem _ h)
        · exact hq y h
      have stay := next [] (by simp) (by have := sz_pos 60 x; simpa using this)
      rw [List.map_nil, List.append_nil] at stay
      have more : ∀ xs : List D, (x = .tup xs ∨ x = .lst xs) → xs.all (okd 59) = true ∧ ∃ m', m' < m ∧ AI d m' [some d, some d, some (.loc 0), some (.int ((pre.length : Nat) + 1 : Int)), none, none] [.lst (pre ++ (x :: ps).map pr ++ xs.map pr)] := fun xs e => by
        have h59 : xs.all (okd 59) = true := by rcases e with rfl | rfl <;> exact hx
        refine ⟨h59, next xs (fun y hy => okd_up (List.all_eq_true.mp h59 y hy)) ?_⟩
        have : sz 60 x = 1 + (xs.map (sz 59)).sum := by rcases e with rfl | rfl <;> rfl
        rw [this, sz_monos (n := 59) xs h59]; omega
      have room : ∀ xs : List D, (x = .tup xs ∨ x = .lst xs) → (pre ++ (x :: ps).map pr).length + (xs.map pr).length ≤ PySem.sizeLine := fun xs e => by
        have : sz 60 x = 1 + (xs.map (sz 59)).sum := by rcases e with rfl | rfl <;> rfl
        have h1 := sz_len (n := 59) xs
        have h2 := sz_len (n := 60) ps
        rw [List.map_cons, List.sum_cons] at hm
        rw [PySem.sizeLine_eq]
        simp only [List.length_append, List.length_map, List.length_cons]
        omega
      unfold b__law_alike_w1
      refine w_then (w_asg (w_op2 (w_var rfl (w_var rfl ⟨_, hix, _, _, rfl, ?_⟩))))
      refine w_then (w_aug ⟨_, rfl, w_c ⟨_, rfl, ?_⟩⟩)
      cases x with
      | non =>
        (repeat (first | (with_reducible refine w_then ?_) | (with_reducible refine w_set ?_) | (with_reducible refine w_asg ?_) | (with_reducible refine w_do ?_) | (with_reducible refine w_ret ?_) | (with_reducible refine w_sif ?_) | (with_reducible refine w_par ?_) | (with_reducible refine w_skip ?_) | (with_reducible refine w_break ?_) | (with_reducible refine w_cont ?_) | (with_reducible refine w_tv ?_) | (with_reducible refine w_not ?_) | (with_reducible refine w_and ?_) | (with_reducible refine w_or ?_) | (with_reducible refine w_if ?_) | (with_reducible refine w_eand ?_) | (with_reducible refine w_eor ?_) | (with_reducible refine w_chain ?_) | (with_reducible refine w_op1 ?_) | (with_reducible refine w_enot ?_) | (with_reducible refine w_op2 ?_) | (with_reducible refine w_opA ?_) | (with_reducible refine w_opAS ?_) | (with_reducible refine w_meth ?_) | (with_reducible refine w_cons ?_) | (with_reducible refine w_nil ?_) | (with_reducible refine w_tup ?_) | (with_reducible refine w_lst ?_) | (with_reducible refine w_lstC ?_) | (with_reducible refine w_slice ?_) | (with_reducible refine w_psome ?_) | (with_reducible refine w_pnone ?_) | (with_reducible refine w_aug ?_) | (with_reducible refine w_call ?_) | (with_reducible refine w_lc ?_) | (with_reducible refine w_seqi ?_) | (with_reducible refine w_range1 ?_) | (with_reducible refine w_for ?_) | (with_reducible refine w_star ?_) | (with_reducible refine w_op2S ?_) | (with_reducible refine w_dctC ?_) | refine w_var rfl ?_ | (with_reducible refine w_c ?_) | refine ⟨_, rfl, ?_⟩ | refine ⟨Nat.le_of_ble_eq_true rfl, ?_⟩ | refine ⟨rfl, ?_⟩ | refine ⟨fun _ => ?_, fun h => absurd h.symm Bool.false_ne_true⟩ | refine ⟨fun h => absurd h Bool.false_ne_true, fun _ => ?_⟩ | refine ⟨fun _ => ?_, fun h => absurd h Bool.false_ne_true⟩ | refine ⟨fun h => absurd h.symm Bool.false_ne_true, fun _ => ?_⟩))
        exact stay
      | bl b =>
        (repeat (first | (with_reducible refine w_then ?_) | (with_reducible refine w_set ?_) | (with_reducible refine w_asg ?_) | (with_reducible refine w_do ?_) | (with_reducible refine w_ret ?_) | (with_reducible refine w_sif ?_) | (with_reducible refine w_par ?_) | (with_reducible refine w_skip ?_) | (with_reducible refine w_break ?_) | (with_reducible refine w_cont ?_) | (with_reducible refine w_tv ?_) | (with_reducible refine w_not ?_) | (with_reducible refine w_and ?_) | (with_reducible refine w_or ?_) | (with_reducible refine w_if ?_) | (with_reducible refine w_eand ?_) | (with_reducible refine w_eor ?_) | (with_reducible refine w_chain ?_) | (with_reducible refine w_op1 ?_) | (with_reducible refine w_enot ?_) | (with_reducible refine w_op2 ?_) | (with_reducible refine w_opA ?_) | (with_reducible refine w_opAS ?_) | (with_reducible refine w_meth ?_) | (with_reducible refine w_cons ?_) | (with_reducible refine w_nil ?_) | (with_reducible refine w_tup ?_) | (with_reducible refine w_lst ?_) | (with_reducible refine w_lstC ?_) | (with_reducible refine w_slice ?_) | (with_reducible refine w_psome ?_) | (with_reducible refine w_pnone ?_) | (with_reducible refine w_aug ?_) | (with_reducible refine w_call ?_) | (with_reducible refine w_lc ?_) | (with_reducible refine w_seqi ?_) | (with_reducible refine w_range1 ?_) | (with_reducible refine w_for ?_) | (with_reducible refine w_star ?_) | (with_reducible refine w_op2S ?_) | (with_reducible refine w_dctC ?_) | refine w_var rfl ?_ | (with_reducible refine w_c ?_) | refine ⟨_, rfl, ?_⟩ | refine ⟨Nat.le_of_ble_eq_true rfl, ?_⟩ | refine ⟨rfl, ?_⟩ | refine ⟨fun _ => ?_, fun h => absurd h.symm Bool.false_ne_true⟩ | refine ⟨fun h => absurd h Bool.false_ne_true, fun _ => ?_⟩ | refine ⟨fun _ => ?_, fun h => absurd h Bool.false_ne_true⟩ | refine ⟨fun h => absurd h.symm Bool.false_ne_true, fun _ => ?_⟩))
        refine ⟨fun h => ?_, fun _ => w_skip stay⟩
        exfalso
        simp [D.eqv, see, eqn] at h
      | int i =>
        (repeat (first | (with_reducible refine w_then ?_) | (with_reducible refine w_set ?_) | (with_reducible refine w_asg ?_) | (with_reducible refine w_do ?_) | (with_reducible refine w_ret ?_) | (with_reducible refine w_sif ?_) | (with_reducible refine w_par ?_) | (with_reducible refine w_skip ?_) | (with_reducible refine w_break ?_) | (with_reducible refine w_cont ?_) | (with_reducible refine w_tv ?_) | (with_reducible refine w_not ?_) | (with_reducible refine w_and ?_) | (with_reducible refine w_or ?_) | (with_reducible refine w_if ?_) | (with_reducible refine w_eand ?_) | (with_reducible refine w_eor ?_) | (with_reducible refine w_chain ?_) | (with_reducible refine w_op1 ?_) | (with_reducible refine w_enot ?_) | (with_reducible refine w_op2 ?_) | (with_reducible refine w_opA ?_) | (with_reducible refine w_opAS ?_) | (with_reducible refine w_meth ?_) | (with_reducible refine w_cons ?_) | (with_reducible refine w_nil ?_) | (with_reducible refine w_tup ?_) | (with_reducible refine w_lst ?_) | (with_reducible refine w_lstC ?_) | (with_reducible refine w_slice ?_) | (with_reducible refine w_psome ?_) | (with_reducible refine w_pnone ?_) | (with_reducible refine w_aug ?_) | (with_reducible refine w_call ?_) | (with_reducible refine w_lc ?_) | (with_reducible refine w_seqi ?_) | (with_reducible refine w_range1 ?_) | (with_reducible refine w_for ?_) | (with_reducible refine w_star ?_) | (with_reducible refine w_op2S ?_) | (with_reducible refine w_dctC ?_) | refine w_var rfl ?_ | (with_reducible refine w_c ?_) | refine ⟨_, rfl, ?_⟩ | refine ⟨Nat.le_of_ble_eq_true rfl, ?_⟩ | refine ⟨rfl, ?_⟩ | refine ⟨fun _ => ?_, fun h => absurd h.symm Bool.false_ne_true⟩ | refine ⟨fun h => absurd h Bool.false_ne_true, fun _ => ?_⟩ | refine ⟨fun _ => ?_, fun h => absurd h Bool.false_ne_true⟩ | refine ⟨fun h => absurd h.symm Bool.false_ne_true, fun _ => ?_⟩))
        refine ⟨fun h => ?_, fun _ => w_skip stay⟩
        exfalso
        simp [D.eqv, see, eqn] at h
      | str x =>
        (repeat (first | (with_reducible refine w_then ?_) | (with_reducible refine w_set ?_) | (with_reducible refine w_asg ?_) | (with_reducible refine w_do ?_) | (with_reducible refine w_ret ?_) | (with_reducible refine w_sif ?_) | (with_reducible refine w_par ?_) | (with_reducible refine w_skip ?_) | (with_reducible refine w_break ?_) | (with_reducible refine w_cont ?_) | (with_reducible refine w_tv ?_) | (with_reducible refine w_not ?_) | (with_reducible refine w_and ?_) | (with_reducible refine w_or ?_) | (with_reducible refine w_if ?_) | (with_reducible refine w_eand ?_) | (with_reducible refine w_eor ?_) | (with_reducible refine w_chain ?_) | (with_reducible refine w_op1 ?_) | (with_reducible refine w_enot ?_) | (with_reducible refine w_op2 ?_) | (with_reducible refine w_opA ?_) | (with_reducible refine w_opAS ?_) | (with_reducible refine w_meth ?_) | (with_reducible refine w_cons ?_) | (with_reducible refine w_nil ?_) | (with_reducible refine w_tup ?_) | (with_reducible refine w_lst ?_) | (with_reducible refine w_lstC ?_) | (with_reducible refine w_slice ?_) | (with_reducible refine w_psome ?_) | (with_reducible refine w_pnone ?_) | (with_reducible refine w_aug ?_) | (with_reducible refine w_call ?_) | (with_reducible refine w_lc ?_) | (with_reducible refine w_seqi ?_) | (with_reducible refine w_range1 ?_) | (with_reducible refine w_for ?_) | (with_reducible refine w_star ?_) | (with_reducible refine w_op2S ?_) | (with_reducible refine w_dctC ?_) | refine w_var rfl ?_ | (with_reducible refine w_c ?_) | refine ⟨_, rfl, ?_⟩ | refine ⟨Nat.le_of_ble_eq_true rfl, ?_⟩ | refine ⟨rfl, ?_⟩ | refine ⟨fun _ => ?_, fun h => absurd h.symm Bool.false_ne_true⟩ | refine ⟨fun h => absurd h Bool.false_ne_true, fun _ => ?_⟩ | refine ⟨fun _ => ?_, fun h => absurd h Bool.false_ne_true⟩ | refine ⟨fun h => absurd h.symm Bool.false_ne_true, fun _ => ?_⟩))
        refine ⟨fun h => ?_, fun _ => w_skip stay⟩
        exfalso
        simp [D.eqv, see, eqn] at h
      | tup xs =>
        obtain ⟨h59, nx⟩ := more xs (.inl rfl)
        (repeat (first | (with_reducible refine w_then ?_) | (with_reducible refine w_set ?_) | (with_reducible refine w_asg ?_) | (with_reducible refine w_do ?_) | (with_reducible refine w_ret ?_) | (with_reducible refine w_sif ?_) | (with_reducible refine w_par ?_) | (with_reducible refine w_skip ?_) | (with_reducible refine w_break ?_) | (with_reducible refine w_cont ?_) | (with_reducible refine w_tv ?_) | (with_reducible refine w_not ?_) | (with_reducible refine w_and ?_) | (with_reducible refine w_or ?_) | (with_reducible refine w_if ?_) | (with_reducible refine w_eand ?_) | (with_reducible refine w_eor ?_) | (with_reducible refine w_chain ?_) | (with_reducible refine w_op1 ?_) | (with_reducible refine w_enot ?_) | (with_reducible refine w_op2 ?_) | (with_reducible refine w_opA ?_) | (with_reducible refine w_opAS ?_) | (with_reducible refine w_meth ?_) | (with_reducible refine w_cons ?_) | (with_reducible refine w_nil ?_) | (with_reducible refine w_tup ?_) | (with_reducible refine w_lst ?_) | (with_reducible refine w_lstC ?_) | (with_reducible refine w_slice ?_) | (with_reducible refine w_psome ?_) | (with_reducible refine w_pnone ?_) | (with_reducible refine w_aug ?_) | (with_reducible refine w_call ?_) | (with_reducible refine w_lc ?_) | (with_reducible refine w_seqi ?_) | (with_reducible refine w_range1 ?_) | (with_reducible refine w_for ?_) | (with_reducible refine w_star ?_) | (with_reducible refine w_op2S ?_) | (with_reducible refine w_dctC ?_) | refine w_var rfl ?_ | (with_reducible refine w_c ?_) | refine ⟨_, rfl, ?_⟩ | refine ⟨Nat.le_of_ble_eq_true rfl, ?_⟩ | refine ⟨rfl, ?_⟩ | refine ⟨fun _ => ?_, fun h => absurd h.symm Bool.false_ne_true⟩ | refine ⟨fun h => absurd h Bool.false_ne_true, fun _ => ?_⟩ | refine ⟨fun _ => ?_, fun h => absurd h Bool.false_ne_true⟩ | refine ⟨fun h => absurd h.symm Bool.false_ne_true, fun _ => ?_⟩))
        refine ⟨fun h => ?_, fun _ => ?_⟩
        · exfalso
          simp [D.eqv, see, eqn] at h
        (repeat (first | (with_reducible refine w_then ?_) | (with_reducible refine w_set ?_) | (with_reducible refine w_asg ?_) | (with_reducible refine w_do ?_) | (with_reducible refine w_ret ?_) | (with_reducible refine w_sif ?_) | (with_reducible refine w_par ?_) | (with_reducible refine w_skip ?_) | (with_reducible refine w_break ?_) | (with_reducible refine w_cont ?_) | (with_reducible refine w_tv ?_) | (with_reducible refine w_not ?_) | (with_reducible refine w_and ?_) | (with_reducible refine w_or ?_) | (with_reducible refine w_if ?_) | (with_reducible refine w_eand ?_) | (with_reducible refine w_eor ?_) | (with_reducible refine w_chain ?_) | (with_reducible refine w_op1 ?_) | (with_reducible refine w_enot ?_) | (with_reducible refine w_op2 ?_) | (with_reducible refine w_opA ?_) | (with_reducible refine w_opAS ?_) | (with_reducible refine w_meth ?_) | (with_reducible refine w_cons ?_) | (with_reducible refine w_nil ?_) | (with_reducible refine w_tup ?_) | (with_reducible refine w_lst ?_) | (with_reducible refine w_lstC ?_) | (with_reducible refine w_slice ?_) | (with_reducible refine w_psome ?_) | (with_reducible refine w_pnone ?_) | (with_reducible refine w_aug ?_) | (with_reducible refine w_call ?_) | (with_reducible refine w_lc ?_) | (with_reducible refine w_seqi ?_) | (with_reducible refine w_range1 ?_) | (with_reducible refine w_for ?_) | (with_reducible refine w_star ?_) | (with_reducible refine w_op2S ?_) | (with_reducible refine w_dctC ?_) | refine w_var rfl ?_ | (with_reducible refine w_c ?_) | refine ⟨_, rfl, ?_⟩ | refine ⟨Nat.le_of_ble_eq_true rfl, ?_⟩ | refine ⟨rfl, ?_⟩ | refine ⟨fun _ => ?_, fun h => absurd h.symm Bool.false_ne_true⟩ | refine ⟨fun h => absurd h Bool.false_ne_true, fun _ => ?_⟩ | refine ⟨fun _ => ?_, fun h => absurd h Bool.false_ne_true⟩ | refine ⟨fun h => absurd h.symm Bool.false_ne_true, fun _ => ?_⟩))
        rw [zip_self]
        exact ⟨_, _, if_pos (room xs (.inl rfl)), nx⟩
      | lst xs =>
        obtain ⟨h59, nx⟩ := more xs (.inr rfl)
        (repeat (first | (with_reducible refine w_then ?_) | (with_reducible refine w_set ?_) | (with_reducible refine w_asg ?_) | (with_reducible refine w_do ?_) | (with_reducible refine w_ret ?_) | (with_reducible refine w_sif ?_) | (with_reducible refine w_par ?_) | (with_reducible refine w_skip ?_) | (with_reducible refine w_break ?_) | (with_reducible refine w_cont ?_) | (with_reducible refine w_tv ?_) | (with_reducible refine w_not ?_) | (with_reducible refine w_and ?_) | (with_reducible refine w_or ?_) | (with_reducible refine w_if ?_) | (with_reducible refine w_eand ?_) | (with_reducible refine w_eor ?_) | (with_reducible refine w_chain ?_) | (with_reducible refine w_op1 ?_) | (with_reducible refine w_enot ?_) | (with_reducible refine w_op2 ?_) | (with_reducible refine w_opA ?_) | (with_reducible refine w_opAS ?_) | (with_reducible refine w_meth ?_) | (with_reducible refine w_cons ?_) | (with_reducible refine w_nil ?_) | (with_reducible refine w_tup ?_) | (with_reducible refine w_lst ?_) | (with_reducible refine w_lstC ?_) | (with_reducible refine w_slice ?_) | (with_reducible refine w_psome ?_) | (with_reducible refine w_pnone ?_) | (with_reducible refine w_aug ?_) | (with_reducible refine w_call ?_) | (with_reducible refine w_lc ?_) | (with_reducible refine w_seqi ?_) | (with_reducible refine w_range1 ?_) | (with_reducible refine w_for ?_) | (with_reducible refine w_star ?_) | (with_reducible refine w_op2S ?_) | (with_reducible refine w_dctC ?_) | refine w_var rfl ?_ | (with_reducible refine w_c ?_) | refine ⟨_, rfl, ?_⟩ | refine ⟨Nat.le_of_ble_eq_true rfl, ?_⟩ | refine ⟨rfl, ?_⟩ | refine ⟨fun _ => ?_, fun h => absurd h.symm Bool.false_ne_true⟩ | refine ⟨fun h => absurd h Bool.false_ne_true, fun _ => ?_⟩ | refine ⟨fun _ => ?_, fun h => absurd h Bool.false_ne_true⟩ | refine ⟨fun h => absurd h.symm Bool.false_ne_true, fun _ => ?_⟩))
        refine ⟨fun h => ?_, fun _ => ?_⟩
        · exfalso
          simp [D.eqv, see, eqn] at h
        (repeat (first | (with_reducible refine w_then ?_) | (with_reducible refine w_set ?_) | (with_reducible refine w_asg ?_) | (with_reducible refine w_do ?_) | (with_reducible refine w_ret ?_) | (with_reducible refine w_sif ?_) | (with_reducible refine w_par ?_) | (with_reducible refine w_skip ?_) | (with_reducible refine w_break ?_) | (with_reducible refine w_cont ?_) | (with_reducible refine w_tv ?_) | (with_reducible refine w_not ?_) | (with_reducible refine w_and ?_) | (with_reducible refine w_or ?_) | (with_reducible refine w_if ?_) | (with_reducible refine w_eand ?_) | (with_reducible refine w_eor ?_) | (with_reducible refine w_chain ?_) | (with_reducible refine w_op1 ?_) | (with_reducible refine w_enot ?_) | (with_reducible refine w_op2 ?_) | (with_reducible refine w_opA ?_) | (with_reducible refine w_opAS ?_) | (with_reducible refine w_meth ?_) | (with_reducible refine w_cons ?_) | (with_reducible refine w_nil ?_) | (with_reducible refine w_tup ?_) | (with_reducible refine w_lst ?_) | (with_reducible refine w_lstC ?_) | (with_reducible refine w_slice ?_) | (with_reducible refine w_psome ?_) | (with_reducible refine w_pnone ?_) | (with_reducible refine w_aug ?_) | (with_reducible refine w_call ?_) | (with_reducible refine w_lc ?_) | (with_reducible refine w_seqi ?_) | (with_reducible refine w_range1 ?_) | (with_reducible refine w_for ?_) | (with_reducible refine w_star ?_) | (with_reducible refine w_op2S ?_) | (with_reducible refine w_dctC ?_) | refine w_var rfl ?_ | (with_reducible refine w_c ?_) | refine ⟨_, rfl, ?_⟩ | refine ⟨Nat.le_of_ble_eq_true rfl, ?_⟩ | refine ⟨rfl, ?_⟩ | refine ⟨fun _ => ?_, fun h => absurd h.symm Bool.false_ne_true⟩ | refine ⟨fun h => absurd h Bool.false_ne_true, fun _ => ?_⟩ | refine ⟨fun _ => ?_, fun h => absurd h Bool.false_ne_true⟩ | refine ⟨fun h => absurd h.symm Bool.false_ne_true, fun _ => ?_⟩))
        dsimp only
        rw [zip_self]
        exact ⟨_, _, if_pos (room xs (.inr rfl)), nx⟩
      | loc n => cases hx
      | scr ns => cases hx
      | par ns => cases hx
/-! ### calls of the helpers -/
theorem take_call {c : Cell} (h : BagC c) {st : Store} {n : Nat} (hn : st[n]? = some c) {many : Int} (h0 : 0 < many) (h1 : many < 1073741824) {Q : D → Store → Prop} (k : ∀ v c', BagC c' → 0 ≤ v → v < many → Q (.int v) (st.set n c')) : ∃ r s2, viewCall F__law_take [.loc n, .int many] st = some (.ok r, s2) ∧ Q r s2 := by
  obtain ⟨v, c', e, hc', hv0, hv1⟩ := take_spec h h0 h1
  exact ⟨_, _, call_1 (ds := [.int many]) hn (by simp [D.ok, okd]) (bag_ok h) e (bag_ok hc') rfl, k v c' hc' hv0 hv1⟩
theorem some_call {c : Cell} (h : BagC c) {st : Store} {n : Nat} (hn : st[n]? = some c) {t : D} {xs : List D} (ht : t = .lst xs ∨ t = .tup xs) (hok : t.ok = true) (h0 : 0 < xs.length) (h1 : xs.length < 1073741824) {Q : D → Store → Prop} (k : ∀ d c', BagC c' → d ∈ xs → d.ok = true → Q d (st.set n c')) :
    ∃ r s2, viewCall F__law_some [.loc n, t] st = some (.ok r, s2) ∧ Q r s2 := by
  obtain ⟨d, c', e, hc', hm, hd⟩ := some_spec h ht hok h0 h1
  exact ⟨_, _, call_1 (ds := [t]) hn (by simpa using hok) (bag_ok h) e (bag_ok hc') hd, k d c' hc' hm hd⟩
theorem alike_call {st : Store} {d d' : D} (e : d = d') (hd : d.ok = true) (hs : Nat.ble (sz 60 d) 1000000 = true) {Q : D → Store → Prop} (k : Q (.bl true) st) : ∃ r s2, viewCall F__law_alike [d, d'] st = some (.ok r, s2) ∧ Q r s2 := by
  subst e
  exact ⟨_, _, call_0 (by intro x hx; simp at hx; rw [hx]; exact hd) (alike_spec hd (Nat.le_of_ble_eq_true hs)) rfl, k⟩
theorem bag_call {ns : List Int} {st : Store} {Q : D → Store → Prop} (k : ∀ c, BagC c → Q (.loc st.length) (st ++ [c])) : ∃ r s2, viewCall F__law_bag [.scr ns] st = some (.ok r, s2) ∧ Q r s2 := by
  obtain ⟨c, e, hc⟩ := bag_spec ns
  refine ⟨_, _, ?_, k c hc⟩
  unfold viewCall
  have e0 : locIds [D.scr ns] = [] := rfl
  rw [e0]
  have e1 : ([] : List Nat).mapM (fun n => st[n]?) = some [] := rfl
  dsimp only
  rw [e1]
  dsimp only
  have e2 : ([D.scr ns].all isTop && ([] : List Cell).all Cell.ok) = true := rfl
  have e3 : [D.scr ns].map (inView []) = [D.scr ns] := rfl
  rw [if_pos e2, e3, e]
  dsimp only
  rw [if_pos (by simp [bag_ok hc]), if_pos (by rfl)]
  simp [putBack, outOf]
/-- a call of a def without cells, told by its spec -/
theorem plain_call {F : Fn} {ds : List D} {st : Store} {r : D} (hd : ds.all D.ok = true) (hF : F ds [] = some (.ok r, [])) (hr : r.ok = true) {Q : D → Store → Prop} (k : Q r st) : ∃ r s2, viewCall F ds st = some (.ok r, s2) ∧ Q r s2 :=
  ⟨r, st, call_0 (fun d h => List.all_eq_true.mp hd d h) hF hr, k⟩
theorem okd_le {n m : Nat} {d : D} (h : okd n d = true) (hl : n ≤ m) : okd m d = true := by
  induction hl with
  | refl => exact h
  | step _ ih => exact okd_mono ih
end Sw.Lib

/-! Wp2: more of what combinators come to. -/
set_option linter.all false
set_option maxRecDepth 100000
namespace Sw
open PySem (Str)
section
variable {α β : Type} {e : Env} {st : Store}
theorem w_lock {i n : Nat} {c0 l : Cell} {c : Sx} {Q : SR → Store → Prop} (h1 : e[i]? = some (some (.loc n))) (h2 : (st[n]?).bind lockP = some (c0, l)) (h : WS c e (st.set n l) fun r s => (match r with | .ex _ _ => False | _ => True) ∧ Q r (s.set n c0)) : WS (sLock i c) e st Q := by
  obtain ⟨r, s, hc, hx, q⟩ := h
  refine ⟨r, s.set n c0, ?_, q⟩
  unfold sLock
  rw [h1]; dsimp only; rw [h2]; dsimp only; rw [hc]
  cases r with
  | ex x e' => exact hx.elim
  | _ => rfl
theorem w_locked {a : Ex} {Q : List D → Store → Prop} (h : WE a e st fun d s1 => ∃ ds, walkOf s1 d = some ds ∧ Q ds s1) : WE (iLocked a) e st Q := w_bind (h.mono fun d s1 q => w_look q)
theorem w_get2 {o k x : Ex} {Q : D → Store → Prop} (h : WE o e st fun d s1 => (dctOf s1 d).isSome = true ∧ WE k e s1 fun y s2 => WE x e s2 fun z s3 => ∃ kvs, dctOf s3 d = some kvs ∧ isKey y = true ∧ Q ((getKv kvs y).getD z) s3) : WE (eGet2 o k x) e st Q :=
  w_bind (h.mono fun d s1 ⟨h1, q⟩ => w_bind (w_look (by
    obtain ⟨kvs, hk⟩ := Option.isSome_iff_exists.mp h1
    exact ⟨(), by rw [hk]; rfl, w_bind (q.mono fun y s2 q => w_bind (q.mono fun z s3 ⟨kvs, h2, h3, q⟩ => w_look ⟨_, by rw [h2, Option.bind_some, if_pos h3], q⟩))⟩)))
theorem w_dnil {Q : List (D × D) → Store → Prop} (q : Q [] st) : WE dNil e st Q := ⟨[], st, rfl, q⟩
theorem w_dcons {k v : Ex} {r : Dx} {Q : List (D × D) → Store → Prop} (h : WE k e st fun x s1 => WE v e s1 fun y s2 => WE r e s2 fun ps s3 => Q ((x, y) :: ps) s3) : WE (dCons k v r) e st Q := w_bind (h.mono fun _ _ q => w_bind (q.mono fun _ _ q => w_bind (q.mono fun _ _ q => w_pure q)))
theorem w_disp {p : Dx} {Q : D → Store → Prop} (h : WE p e st fun ps s1 => (ps.all (fun p => isKey p.1) = true ∧ ps.length ≤ 15) ∧ Q (.loc s1.length) (s1 ++ [.dct (mkKv ps)])) : WE (eDisp p) e st Q := w_bind (h.mono fun ps s1 ⟨h1, q⟩ => ⟨_, _, if_pos h1, q⟩)
theorem w_dctC {Q : D → Store → Prop} (q : Q (.loc st.length) (st ++ [.dct []])) : WE eDctC e st Q := ⟨_, _, rfl, q⟩
theorem w_star {a : Ex} {as : Ax} {Q : List D → Store → Prop} (h : WE a e st fun d s1 => ∃ xs, seq? s1 d = some xs ∧ WE as e s1 fun ys s2 => Q (xs ++ ys) s2) : WE (aStar a as) e st Q := w_bind (h.mono fun d s1 ⟨xs, h1, q⟩ => w_bind (w_look ⟨xs, h1, w_bind (q.mono fun _ _ q => w_pure q)⟩))
theorem w_op2S {g : Store → D → D → Option (D × Store)} {a b : Ex} {Q : D → Store → Prop} (h : WE a e st fun x s1 => WE b e s1 fun y s2 => ∃ z s3, g s2 x y = some (z, s3) ∧ Q z s3) : WE (op2S g a b) e st Q :=
  w_bind (h.mono fun _ _ q => w_bind (q.mono fun _ _ ⟨z, s3, h1, q⟩ => ⟨z, s3, by dsimp only; rw [h1]; rfl, q⟩))
theorem w_meth2T {gl gt : Store → D → List D → Option (D × Store)} {a : Ex} {as : Ax} {Q : D → Store → Prop} (h : WE a e st fun x s1 => ∃ xs, x = .tup xs ∧ WE as e s1 fun ys s2 => ∃ z s3, gt s2 (.tup xs) ys = some (z, s3) ∧ Q z s3) : WE (eMeth2 gl gt a as) e st Q :=
  w_bind (h.mono fun x s1 ⟨xs, hx, q⟩ => by
    subst hx
    exact w_bind (w_look ⟨(), if_pos rfl, w_bind (q.mono fun _ _ ⟨z, s3, h1, q⟩ => ⟨z, s3, by dsimp only; rw [h1]; rfl, q⟩)⟩))
theorem w_meth2L {gl gt : Store → D → List D → Option (D × Store)} {a : Ex} {as : Ax} {Q : D → Store → Prop} (h : WE a e st fun x s1 => ∃ xs, x = .lst xs ∧ WE as e s1 fun ys s2 => ∃ z s3, gl s2 (.lst xs) ys = some (z, s3) ∧ Q z s3) : WE (eMeth2 gl gt a as) e st Q :=
  w_bind (h.mono fun x s1 ⟨xs, hx, q⟩ => by
    subst hx
    exact w_bind (w_look ⟨(), if_pos rfl, w_bind (q.mono fun _ _ ⟨z, s3, h1, q⟩ => ⟨z, s3, by dsimp only; rw [h1]; rfl, q⟩)⟩))
theorem w_raise {c : Str} {ns : List Str} {a : Ax} {Q : SR → Store → Prop} (h : WE a e st fun ds s1 => ds.length = ns.length ∧ Q (.ex ⟨c, (ns.zip ds).reverse⟩ e) s1) : WS (sRaiseX c ns a) e st Q := by
  obtain ⟨ds, s1, h1, h2, q⟩ := h
  exact ⟨_, s1, by unfold sRaiseX; rw [h1]; dsimp only; rw [if_pos h2], q⟩
theorem w_enumL {a : Ex} {Q : List D → Store → Prop} (h : WE a e st fun d s1 => ∃ xs, d = .lst xs ∧ Q (enumL xs) s1) : WE (iEnumL a) e st Q := w_bind (h.mono fun d s1 ⟨xs, h1, q⟩ => by subst h1; exact w_look ⟨_, rfl, q⟩)
theorem w_enumzip {a b : Ex} {Q : List D → Store → Prop} (h : WE a e st fun x s1 => WE b e s1 fun y s2 => ∃ xs ys, x = .lst xs ∧ y = .lst ys ∧ Q (enumZ xs ys) s2) : WE (iEnumZip a b) e st Q := w_bind (h.mono fun x _ q => w_bind (q.mono fun y _ ⟨xs, ys, h1, h2, q2⟩ => by subst h1 h2; exact w_look ⟨_, rfl, q2⟩))
theorem w_eif {t : Tx} {a b : Ex} {Q : D → Store → Prop} (h : WE t e st fun k s1 => WE (if k = true then a else b) e s1 Q) : WE (eIf t a b) e st Q := w_if (h.mono fun k s1 q => ⟨fun hk => by rw [if_pos hk] at q; exact q, fun hk => by rw [if_neg (by simp [hk])] at q; exact q⟩)
/-- a comprehension, item by item, the state going on -/
theorem w_compL {g : Tg} {c : Tx} {y : Ex} {e : Env} {Q : List D → Store → Prop} : ∀ {ds : List D} {st : Store} (I : List D → List D → Store → Prop) (pre : List D), I pre ds st →
    (∀ pre d ds st, I pre (d :: ds) st → ∃ e1 s1, g d e st = some (e1, s1) ∧ WE c e1 s1 fun b s2 => (b = true → WE y e1 s2 fun v s3 => I (pre ++ [v]) ds s3) ∧ (b = false → I pre ds s2)) →
    (∀ ys st, I ys [] st → Q ys st) → ∃ ys s, compL g c y ds e st = some (ys, s) ∧ Q (pre ++ ys) s
  | [], st, I, pre, h0, _, hd => ⟨[], st, rfl, by rw [List.append_nil]; exact hd pre st h0⟩
  | d :: ds, st, I, pre, h0, hs, hd => by
    obtain ⟨e1, s1, h1, b, s2, h2, q1, q2⟩ := hs pre d ds st h0
    unfold compL
    rw [h1]; dsimp only; rw [h2]
    cases b with
    | true =>
      obtain ⟨v, s3, h3, q⟩ := q1 rfl
      obtain ⟨ys, s, h4, q⟩ := w_compL (ds := ds) I (pre ++ [v]) q hs hd
      refine ⟨v :: ys, s, ?_, by simpa using q⟩
      dsimp only; rw [h3]; dsimp only; rw [h4]
    | false =>
      obtain ⟨ys, s, h4, q⟩ := w_compL (ds := ds) I pre (q2 rfl) hs hd
      exact ⟨ys, s, by dsimp only; exact h4, q⟩
theorem w_lcI {it : Act (List D)} {g : Tg} {vs : List Nat} {c : Tx} {y : Ex} {Q : D → Store → Prop} (h : WE it e st fun ds s1 => ∃ I : List D → List D → Store → Prop, I [] ds s1 ∧
    (∀ pre d ds st, I pre (d :: ds) st → ∃ e1 s1, g d (wipe e vs) st = some (e1, s1) ∧ WE c e1 s1 fun b s2 => (b = true → WE y e1 s2 fun v s3 => I (pre ++ [v]) ds s3) ∧ (b = false → I pre ds s2)) ∧ (∀ ys st, I ys [] st → Q (.lst ys) st)) : WE (eLc it g vs c y) e st Q :=
  w_lc (h.mono fun ds s1 ⟨I, h0, hs, hd⟩ => by
    obtain ⟨ys, s, h1, q⟩ := w_compL (Q := fun ys st => Q (.lst ys) st) I [] h0 hs hd
    exact ⟨ys, s, h1, by simpa using q⟩)
/-- .. where nothing of the store is changed -/
theorem compL_pf {g : Tg} {c : Tx} {y : Ex} {e : Env} {st : Store} (p : D → Bool) (f : D → D) : ∀ {ds : List D}, (∀ d ∈ ds, ∃ e1, g d e st = some (e1, st) ∧ c e1 st = some (.ok (p d), st) ∧ (p d = true → y e1 st = some (.ok (f d), st))) → compL g c y ds e st = some ((ds.filter p).map f, st)
  | [], _ => rfl
  | d :: ds, h => by
    obtain ⟨e1, h1, h2, h3⟩ := h d (by simp)
    have ih := compL_pf p f (ds := ds) fun x hx => h x (List.mem_cons_of_mem _ hx)
    unfold compL
    rw [h1]; dsimp only; rw [h2]
    cases hp : p d with
    | true => dsimp only; rw [h3 hp]; dsimp only; rw [ih, List.filter_cons_of_pos hp]; rfl
    | false => dsimp only; rw [ih, List.filter_cons_of_neg (by simp [hp])]
end
/-- a walk over coded things -/
theorem w_forX {α : Type} {g : Tg} {vs : List Nat} {b : Sx} {Q : SR → Store → Prop} {e : Env} {st : Store} (i : α → D) (xs : List α) (I : List α → Env → Store → Prop) (h0 : I [] e st)
    (hs : ∀ pre x post e st, xs = pre ++ x :: post → I pre e st → ∃ e1 s1, g (i x) e st = some (e1, s1) ∧ WS b e1 s1 fun r s2 => match r with
      | .nx e2 => I (pre ++ [x]) (wipe e2 vs) s2
      | .ct e2 => I (pre ++ [x]) (wipe e2 vs) s2
      | .bk e2 => Q (.nx (wipe e2 vs)) s2
      | r => Q r s2) (hd : ∀ e st, I xs e st → Q (.nx e) st) : WS (forL g vs b (xs.map i)) e st Q := by
  refine w_forL (fun ds e st => ∃ pre post, xs = pre ++ post ∧ ds = post.map i ∧ I pre e st) ⟨[], xs, rfl, rfl, h0⟩ ?_ ?_
  · rintro d ds e st ⟨pre, post, h1, h2, h3⟩
    cases post with
    | nil => cases h2
    | cons x post =>
      rw [List.map_cons] at h2
      cases h2
      obtain ⟨e1, s1, h4, h5⟩ := hs pre x post e st h1 h3
      refine ⟨e1, s1, h4, h5.mono fun r s2 q => ?_⟩
      cases r with
      | nx e2 => exact ⟨pre ++ [x], post, by rw [h1]; simp, rfl, q⟩
      | ct e2 => exact ⟨pre ++ [x], post, by rw [h1]; simp, rfl, q⟩
      | bk e2 => exact q
      | rt d => exact q
      | ex d f => exact q
  · rintro e st ⟨pre, post, h1, h2, h3⟩
    cases post with
    | nil => rw [List.append_nil] at h1; subst h1; exact hd e st h3
    | cons x post => cases h2
theorem range_split {n : Nat} {pre post : List Nat} {x : Nat} (h : List.range n = pre ++ x :: post) : x = pre.length ∧ pre = List.range pre.length ∧ x < n := by
  have hl : pre.length < n := by
    have := congrArg List.length h
    simp at this; omega
  have hx : (List.range n)[pre.length]? = some x := by rw [h]; simp
  rw [List.getElem?_range hl] at hx
  have hx := Option.some.inj hx
  refine ⟨hx.symm, ?_, by omega⟩
  have h2 : (List.range n).take pre.length = pre := by rw [h]; simp
  have h3 : List.range pre.length = (List.range n).take pre.length := by rw [List.take_range, Nat.min_eq_left (by omega)]
  rw [h3, h2]
/-- for k in range(n) -/
theorem w_forN {g : Tg} {vs : List Nat} {b : Sx} {Q : SR → Store → Prop} {e : Env} {st : Store} (n : Nat) (I : Nat → Env → Store → Prop) (h0 : I 0 e st)
    (hs : ∀ k e st, k < n → I k e st → ∃ e1 s1, g (.int (k : Nat)) e st = some (e1, s1) ∧ WS b e1 s1 fun r s2 => match r with
      | .nx e2 => I (k + 1) (wipe e2 vs) s2
      | .ct e2 => I (k + 1) (wipe e2 vs) s2
      | .bk e2 => Q (.nx (wipe e2 vs)) s2
      | r => Q r s2) (hd : ∀ e st, I n e st → Q (.nx e) st) : WS (forL g vs b (rangeL 0 (n : Nat))) e st Q := by
  have e1 : rangeL 0 (n : Nat) = (List.range n).map fun k : Nat => D.int (k : Nat) := by
    unfold rangeL
    rw [Int.sub_zero, Int.toNat_natCast]
    exact List.map_congr_left fun k _ => by rw [Int.zero_add]
  rw [e1]
  refine w_forX _ (List.range n) (fun pre e st => I pre.length e st) h0 (fun pre x post e st h1 h2 => ?_) (fun e st h => hd e st (by rw [List.length_range] at h; exact h))
  obtain ⟨hx, _, hlt⟩ := range_split h1
  subst hx
  obtain ⟨e1, s1, h3, h4⟩ := hs pre.length e st hlt h2
  refine ⟨e1, s1, h3, h4.mono fun r s2 q => ?_⟩
  cases r with
  | nx e2 => show I (pre ++ [_]).length _ _; rw [List.length_append]; exact q
  | ct e2 => show I (pre ++ [_]).length _ _; rw [List.length_append]; exact q
  | bk e2 => exact q
  | rt d => exact q
  | ex d f => exact q
/-! ### calls -/
theorem call_0x {F : Fn} {ds : List D} {st : Store} {x : Exc} (hd : ∀ d ∈ ds, D.ok d = true) (hF : F ds [] = some (.error x, [])) (hx : x.ok = true) : viewCall F ds st = some (.error x, st) := by
  unfold viewCall
  rw [locIds_ok hd]
  have e1 : ([] : List Nat).mapM (fun n => st[n]?) = some [] := rfl
  dsimp only
  rw [e1, map_inView_ok hd]
  dsimp only
  have e2 : (ds.all isTop && ([] : List Cell).all Cell.ok) = true := by
    rw [Bool.and_eq_true]
    exact ⟨List.all_eq_true.mpr fun d h => ok_top (hd d h), rfl⟩
  rw [if_pos e2, hF]
  dsimp only
  rw [if_pos (by rfl), if_pos hx]
  simp [putBack]
/-- a call with one cell, that comes first; a new cell comes back -/
theorem call_1L {F : Fn} {ds : List D} {st : Store} {n : Nat} {c c' c2 : Cell} (hn : st[n]? = some c) (hd : ∀ d ∈ ds, D.ok d = true) (hc : c.ok = true) (hF : F (.loc 0 :: ds) [c] = some (.ok (.loc 1), [c', c2])) (hc' : c'.ok = true) (hc2 : c2.ok = true) :
    viewCall F (.loc n :: ds) st = some (.ok (.loc st.length), st.set n c' ++ [c2]) := by
  have e0 : locIds (.loc n :: ds) = [n] := by
    unfold locIds
    rw [locIds_ok hd]
    rfl
  unfold viewCall
  rw [e0]
  have e1 : [n].mapM (fun n => st[n]?) = some [c] := by
    rw [List.mapM_cons, hn]; rfl
  dsimp only
  rw [e1]
  dsimp only
  have e2 : ((D.loc n :: ds).all isTop && ([c] : List Cell).all Cell.ok) = true := by
    rw [Bool.and_eq_true]
    refine ⟨List.all_eq_true.mpr fun d h => ?_, by simp [hc]⟩
    rcases List.mem_cons.mp h with z | z
    · rw [z]; rfl
    · exact ok_top (hd d z)
  have e3 : (D.loc n :: ds).map (inView [n]) = .loc 0 :: ds := by
    rw [List.map_cons, map_inView_ok hd]
    show D.loc ([n].idxOf n) :: ds = _
    simp
  rw [if_pos e2, e3, hF]
  dsimp only
  rw [if_pos (by simp [hc', hc2])]
  simp [putBack, isTop, outOf]
/-- a def that raises -/
theorem fn_ofX {n N : Nat} {b : Sx} {ds : List D} {x : Exc} (hl : ds.length = n) (hx : x.ok = true) (h : WS b (startE N ds) [] fun r _ => ∃ e, r = .ex x e) : fn n N b ds [] = some (.error x, []) := by
  obtain ⟨r, s, h1, e, rfl⟩ := h
  unfold fn
  rw [if_pos hl, h1]
  dsimp only
  unfold clean
  rw [if_pos (by rfl)]
  dsimp only
  rw [if_pos hx]
  rfl
theorem fn_pure {n N : Nat} {b : Sx} {ds : List D} {r : D} (hl : ds.length = n) (hr : r.ok = true) (h : WS b (startE N ds) [] fun q _ => q = .rt r) : fn n N b ds [] = some (.ok r, []) := by
  obtain ⟨q, s, h1, rfl⟩ := h
  unfold fn
  rw [if_pos hl, h1]
  exact clean_ok rfl hr
end Sw

/-! Lib2: houses as laws draw them: mirrors, and what they come to. -/
set_option linter.all false
set_option maxRecDepth 100000
set_option maxHeartbeats 4000000
namespace Sw.Lib
open PySem (Str)
noncomputable def b_signs_of : Sx := (sRet (op2 vIx (eVar 0) (eC (.int 0))))
noncomputable def F_signs_of : Fn := fn 1 1 b_signs_of
noncomputable def b_states_of : Sx := (sRet (opA gTuple (aCons (eLc (iSeq (op2 vIx (eVar 0) (eC (.int 1)))) (gTup [(gName 2), (gName 3), (gName 4)]) [1, 2, 3, 4] tYes (eVar 2)) aNil)))
noncomputable def F_states_of : Fn := fn 1 5 b_states_of
noncomputable def b_index_of : Sx := (sRet (eMeth2 mIndexL mIndexT (eCall F_states_of (aCons (eVar 0) aNil)) (aCons (eVar 1) aNil)))
noncomputable def F_index_of : Fn := fn 2 2 b_index_of
noncomputable def b_next_by : Sx := (sSeq (sSet 3 (op2 vIx (op2 vIx (op2 vIx (op2 vIx (eVar 0) (eC (.int 1))) (eVar 1)) (eC (.int 2))) (eMeth2 mIndexL mIndexT (eCall F_signs_of (aCons (eVar 0) aNil)) (aCons (eVar 2) aNil))))
  (sRet (eIf (tV (op1 vIsN (eVar 3))) (eC .non) (eCall F_index_of (aCons (eVar 0) (aCons (eVar 3) aNil))))))
noncomputable def F_next_by : Fn := fn 3 4 b_next_by
noncomputable def b__law_next : Sx := (sSeq (sSet 3 (op2 vIx (op2 vIx (op2 vIx (op2 vIx (eVar 0) (eC (.int 1))) (eVar 1)) (eC (.int 2))) (eMeth2 mIndexL mIndexT (op2 vIx (eVar 0) (eC (.int 0))) (aCons (eVar 2) aNil))))
  (sRet (eIf (tV (op1 vIsN (eVar 3))) (eC .non) (eMeth2 mIndexL mIndexT (eLc (iSeq (op2 vIx (eVar 0) (eC (.int 1)))) (gName 5) [4, 5] tYes (op2 vIx (eVar 5) (eC (.int 0)))) (aCons (eVar 3) aNil)))))
noncomputable def F__law_next : Fn := fn 3 6 b__law_next
noncomputable def b__law_mixed_w1 : Sx := (sDo (eMeth "list" mAppend (eVar 3) (aCons (eMeth "list" mPop (eVar 2) (aCons (eCall F__law_take (aCons (eVar 0) (aCons (opA gLen (aCons (eVar 2) aNil)) aNil))) aNil)) aNil)))
noncomputable def b__law_mixed_t2 : Tx := (tV (op2 vNe (eVar 2) (eLst aNil)))
noncomputable def b__law_mixed : Sx := (sSeq (sPar [gName 2, gName 3] (aCons (opAS gListC (aCons (eVar 1) aNil)) (aCons (eLstC aNil) aNil)))
  (sSeq (sWhile b__law_mixed_t2 [] b__law_mixed_w1)
  (sRet (eVar 3))))
noncomputable def F__law_mixed : Fn := fn 2 4 b__law_mixed
noncomputable def b__law_kinds : Sx := (sRet (eLc (iRange1 (eVar 1)) (gName 3) [2, 3] tYes (eCall F__law_some (aCons (eVar 0) (aCons (eLst (aCons (eC (.str "yes")) (aCons (eC (.str "no")) (aCons (eC (.str "no")) (aCons (eC (.str "yes")) (aCons (eC (.str "open")) aNil)))))) aNil)))))
noncomputable def F__law_kinds : Fn := fn 2 4 b__law_kinds
noncomputable def b__law_any_house_f1 : Sx := (sDo (eMeth "list" mAppend (eVar 4) (aCons (eTup (aCons (eVar 5) (aCons (eVar 6) (aCons (opA gTuple (aCons (eLc (iSeq (eVar 3)) (gName 8) [7, 8] tYes (eIf (tV (op2 vGt (eCall F__law_take (aCons (eVar 0) (aCons (eC (.int 4)) aNil))) (eC (.int 0)))) (eCall F__law_some (aCons (eVar 0) (aCons (eVar 2) aNil))) (eC .non))) aNil)) aNil)))) aNil)))
noncomputable def b__law_any_house : Sx := (sSeq (sAsg (eTup (aCons (eSlice (eLst (aCons (eC (.str "q")) (aCons (eC (.str "r")) (aCons (eC (.str "s")) (aCons (eC (.str "t")) (aCons (eC (.str "u")) aNil)))))) pNone (pSome (op2 vAdd (eC (.int 1)) (eCall F__law_take (aCons (eVar 0) (aCons (eVar 1) aNil)))))) (aCons (eSlice (eTup (aCons (eC (.str "a")) (aCons (eC (.str "b")) aNil))) pNone (pSome (op2 vAdd (eC (.int 1)) (eCall F__law_take (aCons (eVar 0) (aCons (eC (.int 2)) aNil)))))) aNil))) (gTup [(gName 2), (gName 3)]))
  (sSeq (sSet 4 (eLstC aNil))
  (sSeq (sFor (iZip2 (eVar 2) (eCall F__law_kinds (aCons (eVar 0) (aCons (opA gLen (aCons (eVar 2) aNil)) aNil)))) (gTup [(gName 5), (gName 6)]) [5, 6] b__law_any_house_f1)
  (sRet (eTup (aCons (eVar 3) (aCons (opA gTuple (aCons (eVar 4) aNil)) aNil)))))))
noncomputable def F__law_any_house : Fn := fn 2 9 b__law_any_house
noncomputable def b__law_round_house : Sx := (sSeq (sSet 1 (op2 vAdd (eC (.int 2)) (eCall F__law_take (aCons (eVar 0) (aCons (eC (.int 6)) aNil)))))
  (sSeq (sSet 2 (eSlice (eLst (aCons (eC (.str "q")) (aCons (eC (.str "r")) (aCons (eC (.str "s")) (aCons (eC (.str "t")) (aCons (eC (.str "u")) (aCons (eC (.str "v")) (aCons (eC (.str "w")) aNil)))))))) pNone (pSome (eVar 1))))
  (sSeq (sSet 3 (eIf (tV (op2 vEq (eCall F__law_take (aCons (eVar 0) (aCons (eC (.int 2)) aNil))) (eC (.int 0)))) (op2 vAdd (eLst (aCons (eC (.str "yes")) aNil)) (op2 vMul (eLst (aCons (eC (.str "no")) aNil)) (op2 vSub (eVar 1) (eC (.int 1))))) (eCall F__law_kinds (aCons (eVar 0) (aCons (eVar 1) aNil)))))
  (sRet (eTup (aCons (eTup (aCons (eC (.str "a")) aNil)) (aCons (opA gTuple (aCons (eLc (iEnumZip (eVar 2) (eVar 3)) (gTup [(gName 5), (gTup [(gName 6), (gName 7)])]) [4, 5, 6, 7] tYes (eTup (aCons (eVar 6) (aCons (eVar 7) (aCons (eTup (aCons (op2 vIx (eVar 2) (op2 vMod (opA gInt (aCons (op2 vAdd (eVar 5) (eC (.int 1))) aNil)) (eVar 1))) aNil)) aNil))))) aNil)) aNil)))))))
noncomputable def F__law_round_house : Fn := fn 1 8 b__law_round_house
noncomputable def b__law_product_house_f1 : Sx := (sSet 3 (op2 vAdd (eVar 3) (eLc (iRange1 (eVar 2)) (gName 5) [10, 5] tYes (op2 vAdd (op2 vIx (eC (.str "pqr")) (eVar 4)) (op2 vIx (eC (.str "xy")) (eVar 5))))))
noncomputable def b__law_product_house_f2 : Sx := (sSeq (sAsg (eTup (aCons (op2 vDiv (opA gInt (aCons (eVar 7) aNil)) (eVar 2)) (aCons (op2 vMod (opA gInt (aCons (eVar 7) aNil)) (eVar 2)) aNil))) (gTup [(gName 4), (gName 5)]))
  (sSeq (sSet 9 (eTup (aCons (op2 vIx (eVar 3) (op2 vAdd (op2 vMul (op2 vMod (opA gInt (aCons (op2 vAdd (eVar 4) (eC (.int 1))) aNil)) (eVar 1)) (eVar 2)) (eVar 5))) (aCons (op2 vIx (eVar 3) (op2 vAdd (op2 vMul (eVar 4) (eVar 2)) (op2 vMod (opA gInt (aCons (op2 vAdd (eVar 5) (eC (.int 1))) aNil)) (eVar 2)))) aNil))))
  (sDo (eMeth "list" mAppend (eVar 6) (aCons (eTup (aCons (eVar 8) (aCons (eIf (tV (op2 vEq (eVar 7) (eC (.int 0)))) (eC (.str "yes")) (eCall F__law_some (aCons (eVar 0) (aCons (eLst (aCons (eC (.str "no")) (aCons (eC (.str "no")) (aCons (eC (.str "open")) aNil)))) aNil)))) (aCons (eVar 9) aNil)))) aNil)))))
noncomputable def b__law_product_house : Sx := (sSeq (sPar [gName 1, gName 2] (aCons (op2 vAdd (eC (.int 2)) (eCall F__law_take (aCons (eVar 0) (aCons (eC (.int 2)) aNil)))) (aCons (eC (.int 2)) aNil)))
  (sSeq (sSet 3 (eLst aNil))
  (sSeq (sFor (iRange1 (eVar 1)) (gName 4) [4] b__law_product_house_f1)
  (sSeq (sSet 6 (eLstC aNil))
  (sSeq (sFor (iEnumL (eVar 3)) (gTup [(gName 7), (gName 8)]) [4, 5, 7, 8, 9] b__law_product_house_f2)
  (sRet (eTup (aCons (eTup (aCons (eC (.str "a")) (aCons (eC (.str "b")) aNil))) (aCons (opA gTuple (aCons (eVar 6) aNil)) aNil)))))))))
noncomputable def F__law_product_house : Fn := fn 1 11 b__law_product_house
noncomputable def b__law_turning_house_f1 : Sx := (sAsg (op2S vDictZip (eVar 2) (eCall F__law_mixed (aCons (eVar 0) (aCons (eVar 2) aNil)))) (gSet (eVar 4) (eVar 5)))
noncomputable def b__law_turning_house_f2 : Sx := (sIf (tV (op2 vNe (eVar 6) (eLst aNil)))
  (sSeq (sDo (eMeth "list" mAppend (eVar 7) (aCons (eMeth "list" mPop (eVar 6) aNil) aNil)))
  (sSet 6 (op2S vAddC (eVar 6) (eLc (iSeq (eVar 3)) (gName 5) [10, 5] (tV (op2 vNin (op2 vIx (op2 vIx (eVar 4) (eVar 5)) (op2 vIx (eVar 7) (op1 vNeg (eC (.int 1))))) (op2 vAdd (eVar 7) (eVar 6)))) (op2 vIx (op2 vIx (eVar 4) (eVar 5)) (op2 vIx (eVar 7) (op1 vNeg (eC (.int 1)))))))))
  sSkip)
noncomputable def b__law_turning_house : Sx := (sSeq (sAsg (eTup (aCons (eSlice (eLst (aCons (eC (.str "q")) (aCons (eC (.str "r")) (aCons (eC (.str "s")) (aCons (eC (.str "t")) (aCons (eC (.str "u")) (aCons (eC (.str "v")) (aCons (eC (.str "w")) aNil)))))))) pNone (pSome (op2 vAdd (eC (.int 1)) (eCall F__law_take (aCons (eVar 0) (aCons (eVar 1) aNil)))))) (aCons (eSlice (eTup (aCons (eC (.str "a")) (aCons (eC (.str "b")) aNil))) pNone (pSome (op2 vAdd (eC (.int 1)) (eCall F__law_take (aCons (eVar 0) (aCons (eC (.int 2)) aNil)))))) aNil))) (gTup [(gName 2), (gName 3)]))
  (sSeq (sSet 4 eDctC)
  (sSeq (sFor (iSeq (eVar 3)) (gName 5) [5] b__law_turning_house_f1)
  (sSeq (sAsg (eTup (aCons (eLstC (aCons (op2 vIx (eVar 2) (eC (.int 0))) aNil)) (aCons (eLstC aNil) aNil))) (gTup [(gName 6), (gName 7)]))
  (sSeq (sFor (iRange1 (op2 vMul (eC (.int 3)) (opA gLen (aCons (eVar 2) aNil)))) (gName 8) [8] b__law_turning_house_f2)
  (sSeq (sIf (tV (op2 vLt (op1 vLenSet (eVar 7)) (opA gLen (aCons (eVar 2) aNil))))
  (sAsg (op2S vDictZip (eVar 2) (op2 vAdd (eSlice (eVar 2) (pSome (eC (.int 1))) pNone) (eSlice (eVar 2) pNone (pSome (eC (.int 1)))))) (gSet (eVar 4) (op2 vIx (eVar 3) (eC (.int 0)))))
  sSkip)
  (sSeq (sSet 9 (eCall F__law_kinds (aCons (eVar 0) (aCons (opA gLen (aCons (eVar 2) aNil)) aNil))))
  (sRet (eTup (aCons (eVar 3) (aCons (opA gTuple (aCons (eLc (iZip2 (eVar 2) (eVar 9)) (gTup [(gName 11), (gName 12)]) [10, 11, 12] tYes (eTup (aCons (eVar 11) (aCons (eVar 12) (aCons (opA gTuple (aCons (eLc (iSeq (eVar 3)) (gName 5) [10, 5] tYes (op2 vIx (op2 vIx (eVar 4) (eVar 5)) (eVar 11))) aNil)) aNil))))) aNil)) aNil)))))))))))
noncomputable def F__law_turning_house : Fn := fn 2 13 b__law_turning_house
/-! ### houses -/
structure Hs where
  n : Nat
  m : Nat
  nm : Nat → Str
  kd : Nat → Str
  nx : Nat → Nat → Option Nat
def sgn (j : Nat) : Str := if j = 0 then "a" else "b"
def Hs.sg (h : Hs) : List D := (List.range h.m).map fun j => .str (sgn j)
def Hs.to (h : Hs) (o : Option Nat) : D := match o with | none => .non | some k => .str (h.nm k)
def Hs.row (h : Hs) (i : Nat) : D := .tup [.str (h.nm i), .str (h.kd i), .tup ((List.range h.m).map fun j => h.to (h.nx i j))]
def Hs.dat (h : Hs) : D := .tup [.tup h.sg, .tup ((List.range h.n).map h.row)]
structure Hs.Ok (h : Hs) : Prop where
  n0 : 1 ≤ h.n
  n7 : h.n ≤ 7
  m0 : 1 ≤ h.m
  m2 : h.m ≤ 2
  inj : ∀ i j, i < h.n → j < h.n → h.nm i = h.nm j → i = j
  nxt : ∀ i j k, i < h.n → j < h.m → h.nx i j = some k → k < h.n
theorem okd_range {f : Nat → D} {n k : Nat} (h : ∀ i, i < n → okd k (f i) = true) : ((List.range n).map f).all (okd k) = true := by
  rw [List.all_map, List.all_eq_true]
  intro x hx
  exact h x (List.mem_range.mp hx)
theorem Hs.to_ok (h : Hs) (o : Option Nat) : okd 57 (h.to o) = true := by cases o <;> rfl
theorem Hs.row_ok (h : Hs) (i : Nat) : okd 58 (h.row i) = true := by
  show (okd 57 (.str (h.nm i)) && (okd 57 (.str (h.kd i)) && (okd 57 (.tup ((List.range h.m).map fun j => h.to (h.nx i j))) && true))) = true
  have : okd 57 (.tup ((List.range h.m).map fun j => h.to (h.nx i j))) = true := okd_range (k := 56) fun j _ => by cases h.nx i j <;> rfl
  rw [this]; rfl
theorem Hs.ok (h : Hs) : h.dat.ok = true := by
  show (okd 59 (.tup h.sg) && (okd 59 (.tup ((List.range h.n).map h.row)) && true)) = true
  have h1 : okd 59 (.tup h.sg) = true := okd_range (k := 58) fun j _ => rfl
  have h2 : okd 59 (.tup ((List.range h.n).map h.row)) = true := okd_range (k := 58) fun i _ => h.row_ok i
  rw [h1, h2]; rfl
theorem seq_at {st : Store} {xs : List D} {i : Nat} {d : D} (h : xs[i]? = some d) : vIx st (.tup xs) (.int i) = some d ∧ vIx st (.lst xs) (.int i) = some d := by
  have hl := (List.getElem?_eq_some_iff.mp h).1
  have e : ((ix? xs.length (i : Int)).bind fun j => xs[j]?) = some d := by
    unfold ix?
    rw [if_pos (by omega), if_pos (by omega), Option.bind_some]
    rw [Int.toNat_natCast]; exact h
  exact ⟨e, e⟩
theorem range_at {f : Nat → D} {n i : Nat} (hi : i < n) : ((List.range n).map f)[i]? = some (f i) := by
  rw [List.getElem?_map, List.getElem?_range hi]; rfl
theorem first_at {g : Nat → Str} {n k : Nat} (hk : k < n) (inj : ∀ i j, i < n → j < n → g i = g j → i = j) : firstIx ((List.range n).map fun i => .str (g i)) (.str (g k)) = some k := by
  unfold firstIx
  have h1 : (((List.range n).map fun i => D.str (g i)).all D.ok) = true := okd_range (k := 60) fun _ _ => rfl
  rw [h1, if_pos (by rfl)]
  rw [List.findIdx?_eq_some_iff_getElem]
  refine ⟨by simpa using hk, ?_, fun j hj => ?_⟩
  · simp [D.eqv, eqn]
  · simp only [List.getElem_map, List.getElem_range]
    intro hc
    have : g j = g k := by simpa [D.eqv, eqn] using hc
    exact absurd (inj j k (by omega) hk this) (by omega)
theorem sgn_inj {m : Nat} (hm : m ≤ 2) : ∀ i j, i < m → j < m → sgn i = sgn j → i = j := by
  intro i j hi hj h
  have a : i = 0 ∨ i = 1 := by omega
  have b : j = 0 ∨ j = 1 := by omega
  rcases a with rfl | rfl <;> rcases b with rfl | rfl <;> first | rfl | (exact absurd h (by decide))
def Hs.at_ (h : Hs) (o : Option Nat) : D := match o with | none => .non | some k => .int (k : Nat)
theorem Hs.at_ok (h : Hs) (o : Option Nat) : (h.at_ o).ok = true := by cases o <;> rfl
theorem law_next_spec {h : Hs} (ho : h.Ok) {s j : Nat} (hs : s < h.n) (hj : j < h.m) : F__law_next [h.dat, .int (s : Nat), .str (sgn j)] [] = some (.ok (h.at_ (h.nx s j)), []) := by
  refine fn_pure rfl (h.at_ok _) ?_
  show WS b__law_next [some h.dat, some (.int (s : Nat)), some (.str (sgn j)), none, none, none] [] _
  unfold b__law_next
  have e1 : ∀ st, vIx st h.dat (.int 1) = some (.tup ((List.range h.n).map h.row)) := fun _ => rfl
  have e2 : ∀ st, vIx st h.dat (.int 0) = some (.tup h.sg) := fun _ => rfl
  have e3 : ∀ st, vIx st (.tup ((List.range h.n).map h.row)) (.int (s : Nat)) = some (h.row s) := fun st => (seq_at (range_at hs)).1
  have e4 : ∀ st, vIx st (h.row s) (.int 2) = some (.tup ((List.range h.m).map fun j => h.to (h.nx s j))) := fun _ => rfl
  have e5 : ∀ st, vIx st (.tup ((List.range h.m).map fun j => h.to (h.nx s j))) (.int (j : Nat)) = some (h.to (h.nx s j)) := fun st => (seq_at (range_at hj)).1
  have e6 : firstIx h.sg (.str (sgn j)) = some j := first_at hj (sgn_inj ho.m2)
  refine w_then (w_set (w_op2 (w_op2 (w_op2 (w_op2 (w_var rfl (w_c ⟨_, e1 _, w_var rfl ⟨_, e3 _, w_c ⟨_, e4 _, ?_⟩⟩⟩)))))))
  refine w_meth2T (w_op2 (w_var rfl (w_c ⟨_, e2 _, _, rfl, w_cons (w_var rfl (w_nil ⟨_, _, by unfold mIndexT; dsimp only; rw [e6]; rfl, _, e5 _, ?_⟩))⟩)))
  refine w_ret (w_eif ?_)
  cases hx : h.nx s j with
  | none =>
    refine w_tv (w_op1 (w_var rfl ⟨.bl true, rfl, true, rfl, ?_⟩))
    rw [if_pos rfl]
    exact w_c rfl
  | some k =>
    refine w_tv (w_op1 (w_var rfl ⟨.bl false, rfl, false, rfl, ?_⟩))
    rw [if_neg (by decide)]
    have hc : compL (gName 5) tYes (op2 vIx (eVar 5) (eC (.int 0))) ((List.range h.n).map h.row) (wipe [some h.dat, some (.int (s : Nat)), some (.str (sgn j)), some (.str (h.nm k)), none, none] [4, 5]) [] = some ((List.range h.n).map fun i => .str (h.nm i), []) := by
      refine compL_map (fun i => h.row i) (fun i => .str (h.nm i)) fun i hi => ⟨_, rfl, ?_⟩
      exact w_op2 (w_var rfl (w_c ⟨_, rfl, rfl, rfl⟩))
    refine w_meth2L (w_lc (w_seqi (w_op2 (w_var rfl (w_c ⟨_, e1 _, _, rfl, _, _, hc, _, rfl, w_cons (w_var rfl (w_nil ⟨.int (k : Nat), [], ?_, rfl⟩))⟩)))))
    unfold mIndexL
    dsimp only
    show (firstIx ((List.range h.n).map fun i => D.str (h.nm i)) (.str (h.nm k))).map _ = _
    rw [first_at (ho.nxt s j k hs hj hx) ho.inj]; rfl
theorem states_of_spec {h : Hs} : F_states_of [h.dat] [] = some (.ok (.tup ((List.range h.n).map fun i => .str (h.nm i))), []) := by
  refine fn_pure rfl (okd_range (k := 59) fun _ _ => rfl) ?_
  show WS b_states_of [some h.dat, none, none, none, none] [] _
  unfold b_states_of
  have e1 : ∀ st, vIx st h.dat (.int 1) = some (.tup ((List.range h.n).map h.row)) := fun _ => rfl
  have hc : compL (gTup [gName 2, gName 3, gName 4]) tYes (eVar 2) ((List.range h.n).map h.row) (wipe [some h.dat, none, none, none, none] [1, 2, 3, 4]) [] = some ((List.range h.n).map fun i => .str (h.nm i), []) := by
    refine compL_map (fun i => h.row i) (fun i => .str (h.nm i)) fun i hi => ⟨_, rfl, w_var rfl ⟨rfl, rfl⟩⟩
  exact w_ret (w_opA (w_cons (w_lc (w_seqi (w_op2 (w_var rfl (w_c ⟨_, e1 _, _, rfl, _, _, hc, w_nil ⟨_, rfl, rfl⟩⟩)))))))
theorem signs_of_spec {h : Hs} : F_signs_of [h.dat] [] = some (.ok (.tup h.sg), []) := by
  refine fn_pure rfl (okd_range (k := 59) fun _ _ => rfl) ?_
  show WS b_signs_of [some h.dat] [] _
  unfold b_signs_of
  have e2 : ∀ st, vIx st h.dat (.int 0) = some (.tup h.sg) := fun _ => rfl
  exact w_ret (w_op2 (w_var rfl (w_c ⟨_, e2 _, rfl⟩)))
theorem sg_ok (h : Hs) : (D.tup h.sg).ok = true := okd_range (k := 59) fun _ _ => rfl
theorem nms_ok (h : Hs) : (D.tup ((List.range h.n).map fun i => .str (h.nm i))).ok = true := okd_range (k := 59) fun _ _ => rfl
theorem index_of_spec {h : Hs} (ho : h.Ok) {k : Nat} (hk : k < h.n) : F_index_of [h.dat, .str (h.nm k)] [] = some (.ok (.int (k : Nat)), []) := by
  refine fn_pure rfl rfl ?_
  show WS b_index_of [some h.dat, some (.str (h.nm k))] [] _
  unfold b_index_of
  refine w_ret (w_meth2T (w_call (w_cons (w_var rfl (w_nil ⟨_, _, call_0 (by simpa using h.ok) states_of_spec (nms_ok h), _, rfl, w_cons (w_var rfl (w_nil ⟨.int (k : Nat), [], ?_, rfl⟩))⟩)))))
  unfold mIndexT
  dsimp only
  rw [first_at hk ho.inj]; rfl
theorem next_by_spec {h : Hs} (ho : h.Ok) {s j : Nat} (hs : s < h.n) (hj : j < h.m) : F_next_by [h.dat, .int (s : Nat), .str (sgn j)] [] = some (.ok (h.at_ (h.nx s j)), []) := by
  refine fn_pure rfl (h.at_ok _) ?_
  show WS b_next_by [some h.dat, some (.int (s : Nat)), some (.str (sgn j)), none] [] _
  unfold b_next_by
  have e1 : ∀ st, vIx st h.dat (.int 1) = some (.tup ((List.range h.n).map h.row)) := fun _ => rfl
  have e3 : ∀ st, vIx st (.tup ((List.range h.n).map h.row)) (.int (s : Nat)) = some (h.row s) := fun st => (seq_at (range_at hs)).1
  have e4 : ∀ st, vIx st (h.row s) (.int 2) = some (.tup ((List.range h.m).map fun j => h.to (h.nx s j))) := fun _ => rfl
  have e5 : ∀ st, vIx st (.tup ((List.range h.m).map fun j => h.to (h.nx s j))) (.int (j : Nat)) = some (h.to (h.nx s j)) := fun st => (seq_at (range_at hj)).1
  have e6 : firstIx h.sg (.str (sgn j)) = some j := first_at hj (sgn_inj ho.m2)
  refine w_then (w_set (w_op2 (w_op2 (w_op2 (w_op2 (w_var rfl (w_c ⟨_, e1 _, w_var rfl ⟨_, e3 _, w_c ⟨_, e4 _, ?_⟩⟩⟩)))))))
  refine w_meth2T (w_call (w_cons (w_var rfl (w_nil ⟨_, _, call_0 (by simpa using h.ok) signs_of_spec (sg_ok h), _, rfl, w_cons (w_var rfl (w_nil ⟨_, _, by unfold mIndexT; dsimp only; rw [e6]; rfl, _, e5 _, ?_⟩))⟩))))
  refine w_ret (w_eif ?_)
  cases hx : h.nx s j with
  | none =>
    refine w_tv (w_op1 (w_var rfl ⟨.bl true, rfl, true, rfl, ?_⟩))
    rw [if_pos rfl]
    exact w_c rfl
  | some k =>
    refine w_tv (w_op1 (w_var rfl ⟨.bl false, rfl, false, rfl, ?_⟩))
    rw [if_neg (by decide)]
    exact w_call (w_cons (w_var rfl (w_cons (w_var rfl (w_nil ⟨_, _, call_0 (by
      intro d hd
      simp only [List.mem_cons, List.not_mem_nil, or_false] at hd
      rcases hd with rfl | rfl
      · exact h.ok
      · rfl) (index_of_spec ho (ho.nxt s j k hs hj hx)) rfl, rfl⟩)))))
/-! ### rows -/
/-- rows of t signs, and where they lead -/
def Hs.line (h : Hs) : Nat → List (List Nat × Nat)
  | 0 => [([], 0)]
  | t + 1 => (h.line t).flatMap fun p => (List.range h.m).filterMap fun j => (h.nx p.2 j).map fun k => (p.1 ++ [j], k)
def rowD (r : List Nat) : D := .tup (r.map fun j => .str (sgn j))
def prD (p : List Nat × Nat) : D := .tup [rowD p.1, .int (p.2 : Nat)]
theorem rowD_ok (r : List Nat) : okd 50 (rowD r) = true := by
  show (r.map fun j => D.str (sgn j)).all (okd 49) = true
  rw [List.all_map, List.all_eq_true]; intro _ _; rfl
def Hs.run (h : Hs) (s : Nat) : List Nat → Option Nat
  | [] => some s
  | j :: r => (h.nx s j).bind fun k => h.run k r
theorem Hs.run_snoc (h : Hs) (j : Nat) : ∀ (r : List Nat) (s : Nat), h.run s (r ++ [j]) = (h.run s r).bind fun k => h.nx k j
  | [], s => by show (h.nx s j).bind (fun k => some k) = (some s).bind _; rw [Option.bind_some]; cases h.nx s j <;> rfl
  | i :: r, s => by
    show (h.nx s i).bind (fun k => h.run k (r ++ [j])) = ((h.nx s i).bind fun k => h.run k r).bind _
    cases h.nx s i with
    | none => rfl
    | some k => exact Hs.run_snoc h j r k
theorem Hs.line_run {h : Hs} (ho : h.Ok) : ∀ (t : Nat) (p : List Nat × Nat), p ∈ h.line t → h.run 0 p.1 = some p.2 ∧ p.2 < h.n ∧ p.1.length = t ∧ ∀ j ∈ p.1, j < h.m
  | 0, p, hp => by
    have : p = ([], 0) := by simpa [Hs.line] using hp
    subst this
    exact ⟨rfl, ho.n0, rfl, by simp⟩
  | t + 1, p, hp => by
    unfold Hs.line at hp
    obtain ⟨q, hq, hp⟩ := List.mem_flatMap.mp hp
    obtain ⟨j, hj, hp⟩ := List.mem_filterMap.mp hp
    obtain ⟨i1, i2, i3, i4⟩ := Hs.line_run ho t q hq
    have hj := List.mem_range.mp hj
    cases hx : h.nx q.2 j with
    | none => rw [hx] at hp; cases hp
    | some k =>
      rw [hx] at hp
      cases hp
      refine ⟨?_, ho.nxt _ _ _ i2 hj hx, by simp [i3], fun i hi => ?_⟩
      · show h.run 0 (q.1 ++ [j]) = _
        rw [h.run_snoc, i1]; exact hx
      · rcases List.mem_append.mp hi with z | z
        · exact i4 i z
        · have : i = j := by simpa using z
          rw [this]; exact hj
theorem Hs.line_len {h : Hs} (ho : h.Ok) (t : Nat) : (h.line (t + 1)).length ≤ 2 * (h.line t).length := by
  show ((h.line t).flatMap _).length ≤ _
  have : ∀ xs : List (List Nat × Nat), (xs.flatMap fun p => (List.range h.m).filterMap fun j => (h.nx p.2 j).map fun k => (p.1 ++ [j], k)).length ≤ 2 * xs.length := fun xs => by
    induction xs with
    | nil => simp
    | cons x xs ih =>
      rw [List.flatMap_cons, List.length_append, List.length_cons]
      have h1 := List.length_filterMap_le (fun j => (h.nx x.2 j).map fun k => (x.1 ++ [j], k)) (List.range h.m)
      rw [List.length_range] at h1
      have := ho.m2
      omega
  exact this _
/-- all rows of less than t signs -/
def Hs.bef (h : Hs) : Nat → List (List Nat)
  | 0 => []
  | t + 1 => h.bef t ++ (h.line t).map (·.1)
theorem Hs.bef_mono (h : Hs) {s t : Nat} (hst : s ≤ t) : (h.bef s).length ≤ (h.bef t).length := by
  induction hst with
  | refl => exact Nat.le_refl _
  | step _ ih => exact Nat.le_trans ih (by show _ ≤ (h.bef _ ++ _).length; rw [List.length_append]; exact Nat.le_add_right _ _)
theorem Hs.line_le (h : Hs) {t k : Nat} (ht : t < k) : (h.line t).length ≤ (h.bef k).length := by
  refine Nat.le_trans ?_ (h.bef_mono (s := t + 1) ht)
  show _ ≤ (h.bef t ++ _).length
  rw [List.length_append, List.length_map]; exact Nat.le_add_left _ _
/-! ### draws of houses -/
theorem upd_range {α : Type} (R : Nat → α → D) (tb : Nat → α) (k : Nat) (x : α) : (List.range (k + 1)).map (fun i => R i (if i = k then x else tb i)) = (List.range k).map (fun i => R i (tb i)) ++ [R k x] := by
  rw [List.range_succ, List.map_append]
  congr 1
  · apply List.map_congr_left
    intro i hi
    have := List.mem_range.mp hi
    rw [if_neg (by omega)]
  · simp
theorem cut_take {xs : List D} {v : Nat} : cut xs none (some ((v : Nat) : Int)) = xs.take v := by
  unfold cut cutAt
  dsimp only
  rw [if_neg (by omega), List.drop_zero, Nat.sub_zero, Int.toNat_natCast, List.take_eq_take_iff]
  omega
theorem take_range {f : Nat → D} {n k : Nat} (h : k ≤ n) : ((List.range n).map f).take k = (List.range k).map f := by
  rw [← List.map_take, List.take_range, Nat.min_eq_left h]
theorem strs_range (ks : List Str) : ks.map D.str = (List.range ks.length).map fun i => D.str (ks.getD i "") := by
  apply List.ext_getElem?
  intro i
  rw [List.getElem?_map, List.getElem?_map]
  by_cases h : i < ks.length
  · rw [List.getElem?_range h, List.getElem?_eq_getElem h]
    simp [h]
  · rw [List.getElem?_eq_none (by omega), List.getElem?_eq_none (by simp; omega)]; rfl
def kindL : List D := [.str "yes", .str "no", .str "no", .str "yes", .str "open"]
theorem kinds_spec {c : Cell} (h : BagC c) {many : Nat} (hm : many ≤ 1000) : ∃ (ks : List Str) (c' : Cell), ks.length = many ∧ F__law_kinds [.loc 0, .int (many : Nat)] [c] = some (.ok (.lst (ks.map D.str)), [c']) ∧ BagC c' := by
  suffices hh : ∃ d s, F__law_kinds [.loc 0, .int (many : Nat)] [c] = some (.ok d, s) ∧ ∃ (ks : List Str) (c' : Cell), ks.length = many ∧ d = .lst (ks.map D.str) ∧ s = [c'] ∧ BagC c' by
    obtain ⟨d, s, e, ks, c', h1, rfl, rfl, h2⟩ := hh
    exact ⟨ks, c', h1, e, h2⟩
  refine fn_of rfl ?_
  show WS b__law_kinds [some (.loc 0), some (.int (many : Nat)), none, none] [c] _
  unfold b__law_kinds
  refine w_ret (w_lcI (w_range1 (w_var rfl ⟨_, rfl, ⟨by rw [PySem.sizeLine_eq]; omega, by omega⟩, ?_⟩)))
  refine ⟨fun pre ds st => ∃ (ks : List Str) (c' : Cell), pre = ks.map D.str ∧ ks.length + ds.length = many ∧ st = [c'] ∧ BagC c', ⟨[], c, rfl, by unfold rangeL; simp, rfl, h⟩, ?_, ?_⟩
  · rintro pre d ds st ⟨ks, c', rfl, hl, rfl, hc⟩
    refine ⟨_, _, rfl, true, _, rfl, fun _ => ?_, fun z => (by cases z)⟩
    refine w_call (w_cons (w_var rfl (w_cons (w_lst ?_))))
    (repeat (first | (with_reducible refine w_tv ?_) | (with_reducible refine w_not ?_) | (with_reducible refine w_op1 ?_) | (with_reducible refine w_enot ?_) | (with_reducible refine w_op2 ?_) | (with_reducible refine w_opA ?_) | (with_reducible refine w_opAS ?_) | (with_reducible refine w_meth ?_) | (with_reducible refine w_cons ?_) | (with_reducible refine w_nil ?_) | (with_reducible refine w_tup ?_) | (with_reducible refine w_lst ?_) | (with_reducible refine w_lstC ?_) | (with_reducible refine w_slice ?_) | (with_reducible refine w_psome ?_) | (with_reducible refine w_pnone ?_) | (with_reducible refine w_seqi ?_) | (with_reducible refine w_range1 ?_) | (with_reducible refine w_star ?_) | refine w_var rfl ?_ | (with_reducible refine w_c ?_) | refine ⟨_, rfl, ?_⟩ | refine ⟨Nat.le_of_ble_eq_true rfl, ?_⟩ | refine ⟨rfl, ?_⟩ | refine ⟨fun _ => ?_, fun h => absurd h.symm Bool.false_ne_true⟩ | refine ⟨fun h => absurd h Bool.false_ne_true, fun _ => ?_⟩ | refine ⟨fun _ => ?_, fun h => absurd h Bool.false_ne_true⟩ | refine ⟨fun h => absurd h.symm Bool.false_ne_true, fun _ => ?_⟩))
    refine some_call hc rfl (t := .lst kindL) (xs := kindL) (.inl rfl) rfl (by decide) (by decide) fun d c2 hc2 hd _ => ?_
    have : ∃ k, d = .str k := by
      simp only [kindL, List.mem_cons, List.not_mem_nil, or_false] at hd
      rcases hd with rfl | rfl | rfl | rfl | rfl <;> exact ⟨_, rfl⟩
    obtain ⟨k, rfl⟩ := this
    exact ⟨ks ++ [k], c2, by simp, by rw [List.length_append]; simp at hl ⊢; omega, rfl, hc2⟩
  · rintro ys st ⟨ks, c', rfl, hl, rfl, hc⟩
    refine ⟨_, .inl rfl, _, _, clean_ok (by simp [bag_ok hc]) ?_, ks, c', by simpa using hl, rfl, rfl, hc⟩
    show (ks.map D.str).all (okd 59) = true
    rw [List.all_map, List.all_eq_true]; intro _ _; rfl
theorem strs_ok (ks : List Str) : (D.lst (ks.map D.str)).ok = true := by
  show (ks.map D.str).all (okd 59) = true
  rw [List.all_map, List.all_eq_true]; intro _ _; rfl
theorem kinds_call {c : Cell} (h : BagC c) {st : Store} {n : Nat} (hn : st[n]? = some c) {many : Nat} (hm : many ≤ 1000) {Q : D → Store → Prop} (k : ∀ (ks : List Str) c', BagC c' → ks.length = many → Q (.lst (ks.map D.str)) (st.set n c')) : ∃ r s2, viewCall F__law_kinds [.loc n, .int (many : Nat)] st = some (.ok r, s2) ∧ Q r s2 := by
  obtain ⟨ks, c', hl, e, hc'⟩ := kinds_spec h hm
  exact ⟨_, _, call_1 (ds := [.int (many : Nat)]) hn (by simp [D.ok, okd]) (bag_ok h) e (bag_ok hc') (strs_ok ks), k ks c' hc' hl⟩
def nmQ : List Str := ["q", "r", "s", "t", "u", "v", "w"]
def nmq (i : Nat) : Str := nmQ.getD i ""
theorem nmq_inj0 : ∀ i, i < 7 → ∀ j, j < 7 → nmq i = nmq j → i = j := by decide
theorem nmq_inj (i j : Nat) (hi : i < 7) (hj : j < 7) (e : nmq i = nmq j) : i = j := nmq_inj0 i hi j hj e
/-- a house of names of the first kind -/
def mkH (n m : Nat) (ks : List Str) (nx : Nat → Nat → Option Nat) : Hs := ⟨n, m, nmq, fun i => ks.getD i "", nx⟩
theorem mkH_ok {n m : Nat} {ks : List Str} {nx : Nat → Nat → Option Nat} (h1 : 1 ≤ n) (h2 : n ≤ 7) (h3 : 1 ≤ m) (h4 : m ≤ 2) (h5 : ∀ i j k, i < n → j < m → nx i j = some k → k < n) : (mkH n m ks nx).Ok :=
  ⟨h1, h2, h3, h4, fun i j hi hj e => nmq_inj i j (Nat.lt_of_lt_of_le hi h2) (Nat.lt_of_lt_of_le hj h2) e, h5⟩
theorem names_at (n : Nat) (h : n ≤ 7) : ((List.range 7).map fun i => D.str (nmq i)).take n = (List.range n).map fun i => D.str (nmq i) := take_range h
def rowK (m : Nat) (ks : List Str) (i : Nat) (f : Nat → Option Nat) : D := .tup [.str (nmq i), .str (ks.getD i ""), .tup ((List.range m).map fun j => match f j with | none => .non | some k => .str (nmq k))]
theorem rowK_row (n m : Nat) (ks : List Str) (nx : Nat → Nat → Option Nat) (i : Nat) : (mkH n m ks nx).row i = rowK m ks i (nx i) := by
  show D.tup [.str (nmq i), .str (ks.getD i ""), .tup ((List.range m).map fun j => (mkH n m ks nx).to (nx i j))] = rowK m ks i (nx i)
  rfl
theorem rowK_ok (m : Nat) (ks : List Str) (i : Nat) (f : Nat → Option Nat) : okd 58 (rowK m ks i f) = true := by
  have := (mkH 1 m ks (fun _ => f)).row_ok i
  rwa [rowK_row] at this
theorem names_len {n : Nat} {f : Nat → D} : ((List.range n).map f).length = n := by rw [List.length_map, List.length_range]
theorem names_ok (n : Nat) : (D.lst ((List.range n).map fun i => .str (nmq i))).ok = true := okd_range (k := 59) fun _ _ => rfl
theorem cells_ok {R : Nat → D} {n : Nat} (h : ∀ i, okd 58 (R i) = true) : (Cell.lst ((List.range n).map R)).ok = true := by
  show ((List.range n).map R).all D.ok = true
  exact okd_range (k := 60) fun i _ => okd_le (h i) (by decide)
theorem any_f1 {c : Cell} (hc : BagC c) {n m k : Nat} (h1 : 1 ≤ n) (h7 : n ≤ 7) (hk : k < n) (hm : m ≤ 2) {ks : List Str} {a1 a7 a8 : Option D} {tb : Nat → Nat → Option Nat} (htb : ∀ i j x, tb i j = some x → x < n) :
    WS b__law_any_house_f1 [some (.loc 0), a1, some (.lst ((List.range n).map fun i => .str (nmq i))), some (.tup ((List.range m).map fun j => .str (sgn j))), some (.loc 1), some (.str (nmq k)), some (.str (ks.getD k "")), a7, a8] [c, .lst ((List.range k).map fun i => rowK m ks i (tb i))] fun r s => r = .nx [some (.loc 0), a1, some (.lst ((List.range n).map fun i => .str (nmq i))), some (.tup ((List.range m).map fun j => .str (sgn j))), some (.loc 1), some (.str (nmq k)), some (.str (ks.getD k "")), a7, a8] ∧
      ∃ (c' : Cell) (tb' : Nat → Nat → Option Nat), BagC c' ∧ (∀ i j x, tb' i j = some x → x < n) ∧ s = [c', .lst ((List.range (k + 1)).map fun i => rowK m ks i (tb' i))] := by
  unfold b__law_any_house_f1
  refine w_do (w_meth (w_var rfl ⟨rfl, w_cons (w_tup (w_cons (w_var rfl (w_cons (w_var rfl (w_cons (w_opA (w_cons (w_lcI (w_seqi (w_var rfl ⟨_, rfl, ?_⟩)))))))))))⟩))
  refine ⟨fun pre ds st => ∃ (f : Nat → Option Nat) (c' : Cell), pre = ((List.range pre.length).map fun j => match f j with | none => D.non | some k => .str (nmq k)) ∧ pre.length + ds.length = m ∧ (∀ j x, f j = some x → x < n) ∧ BagC c' ∧ st = [c', .lst ((List.range k).map fun i => rowK m ks i (tb i))], ⟨fun _ => none, c, rfl, by simp, by simp, hc, rfl⟩, ?_, ?_⟩
  · rintro pre d ds st ⟨f, c', hpre, hl, hf, hc', rfl⟩
    refine ⟨_, _, rfl, true, _, rfl, fun _ => ?_, fun z => (by cases z)⟩
    have fin : ∀ (o : Option Nat) (c2 : Cell), BagC c2 → (∀ x, o = some x → x < n) → ∃ (f : Nat → Option Nat) (c' : Cell), pre ++ [match o with | none => D.non | some k => .str (nmq k)] = ((List.range (pre ++ [match o with | none => D.non | some k => .str (nmq k)]).length).map fun j => match f j with | none => D.non | some k => .str (nmq k)) ∧ (pre ++ [match o with | none => D.non | some k => .str (nmq k)]).length + ds.length = m ∧ (∀ j x, f j = some x → x < n) ∧ BagC c' ∧ [c2, Cell.lst ((List.range k).map fun i => rowK m ks i (tb i))] = [c', .lst ((List.range k).map fun i => rowK m ks i (tb i))] := fun o c2 hc2 ho => by
      refine ⟨fun j => if j = pre.length then o else f j, c2, ?_, by rw [List.length_append]; simp at hl ⊢; omega, fun j x hx => ?_, hc2, rfl⟩
      · rw [List.length_append, List.length_singleton]
        have := upd_range (fun _ (o : Option Nat) => match o with | none => D.non | some k => .str (nmq k)) f pre.length o
        rw [this, ← hpre]
      · dsimp only at hx
        by_cases hj : j = pre.length
        · rw [if_pos hj] at hx; exact ho x hx
        · rw [if_neg hj] at hx; exact hf j x hx
    refine w_eif (w_tv (w_op2 (w_call (w_cons (w_var rfl (w_cons (w_c (w_nil ?_))))))))
    refine take_call hc' rfl (by decide) (by decide) fun v c2 hc2 hv0 hv1 => ?_
    refine w_c ⟨_, rfl, _, rfl, ?_⟩
    by_cases hv : 0 < v
    · have : decide (0 < v) = true := decide_eq_true hv
      rw [this, if_pos rfl]
      refine w_call (w_cons (w_var rfl (w_cons (w_var rfl (w_nil ?_)))))
      refine some_call hc2 rfl (.inl rfl) (names_ok n) (by rw [names_len]; omega) (by rw [names_len]; omega) fun d c3 hc3 hd _ => ?_
      obtain ⟨x, hx, rfl⟩ := List.mem_map.mp hd
      have hx := List.mem_range.mp hx
      exact fin (some x) c3 hc3 fun y hy => by cases hy; exact hx
    · have : decide (0 < v) = false := decide_eq_false hv
      rw [this, if_neg (by decide)]
      exact w_c (fin none c2 hc2 fun y hy => by cases hy)
  · rintro ys st ⟨f, c', hpre, hl, hf, hc', rfl⟩
    have hl : ys.length = m := by simpa using hl
    refine w_nil ⟨.tup ys, rfl, w_nil ⟨Nat.le_of_ble_eq_true rfl, w_nil ⟨.non, [c', .lst ((List.range k).map (fun i => rowK m ks i (tb i)) ++ [.tup [.str (nmq k), .str (ks.getD k ""), .tup ys]])], ?_, rfl, c', fun i => if i = k then f else tb i, hc', fun i j x hx => ?_, ?_⟩⟩⟩
    · show (if _ then some (D.non, _) else none) = _
      rw [if_pos (by rw [names_len, PySem.sizeLine_eq]; omega)]
      rfl
    · by_cases hi : i = k
      · dsimp only at hx; rw [if_pos hi] at hx; exact hf j x hx
      · dsimp only at hx; rw [if_neg hi] at hx; exact htb i j x hx
    · rw [upd_range (fun i f => rowK m ks i f) tb k f]
      rw [hl] at hpre
      unfold rowK
      rw [← hpre]
theorem zip_range {n : Nat} (f g : Nat → D) : zipP ((List.range n).map f) ((List.range n).map g) = (List.range n).map fun i => D.par [f i, g i] := by
  unfold zipP
  rw [List.zip_map', List.map_map]
  rfl
theorem any_house_spec {c : Cell} (hc : BagC c) {most : Nat} (hm0 : 1 ≤ most) (hm : most ≤ 5) : ∃ (h : Hs) (c' : Cell), h.Ok ∧ F__law_any_house [.loc 0, .int (most : Nat)] [c] = some (.ok h.dat, [c']) ∧ BagC c' := by
  suffices hh : ∃ d s, F__law_any_house [.loc 0, .int (most : Nat)] [c] = some (.ok d, s) ∧ ∃ (h : Hs) (c' : Cell), h.Ok ∧ d = h.dat ∧ s = [c'] ∧ BagC c' by
    obtain ⟨d, s, e, h, c', h1, rfl, rfl, h2⟩ := hh
    exact ⟨h, c', h1, e, h2⟩
  refine fn_of rfl ?_
  show WS b__law_any_house [some (.loc 0), some (.int (most : Nat)), none, none, none, none, none, none, none] [c] _
  unfold b__law_any_house
  refine w_then (w_asg (w_tup (w_cons (w_slice (w_lst ?_)))))
  (repeat (first | (with_reducible refine w_tv ?_) | (with_reducible refine w_not ?_) | (with_reducible refine w_op1 ?_) | (with_reducible refine w_enot ?_) | (with_reducible refine w_op2 ?_) | (with_reducible refine w_opA ?_) | (with_reducible refine w_opAS ?_) | (with_reducible refine w_meth ?_) | (with_reducible refine w_cons ?_) | (with_reducible refine w_nil ?_) | (with_reducible refine w_tup ?_) | (with_reducible refine w_lst ?_) | (with_reducible refine w_lstC ?_) | (with_reducible refine w_slice ?_) | (with_reducible refine w_psome ?_) | (with_reducible refine w_pnone ?_) | (with_reducible refine w_seqi ?_) | (with_reducible refine w_range1 ?_) | (with_reducible refine w_star ?_) | refine w_var rfl ?_ | (with_reducible refine w_c ?_) | refine ⟨_, rfl, ?_⟩ | refine ⟨Nat.le_of_ble_eq_true rfl, ?_⟩ | refine ⟨rfl, ?_⟩ | refine ⟨fun _ => ?_, fun h => absurd h.symm Bool.false_ne_true⟩ | refine ⟨fun h => absurd h Bool.false_ne_true, fun _ => ?_⟩ | refine ⟨fun _ => ?_, fun h => absurd h Bool.false_ne_true⟩ | refine ⟨fun h => absurd h.symm Bool.false_ne_true, fun _ => ?_⟩))
  refine w_call (w_cons (w_var rfl (w_cons (w_var rfl (w_nil ?_)))))
  refine take_call hc rfl (by omega) (by omega) fun v c1 hc1 hv0 hv1 => ?_
  obtain ⟨v, rfl⟩ := Int.eq_ofNat_of_zero_le hv0
  have hv1 : v < most := by omega
  refine ⟨.int ((1 + v : Nat) : Int), ?_, _, rfl, .lst ((List.range (1 + v)).map fun i => .str (nmq i)), ?_, ?_⟩
  · show some (D.int (1 + (v : Int))) = _
    rw [Int.natCast_add]; rfl
  · show some (D.lst (cut ((List.range 5).map fun i => D.str (nmq i)) none (some ((1 + v : Nat) : Int)))) = _
    rw [cut_take, take_range (by omega)]
  refine w_cons (w_slice (w_tup ?_))
  (repeat (first | (with_reducible refine w_tv ?_) | (with_reducible refine w_not ?_) | (with_reducible refine w_op1 ?_) | (with_reducible refine w_enot ?_) | (with_reducible refine w_op2 ?_) | (with_reducible refine w_opA ?_) | (with_reducible refine w_opAS ?_) | (with_reducible refine w_meth ?_) | (with_reducible refine w_cons ?_) | (with_reducible refine w_nil ?_) | (with_reducible refine w_tup ?_) | (with_reducible refine w_lst ?_) | (with_reducible refine w_lstC ?_) | (with_reducible refine w_slice ?_) | (with_reducible refine w_psome ?_) | (with_reducible refine w_pnone ?_) | (with_reducible refine w_seqi ?_) | (with_reducible refine w_range1 ?_) | (with_reducible refine w_star ?_) | refine w_var rfl ?_ | (with_reducible refine w_c ?_) | refine ⟨_, rfl, ?_⟩ | refine ⟨Nat.le_of_ble_eq_true rfl, ?_⟩ | refine ⟨rfl, ?_⟩ | refine ⟨fun _ => ?_, fun h => absurd h.symm Bool.false_ne_true⟩ | refine ⟨fun h => absurd h Bool.false_ne_true, fun _ => ?_⟩ | refine ⟨fun _ => ?_, fun h => absurd h Bool.false_ne_true⟩ | refine ⟨fun h => absurd h.symm Bool.false_ne_true, fun _ => ?_⟩))
  refine w_call (w_cons (w_var rfl (w_cons (w_c (w_nil ?_)))))
  refine take_call hc1 rfl (by decide) (by decide) fun u c2 hc2 hu0 hu1 => ?_
  obtain ⟨u, rfl⟩ := Int.eq_ofNat_of_zero_le hu0
  have hu1 : u < 2 := by omega
  refine ⟨.int ((1 + u : Nat) : Int), ?_, _, rfl, .tup ((List.range (1 + u)).map fun j => .str (sgn j)), ?_, ?_⟩
  · show some (D.int (1 + (u : Int))) = _
    rw [Int.natCast_add]; rfl
  · show some (D.tup (cut ((List.range 2).map fun j => D.str (sgn j)) none (some ((1 + u : Nat) : Int)))) = _
    rw [cut_take, take_range (by omega)]
  refine w_nil ⟨Nat.le_of_ble_eq_true rfl, _, _, rfl, ?_⟩
  refine w_then (w_set (w_lstC (w_nil ⟨Nat.zero_le _, ?_⟩)))
  generalize hn : 1 + v = n
  generalize hmm : 1 + u = m
  have hn1 : 1 ≤ n := by omega
  have hn5 : n ≤ 5 := by omega
  have hm1 : 1 ≤ m := by omega
  have hm2 : m ≤ 2 := by omega
  refine w_then (w_for (w_zip2 (w_var rfl (w_call (w_cons (w_var rfl (w_cons (w_opA (w_cons (w_var rfl (w_nil ⟨.int (n : Nat), ?_, w_nil ?_⟩)))))))))))
  · show some (D.int (((List.range n).map fun i => D.str (nmq i)).length : Nat)) = _
    rw [names_len]
  refine kinds_call hc2 rfl (by omega) fun ks c3 hc3 hks => ?_
  refine ⟨(List.range n).map (fun i => D.par [.str (nmq i), .str (ks.getD i "")]), ?_, ?_⟩
  · rw [strs_range ks, hks]
    show some (zipP _ _) = _
    rw [zip_range]
  refine w_forX (fun i => D.par [.str (nmq i), .str (ks.getD i "")]) (List.range n) (fun pre e st => ∃ (c' : Cell) (tb : Nat → Nat → Option Nat), e = [some (.loc 0), some (.int (most : Nat)), some (.lst ((List.range n).map fun i => .str (nmq i))), some (.tup ((List.range m).map fun j => .str (sgn j))), some (.loc 1), none, none, none, none] ∧ BagC c' ∧ (∀ i j x, tb i j = some x → x < n) ∧ st = [c', .lst ((List.range pre.length).map fun i => rowK m ks i (tb i))])
    ⟨c3, fun _ _ => none, rfl, hc3, fun _ _ _ z => (by cases z), rfl⟩ ?_ ?_
  · rintro pre k post e st hsp ⟨c4, tb, rfl, hc4, htb, rfl⟩
    obtain ⟨hk, _, hkn⟩ := range_split hsp
    subst hk
    refine ⟨_, _, rfl, (any_f1 (a1 := some (.int (most : Nat))) (a7 := none) (a8 := none) hc4 hn1 (by omega) hkn hm2 (ks := ks) htb).mono fun r s hr => ?_⟩
    obtain ⟨rfl, c5, tb', hc5, htb', rfl⟩ := hr
    refine ⟨c5, tb', rfl, hc5, htb', ?_⟩
    rw [List.length_append]; rfl
  rintro e st ⟨c4, tb, rfl, hc4, htb, rfl⟩
  rw [List.length_range]
  refine w_ret (w_tup (w_cons (w_var rfl (w_cons (w_opA (w_cons (w_var rfl (w_nil ⟨.tup ((List.range n).map fun i => rowK m ks i (tb i)), rfl, w_nil ⟨Nat.le_of_ble_eq_true rfl, ?_⟩⟩))))))))
  have hO : (mkH n m ks tb).Ok := mkH_ok hn1 (by omega) hm1 hm2 fun i j x _ _ hx => htb i j x hx
  have hD : (mkH n m ks tb).dat = .tup [.tup ((List.range m).map fun j => .str (sgn j)), .tup ((List.range n).map fun i => rowK m ks i (tb i))] := by
    show D.tup [.tup ((List.range m).map fun j => .str (sgn j)), .tup ((List.range n).map (mkH n m ks tb).row)] = _
    congr 3
  exact ⟨_, .inl rfl, _, _, clean_ok (by simp [bag_ok hc4]) (by rw [← hD]; exact Hs.ok _), mkH n m ks tb, c4, hO, hD.symm, rfl, hc4⟩
theorem enumz_range {n : Nat} (f g : Nat → D) : enumZ ((List.range n).map f) ((List.range n).map g) = (List.range n).map fun i => D.par [.int (i : Nat), .par [f i, g i]] := by
  unfold enumZ
  rw [List.zip_map']
  apply List.ext_getElem?
  intro i
  rw [List.getElem?_mapIdx, List.getElem?_map, List.getElem?_map]
  by_cases h : i < n
  · rw [List.getElem?_range h]; rfl
  · rw [List.getElem?_eq_none (by simp; omega)]; rfl
theorem round_house_spec {c : Cell} (hc : BagC c) : ∃ (h : Hs) (c' : Cell), h.Ok ∧ F__law_round_house [.loc 0] [c] = some (.ok h.dat, [c']) ∧ BagC c' := by
  suffices hh : ∃ d s, F__law_round_house [.loc 0] [c] = some (.ok d, s) ∧ ∃ (h : Hs) (c' : Cell), h.Ok ∧ d = h.dat ∧ s = [c'] ∧ BagC c' by
    obtain ⟨d, s, e, h, c', h1, rfl, rfl, h2⟩ := hh
    exact ⟨h, c', h1, e, h2⟩
  refine fn_of rfl ?_
  show WS b__law_round_house [some (.loc 0), none, none, none, none, none, none, none] [c] _
  unfold b__law_round_house
  refine w_then (w_set (w_op2 (w_c (w_call (w_cons (w_var rfl (w_cons (w_c (w_nil ?_)))))))))
  refine take_call hc rfl (by decide) (by decide) fun v c1 hc1 hv0 hv1 => ?_
  obtain ⟨v, rfl⟩ := Int.eq_ofNat_of_zero_le hv0
  have hv1 : v < 6 := by omega
  refine ⟨.int ((2 + v : Nat) : Int), by show some (D.int (2 + (v : Int))) = _; rw [Int.natCast_add]; rfl, ?_⟩
  generalize hn : 2 + v = n
  have hn2 : 2 ≤ n := by omega
  have hn7 : n ≤ 7 := by omega
  refine w_then (w_set (w_slice (w_lst ?_)))
  (repeat (first | (with_reducible refine w_tv ?_) | (with_reducible refine w_not ?_) | (with_reducible refine w_op1 ?_) | (with_reducible refine w_enot ?_) | (with_reducible refine w_op2 ?_) | (with_reducible refine w_opA ?_) | (with_reducible refine w_opAS ?_) | (with_reducible refine w_meth ?_) | (with_reducible refine w_cons ?_) | (with_reducible refine w_nil ?_) | (with_reducible refine w_tup ?_) | (with_reducible refine w_lst ?_) | (with_reducible refine w_lstC ?_) | (with_reducible refine w_slice ?_) | (with_reducible refine w_psome ?_) | (with_reducible refine w_pnone ?_) | (with_reducible refine w_seqi ?_) | (with_reducible refine w_range1 ?_) | (with_reducible refine w_star ?_) | refine w_var rfl ?_ | (with_reducible refine w_c ?_) | refine ⟨_, rfl, ?_⟩ | refine ⟨Nat.le_of_ble_eq_true rfl, ?_⟩ | refine ⟨rfl, ?_⟩ | refine ⟨fun _ => ?_, fun h => absurd h.symm Bool.false_ne_true⟩ | refine ⟨fun h => absurd h Bool.false_ne_true, fun _ => ?_⟩ | refine ⟨fun _ => ?_, fun h => absurd h Bool.false_ne_true⟩ | refine ⟨fun h => absurd h.symm Bool.false_ne_true, fun _ => ?_⟩))
  have ec : cut [D.str "q", .str "r", .str "s", .str "t", .str "u", .str "v", .str "w"] none (some ((n : Nat) : Int)) = (List.range n).map fun i => .str (nmq i) := by
    show cut ((List.range 7).map fun i => D.str (nmq i)) none _ = _
    rw [cut_take, take_range hn7]
  dsimp only
  rw [ec]
  -- behind the kinds
  have rest : ∀ (ks : List Str) (c2 : Cell), ks.length = n → BagC c2 → ∀ Q : SR → Store → Prop, (∀ (h : Hs), h.Ok → Q (.rt h.dat) [c2]) →
      WS (sRet (eTup (aCons (eTup (aCons (eC (.str "a")) aNil)) (aCons (opA gTuple (aCons (eLc (iEnumZip (eVar 2) (eVar 3)) (gTup [(gName 5), (gTup [(gName 6), (gName 7)])]) [4, 5, 6, 7] tYes (eTup (aCons (eVar 6) (aCons (eVar 7) (aCons (eTup (aCons (op2 vIx (eVar 2) (op2 vMod (opA gInt (aCons (op2 vAdd (eVar 5) (eC (.int 1))) aNil)) (eVar 1))) aNil)) aNil))))) aNil)) aNil))))
        [some (.loc 0), some (.int (n : Nat)), some (.lst ((List.range n).map fun i => .str (nmq i))), some (.lst (ks.map D.str)), none, none, none, none] [c2] Q := by
    intro ks c2 hks hc2 Q q
    refine w_ret (w_tup (w_cons (w_tup (w_cons (w_c (w_nil ⟨Nat.le_of_ble_eq_true rfl, ?_⟩))))))
    refine w_cons (w_opA (w_cons (w_lc (w_enumzip (w_var rfl (w_var rfl ⟨_, _, rfl, rfl, (List.range n).map fun i => rowK 1 ks i (fun _ => some ((i + 1) % n)), [c2], ?_, w_nil ⟨_, rfl, w_nil ⟨Nat.le_of_ble_eq_true rfl, ?_⟩⟩⟩))))))
    · rw [strs_range ks, hks, enumz_range]
      refine compL_map _ (fun i => rowK 1 ks i (fun _ => some ((i + 1) % n))) fun i hi => ⟨_, rfl, ?_⟩
      have hi := List.mem_range.mp hi
      have hlt : (i + 1) % n < n := Nat.mod_lt _ (by omega)
      refine w_tup (w_cons (w_var rfl (w_cons (w_var rfl (w_cons (w_tup (w_cons (w_op2 (w_var rfl (w_op2 (w_opA ?_)))))))))))
      refine w_cons (w_op2 (w_var rfl (w_c ⟨_, rfl, w_nil ⟨_, rfl, w_var rfl ⟨.int (((i + 1) % n : Nat) : Int), ?_, _, (seq_at (range_at hlt)).2, w_nil ⟨Nat.le_of_ble_eq_true rfl, w_nil ⟨Nat.le_of_ble_eq_true rfl, rfl, rfl⟩⟩⟩⟩⟩)))
      show (if (0 : Int) < (n : Nat) then _ else none) = _
      rw [if_pos (by omega)]
      congr 1
    · have hO : (mkH n 1 ks (fun i _ => some ((i + 1) % n))).Ok := mkH_ok (by omega) hn7 (by omega) (by omega) fun i j k _ _ e => by
        cases e; exact Nat.mod_lt _ (by omega)
      have := q _ hO
      exact this
  refine w_then (w_set (w_eif (w_tv (w_op2 (w_call (w_cons (w_var rfl (w_cons (w_c (w_nil ?_))))))))))
  refine take_call hc1 rfl (by decide) (by decide) fun u c2 hc2 hu0 hu1 => ?_
  refine w_c ?_
  obtain ⟨u, rfl⟩ := Int.eq_ofNat_of_zero_le hu0
  have hu : u = 0 ∨ u = 1 := by omega
  rcases hu with rfl | rfl
  · refine ⟨.bl true, rfl, true, rfl, ?_⟩
    rw [if_pos rfl]
    refine w_op2 (w_lst (w_cons (w_c (w_nil ⟨Nat.le_of_ble_eq_true rfl, ?_⟩))))
    refine w_op2 (w_lst (w_cons (w_c (w_nil ⟨Nat.le_of_ble_eq_true rfl, ?_⟩))))
    refine w_op2 (w_var rfl (w_c ⟨_, rfl, .lst ((List.replicate (α := Str) (n - 1) "no").map D.str), ?_, .lst ((("yes" : Str) :: List.replicate (α := Str) (n - 1) "no").map D.str), ?_, ?_⟩))
    · show (if (0 : Int) ≤ (n : Int) - 1 ∧ (n : Int) - 1 < 2 ^ 62 ∧ 1 * ((n : Int) - 1).toNat ≤ PySem.sizeLine then some (D.lst (List.replicate ((n : Int) - 1).toNat [D.str "no"]).flatten) else none) = _
      have e : ((n : Int) - 1).toNat = n - 1 := by omega
      rw [e, if_pos ⟨by omega, by omega, by rw [PySem.sizeLine_eq]; omega⟩]
      congr 2
      generalize n - 1 = k
      induction k with
      | zero => rfl
      | succ k ih => rw [List.replicate_succ, List.flatten_cons, ih, List.replicate_succ]; rfl
    · show (if _ then some (D.lst _) else none) = _
      rw [if_pos (by rw [List.length_map, List.length_replicate, PySem.sizeLine_eq]; show 1 + (n - 1) ≤ _; omega)]
      rfl
    · exact rest _ c2 (by simp; omega) hc2 _ fun h hO => ⟨_, .inl rfl, _, _, clean_ok (by simp [bag_ok hc2]) h.ok, h, c2, hO, rfl, rfl, hc2⟩
  · refine ⟨.bl false, rfl, false, rfl, ?_⟩
    rw [if_neg (by decide)]
    refine w_call (w_cons (w_var rfl (w_cons (w_var rfl (w_nil ?_)))))
    refine kinds_call hc2 rfl (by omega) fun ks c3 hc3 hks => ?_
    exact rest ks c3 hks hc3 _ fun h hO => ⟨_, .inl rfl, _, _, clean_ok (by simp [bag_ok hc3]) h.ok, h, c3, hO, rfl, rfl, hc3⟩
theorem mixed_spec {c : Cell} (hc : BagC c) {xs : List D} (hx : ∀ x ∈ xs, D.ok x = true) (hx2 : (D.lst xs).ok = true) (hl : xs.length ≤ 1000) : ∃ (ys : List D) (c' : Cell), F__law_mixed [.loc 0, .lst xs] [c] = some (.ok (.loc 1), [c', .lst ys]) ∧ BagC c' ∧ ys.length = xs.length ∧ ∀ y ∈ ys, y ∈ xs := by
  suffices hh : ∃ d s, F__law_mixed [.loc 0, .lst xs] [c] = some (.ok d, s) ∧ ∃ (ys : List D) (c' : Cell), d = .loc 1 ∧ s = [c', .lst ys] ∧ BagC c' ∧ ys.length = xs.length ∧ ∀ y ∈ ys, y ∈ xs by
    obtain ⟨d, s, e, ys, c', rfl, rfl, h2⟩ := hh
    exact ⟨ys, c', e, h2⟩
  refine fn_of rfl ?_
  show WS b__law_mixed [some (.loc 0), some (.lst xs), none, none] [c] _
  unfold b__law_mixed
  refine w_then (w_par (w_cons (w_opAS (w_cons (w_var rfl (w_nil ⟨_, _, rfl, w_cons (w_lstC (w_nil ⟨Nat.zero_le _, w_nil ⟨_, _, rfl, ?_⟩⟩))⟩))))))
  refine w_then ?_
  refine w_while (fun m e st => ∃ (l f : List D) (c' : Cell), e = [some (.loc 0), some (.lst xs), some (.loc 1), some (.loc 2)] ∧ st = [c', .lst l, .lst f] ∧ BagC c' ∧ l.length = m ∧ f.length + l.length = xs.length ∧ (∀ y ∈ l, y ∈ xs) ∧ ∀ y ∈ f, y ∈ xs) xs.length ⟨xs, [], c, rfl, rfl, hc, rfl, by simp, fun _ h => h, by simp⟩ ?_
  rintro m e st ⟨l, f, c', rfl, rfl, hc', hm, hf, h1, h2⟩
  have hlok : (D.lst l).ok = true := by
    have h59 : xs.all (okd 59) = true := hx2
    show l.all (okd 59) = true
    rw [List.all_eq_true] at h59 ⊢
    exact fun y hy => h59 y (h1 y hy)
  unfold b__law_mixed_t2
  refine w_tv (w_op2 (w_var rfl (w_lst (w_nil ⟨Nat.zero_le _, .bl !l.isEmpty, ?_, _, rfl, fun hk => ?_, fun hk => ?_⟩))))
  · unfold vNe
    have e : see [c', .lst l, .lst f] (.loc 1) = .lst l := rfl
    rw [e, hlok]
    cases l <;> rfl
  · have : l = [] := by simpa using hk
    subst this
    refine w_ret (w_var rfl ⟨_, .inl rfl, _, _, clean_new (m := 2) (by simp [bag_ok hc']) (by show 1 ≤ 2; decide) rfl ?_, f, c', rfl, rfl, hc', by simpa using hf, h2⟩)
    show f.all D.ok = true
    rw [List.all_eq_true]
    exact fun y hy => hx y (h2 y hy)
  · have hne : l ≠ [] := by simpa using hk
    have hpos := List.length_pos_iff.mpr hne
    unfold b__law_mixed_w1
    refine w_do (w_meth (w_var rfl ⟨rfl, w_cons (w_meth (w_var rfl ⟨rfl, w_cons (w_call (w_cons (w_var rfl (w_cons (w_opA (w_cons (w_var rfl (w_nil ⟨.int (l.length : Nat), rfl, w_nil ?_⟩))))))))⟩))⟩))
    refine take_call hc' rfl (by omega) (by omega) fun v c2 hc2 hv0 hv1 => ?_
    obtain ⟨v, rfl⟩ := Int.eq_ofNat_of_zero_le hv0
    have hv : v < l.length := by omega
    refine w_nil ⟨l[v], [c2, .lst (l.eraseIdx v), .lst f], ?_, w_nil ⟨.non, [c2, .lst (l.eraseIdx v), .lst (f ++ [l[v]])], ?_, l.length - 1, by omega, l.eraseIdx v, f ++ [l[v]], c2, rfl, rfl, hc2, ?_, ?_, ?_, ?_⟩⟩
    · show ((ix? l.length (v : Int)).bind fun j => (l[j]?).map fun y => (y, [c2, Cell.lst (l.eraseIdx j), .lst f])) = _
      unfold ix?
      rw [if_pos (by omega), if_pos (by omega), Option.bind_some, Int.toNat_natCast, List.getElem?_eq_getElem hv]
      rfl
    · show (if _ then some (D.non, _) else none) = _
      rw [if_pos (by rw [PySem.sizeLine_eq]; omega)]; rfl
    · rw [List.length_eraseIdx_of_lt hv]
    · rw [List.length_append, List.length_eraseIdx_of_lt hv, List.length_singleton]; omega
    · exact fun y hy => h1 y (List.mem_of_mem_eraseIdx hy)
    · intro y hy
      rcases List.mem_append.mp hy with z | z
      · exact h2 y z
      · have : y = l[v] := by simpa using z
        rw [this]; exact h1 _ (List.getElem_mem hv)
def pnL : List Str := ["px", "py", "qx", "qy", "rx", "ry"]
def pnm (i : Nat) : Str := pnL.getD i ""
theorem pnm_inj0 : ∀ i, i < 6 → ∀ j, j < 6 → pnm i = pnm j → i = j := by decide
def p1 (one i : Nat) : Nat := (i / 2 + 1) % one * 2 + i % 2
def p2 (i : Nat) : Nat := i / 2 * 2 + (i % 2 + 1) % 2
def rowP (one i : Nat) (kd : Str) : D := .tup [.str (pnm i), .str kd, .tup [.str (pnm (p1 one i)), .str (pnm (p2 i))]]
theorem p_lt {one i : Nat} (h1 : one = 2 ∨ one = 3) (hi : i < 2 * one) : p1 one i < 2 * one ∧ p2 i < 2 * one := by
  unfold p1 p2
  rcases h1 with rfl | rfl <;> omega
theorem prod_f2 {c : Cell} (hc : BagC c) {one i : Nat} (h1 : one = 2 ∨ one = 3) (hi : i < 2 * one) {kf : Nat → Str} {a4 a5 a9 a10 : Option D} :
    WS b__law_product_house_f2 [some (.loc 0), some (.int (one : Nat)), some (.int 2), some (.lst ((List.range (2 * one)).map fun i => .str (pnm i))), a4, a5, some (.loc 1), some (.int (i : Nat)), some (.str (pnm i)), a9, a10] [c, .lst ((List.range i).map fun i => rowP one i (kf i))] fun r s => ∃ b4 b5 b9, r = .nx [some (.loc 0), some (.int (one : Nat)), some (.int 2), some (.lst ((List.range (2 * one)).map fun i => .str (pnm i))), b4, b5, some (.loc 1), some (.int (i : Nat)), some (.str (pnm i)), b9, a10] ∧
      ∃ (c' : Cell) (kf' : Nat → Str), BagC c' ∧ s = [c', .lst ((List.range (i + 1)).map fun i => rowP one i (kf' i))] := by
  unfold b__law_product_house_f2
  obtain ⟨l1, l2⟩ := p_lt h1 hi
  refine w_then (w_asg (w_tup (w_cons (w_op2 (w_opA (w_cons (w_var rfl (w_nil ⟨_, rfl, w_var rfl ⟨.int ((i / 2 : Nat) : Int), rfl, ?_⟩⟩))))))))
  refine w_cons (w_op2 (w_opA (w_cons (w_var rfl (w_nil ⟨_, rfl, w_var rfl ⟨.int ((i % 2 : Nat) : Int), rfl, w_nil ⟨Nat.le_of_ble_eq_true rfl, _, _, rfl, ?_⟩⟩⟩)))))
  refine w_then (w_set (w_tup (w_cons (w_op2 (w_var rfl (w_op2 (w_op2 (w_op2 (w_opA (w_cons (w_op2 (w_var rfl (w_c ⟨.int ((i / 2 + 1 : Nat) : Int), rfl, w_nil ⟨_, rfl, w_var rfl ⟨.int (((i / 2 + 1) % one : Nat) : Int), ?_, w_var rfl ⟨.int (((i / 2 + 1) % one * 2 : Nat) : Int), ?_, w_var rfl ⟨.int ((p1 one i : Nat) : Int), ?_, .str (pnm (p1 one i)), (seq_at (range_at l1)).2, ?_⟩⟩⟩⟩⟩)))))))))))))
  · show (if (0 : Int) < (one : Nat) then some (D.int _) else none) = _
    rw [if_pos (by omega)]; rfl
  · rw [vMul_right (by decide)]; rfl
  · show some (D.int _) = some (D.int ((p1 one i : Nat) : Int))
    unfold p1
    rw [Int.natCast_add]
  refine w_cons (w_op2 (w_var rfl (w_op2 (w_op2 (w_var rfl (w_var rfl ⟨.int ((i / 2 * 2 : Nat) : Int), ?_, ?_⟩))))))
  · rw [vMul_right (by decide)]; rfl
  refine w_op2 (w_opA (w_cons (w_op2 (w_var rfl (w_c ⟨.int ((i % 2 + 1 : Nat) : Int), rfl, w_nil ⟨_, rfl, w_var rfl ⟨.int (((i % 2 + 1) % 2 : Nat) : Int), rfl, .int ((p2 i : Nat) : Int), ?_, .str (pnm (p2 i)), (seq_at (range_at l2)).2, w_nil ⟨Nat.le_of_ble_eq_true rfl, ?_⟩⟩⟩⟩)))))
  · show some (D.int _) = some (D.int ((p2 i : Nat) : Int))
    unfold p2
    rw [Int.natCast_add]
  have fin : ∀ (kd : Str) (c2 : Cell), BagC c2 → ∃ z s3, mAppend [c2, .lst ((List.range i).map fun i => rowP one i (kf i))] (.loc 1) [.tup [.str (pnm i), .str kd, .tup [.str (pnm (p1 one i)), .str (pnm (p2 i))]]] = some (z, s3) ∧ ∃ (c' : Cell) (kf' : Nat → Str), BagC c' ∧ s3 = [c', .lst ((List.range (i + 1)).map fun i => rowP one i (kf' i))] := fun kd c2 hc2 => by
    refine ⟨.non, _, ?_, c2, fun j => if j = i then kd else kf j, hc2, rfl⟩
    show (if _ then some (D.non, _) else none) = _
    rw [if_pos (by rw [names_len, PySem.sizeLine_eq]; rcases h1 with rfl | rfl <;> omega), upd_range (fun i k => rowP one i k) kf i kd]
    rfl
  refine w_do (w_meth (w_var rfl ⟨rfl, w_cons (w_tup (w_cons (w_var rfl (w_cons (w_eif (w_tv (w_op2 (w_var rfl (w_c ⟨.bl (decide (i = 0)), ?_, _, rfl, ?_⟩)))))))))⟩))
  · show some (D.bl (((i : Int)) == 0)) = _
    by_cases h : i = 0
    · subst h; rfl
    · rw [decide_eq_false h, beq_eq_false_iff_ne.mpr (by omega)]
  by_cases h0 : i = 0
  · rw [decide_eq_true h0, if_pos rfl]
    refine w_c (w_cons (w_var rfl (w_nil ⟨Nat.le_of_ble_eq_true rfl, w_nil ?_⟩)))
    obtain ⟨z, s3, e, c', kf', hc', rfl⟩ := fin "yes" c hc
    exact ⟨z, _, e, _, _, _, rfl, c', kf', hc', rfl⟩
  · rw [decide_eq_false h0, if_neg (by decide)]
    refine w_call (w_cons (w_var rfl (w_cons (w_lst ?_))))
    (repeat (first | (with_reducible refine w_tv ?_) | (with_reducible refine w_not ?_) | (with_reducible refine w_op1 ?_) | (with_reducible refine w_enot ?_) | (with_reducible refine w_op2 ?_) | (with_reducible refine w_opA ?_) | (with_reducible refine w_opAS ?_) | (with_reducible refine w_meth ?_) | (with_reducible refine w_cons ?_) | (with_reducible refine w_nil ?_) | (with_reducible refine w_tup ?_) | (with_reducible refine w_lst ?_) | (with_reducible refine w_lstC ?_) | (with_reducible refine w_slice ?_) | (with_reducible refine w_psome ?_) | (with_reducible refine w_pnone ?_) | (with_reducible refine w_seqi ?_) | (with_reducible refine w_range1 ?_) | (with_reducible refine w_star ?_) | refine w_var rfl ?_ | (with_reducible refine w_c ?_) | refine ⟨_, rfl, ?_⟩ | refine ⟨Nat.le_of_ble_eq_true rfl, ?_⟩ | refine ⟨rfl, ?_⟩ | refine ⟨fun _ => ?_, fun h => absurd h.symm Bool.false_ne_true⟩ | refine ⟨fun h => absurd h Bool.false_ne_true, fun _ => ?_⟩ | refine ⟨fun _ => ?_, fun h => absurd h Bool.false_ne_true⟩ | refine ⟨fun h => absurd h.symm Bool.false_ne_true, fun _ => ?_⟩))
    refine some_call hc rfl (t := .lst [.str "no", .str "no", .str "open"]) (xs := [.str "no", .str "no", .str "open"]) (.inl rfl) rfl (by decide) (by decide) fun d c2 hc2 hd _ => ?_
    have : ∃ k, d = .str k := by
      simp only [List.mem_cons, List.not_mem_nil, or_false] at hd
      rcases hd with rfl | rfl | rfl <;> exact ⟨_, rfl⟩
    obtain ⟨kd, rfl⟩ := this
    refine w_cons (w_var rfl (w_nil ⟨Nat.le_of_ble_eq_true rfl, w_nil ?_⟩))
    obtain ⟨z, s3, e, c', kf', hc', rfl⟩ := fin kd c2 hc2
    exact ⟨z, _, e, _, _, _, rfl, c', kf', hc', rfl⟩
theorem product_house_spec {c : Cell} (hc : BagC c) : ∃ (h : Hs) (c' : Cell), h.Ok ∧ F__law_product_house [.loc 0] [c] = some (.ok h.dat, [c']) ∧ BagC c' := by
  suffices hh : ∃ d s, F__law_product_house [.loc 0] [c] = some (.ok d, s) ∧ ∃ (h : Hs) (c' : Cell), h.Ok ∧ d = h.dat ∧ s = [c'] ∧ BagC c' by
    obtain ⟨d, s, e, h, c', h1, rfl, rfl, h2⟩ := hh
    exact ⟨h, c', h1, e, h2⟩
  refine fn_of rfl ?_
  show WS b__law_product_house [some (.loc 0), none, none, none, none, none, none, none, none, none, none] [c] _
  unfold b__law_product_house
  refine w_then (w_par (w_cons (w_op2 (w_c (w_call (w_cons (w_var rfl (w_cons (w_c (w_nil ?_)))))))))) 
  refine take_call hc rfl (by decide) (by decide) fun v c1 hc1 hv0 hv1 => ?_
  obtain ⟨v, rfl⟩ := Int.eq_ofNat_of_zero_le hv0
  refine ⟨.int ((2 + v : Nat) : Int), by show some (D.int (2 + (v : Int))) = _; rw [Int.natCast_add]; rfl, ?_⟩
  generalize hone : 2 + v = one
  have h1 : one = 2 ∨ one = 3 := by omega
  refine w_cons (w_c (w_nil ⟨_, _, rfl, ?_⟩))
  refine w_then (w_set (w_lst (w_nil ⟨Nat.zero_le _, ?_⟩)))
  refine w_then (WS.mono (Q := fun r s => r = .nx [some (.loc 0), some (.int (one : Nat)), some (.int 2), some (.lst ((List.range (2 * one)).map fun i => .str (pnm i))), none, none, none, none, none, none, none] ∧ s = [c1]) ?_ ?_)
  · refine w_for (w_range1 (w_var rfl ⟨_, rfl, ⟨by rw [PySem.sizeLine_eq]; omega, by omega⟩, ?_⟩))
    rcases h1 with rfl | rfl
    · exact ⟨_, _, rfl, rfl, rfl⟩
    · exact ⟨_, _, rfl, rfl, rfl⟩
  rintro r s ⟨rfl, rfl⟩
  refine w_then (w_set (w_lstC (w_nil ⟨Nat.zero_le _, ?_⟩)))
  refine w_then (w_for (w_enumL (w_var rfl ⟨_, rfl, ?_⟩)))
  have en : enumL ((List.range (2 * one)).map fun i => .str (pnm i)) = (List.range (2 * one)).map fun i => D.par [.int (i : Nat), .str (pnm i)] := by
    rcases h1 with rfl | rfl <;> rfl
  rw [en]
  refine w_forX _ (List.range (2 * one)) (fun pre e st => ∃ (c' : Cell) (kf : Nat → Str), e = [some (.loc 0), some (.int (one : Nat)), some (.int 2), some (.lst ((List.range (2 * one)).map fun i => .str (pnm i))), none, none, some (.loc 1), none, none, none, none] ∧ BagC c' ∧ st = [c', .lst ((List.range pre.length).map fun i => rowP one i (kf i))])
    ⟨c1, fun _ => "", rfl, hc1, rfl⟩ ?_ ?_
  · rintro pre k post e st hsp ⟨c4, kf, rfl, hc4, rfl⟩
    obtain ⟨hk, _, hkn⟩ := range_split hsp
    subst hk
    refine ⟨_, _, rfl, (prod_f2 (a4 := none) (a5 := none) (a9 := none) (a10 := none) hc4 h1 hkn (kf := kf)).mono fun r s hr => ?_⟩
    obtain ⟨b4, b5, b9, rfl, c5, kf', hc5, rfl⟩ := hr
    refine ⟨c5, kf', rfl, hc5, ?_⟩
    rw [List.length_append]; rfl
  rintro e st ⟨c4, kf, rfl, hc4, rfl⟩
  rw [List.length_range]
  refine w_ret (w_tup (w_cons (w_tup (w_cons (w_c (w_cons (w_c (w_nil ⟨Nat.le_of_ble_eq_true rfl, ?_⟩))))))))
  refine w_cons (w_opA (w_cons (w_var rfl (w_nil ⟨.tup ((List.range (2 * one)).map fun i => rowP one i (kf i)), rfl, w_nil ⟨Nat.le_of_ble_eq_true rfl, ?_⟩⟩))))
  have hO : (Hs.mk (2 * one) 2 pnm kf (fun i j => if j = 0 then some (p1 one i) else some (p2 i))).Ok := by
    refine ⟨by show 1 ≤ 2 * one; omega, by show 2 * one ≤ 7; omega, Nat.le_of_ble_eq_true rfl, Nat.le_of_ble_eq_true rfl, fun i j hi hj e => pnm_inj0 i (by have : i < 2 * one := hi; omega) j (by have : j < 2 * one := hj; omega) e, fun i j k hi hj e => ?_⟩
    obtain ⟨l1, l2⟩ := p_lt h1 (i := i) hi
    dsimp only at e
    split at e
    · cases e; exact l1
    · cases e; exact l2
  have hD : (Hs.mk (2 * one) 2 pnm kf (fun i j => if j = 0 then some (p1 one i) else some (p2 i))).dat = .tup [.tup [.str "a", .str "b"], .tup ((List.range (2 * one)).map fun i => rowP one i (kf i))] := rfl
  exact ⟨_, .inl rfl, _, _, clean_ok (by simp [bag_ok hc4]) (by rw [← hD]; exact Hs.ok _), _, c4, hO, hD.symm, rfl, hc4⟩
/-! ### dicts by coded keys -/
section
variable {κ : Type} [DecidableEq κ] (i : κ → D) (hi : ∀ a b, keyEq (i a) (i b) = decide (a = b))
def putG (xs : List (κ × D)) (k : κ) (v : D) : List (κ × D) := if (xs.any fun p => decide (p.1 = k)) = true then xs.map (fun p => if p.1 = k then (p.1, v) else p) else xs ++ [(k, v)]
def getG (xs : List (κ × D)) (k : κ) : Option D := (xs.find? fun p => decide (p.1 = k)).map (·.2)
include hi
theorem put_G (xs : List (κ × D)) (k : κ) (v : D) : putKv (xs.map fun p => (i p.1, p.2)) (i k) v = (putG xs k v).map fun p => (i p.1, p.2) := by
  have e1 : ((xs.map fun p => (i p.1, p.2)).any fun p => keyEq p.1 (i k)) = xs.any fun p => decide (p.1 = k) := by
    rw [List.any_map]
    congr 1
    funext p
    exact hi p.1 k
  unfold putKv putG
  rw [e1]
  by_cases h : (xs.any fun p => decide (p.1 = k)) = true
  · rw [if_pos h, if_pos h, List.map_map, List.map_map]
    apply List.map_congr_left
    intro p _
    show (if keyEq (i p.1) (i k) = true then (i p.1, v) else (i p.1, p.2)) = (fun p : κ × D => (i p.1, p.2)) (if p.1 = k then (p.1, v) else p)
    rw [hi]
    by_cases hp : p.1 = k
    · rw [if_pos (by simpa using hp), if_pos hp]
    · rw [if_neg (by simpa using hp), if_neg hp]
  · rw [if_neg h, if_neg h, List.map_append]; rfl
theorem get_G (xs : List (κ × D)) (k : κ) : getKv (xs.map fun p => (i p.1, p.2)) (i k) = getG xs k := by
  unfold getKv getG
  rw [List.find?_map]
  have : ((fun p : D × D => keyEq p.1 (i k)) ∘ fun p : κ × D => (i p.1, p.2)) = fun p : κ × D => decide (p.1 = k) := by funext p; exact hi p.1 k
  rw [this]
  cases xs.find? (fun p => decide (p.1 = k)) <;> rfl
omit hi in
theorem getG_put : ∀ (xs : List (κ × D)) (k k' : κ) (v : D), getG (putG xs k v) k' = if k = k' then some v else getG xs k' := by
  intro xs k k' v
  unfold putG
  by_cases h : (xs.any fun p => decide (p.1 = k)) = true
  · rw [if_pos h]
    have go : ∀ xs : List (κ × D), ((xs.any fun p => decide (p.1 = k)) = true ∨ k ≠ k') → getG (xs.map fun p => if p.1 = k then (p.1, v) else p) k' = if k = k' then some v else getG xs k' := by
      intro xs
      induction xs with
      | nil =>
        intro h
        rcases h with h | h
        · cases h
        · rw [if_neg h]; rfl
      | cons x xs ih =>
        intro h
        unfold getG at ih ⊢
        rw [List.map_cons]
        by_cases hx : x.1 = k
        · by_cases hk : k = k'
          · rw [if_pos hx, if_pos hk, List.find?_cons_of_pos (by simp [hx, hk])]; rfl
          · have hx' : x.1 ≠ k' := fun z => hk (by rw [← hx, z])
            rw [if_pos hx, if_neg hk, List.find?_cons_of_neg (by simpa using hx'), List.find?_cons_of_neg (by simpa using hx')]
            have := ih (.inr hk)
            rw [if_neg hk] at this
            exact this
        · rw [if_neg hx]
          by_cases hx' : x.1 = k'
          · have hk : k ≠ k' := fun z => hx (by rw [hx', z])
            rw [if_neg hk, List.find?_cons_of_pos (by simpa using hx'), List.find?_cons_of_pos (by simpa using hx')]
          · rw [List.find?_cons_of_neg (by simpa using hx'), List.find?_cons_of_neg (by simpa using hx')]
            refine ih (h.imp (fun h => ?_) id)
            rw [List.any_cons] at h
            have : decide (x.1 = k) = false := decide_eq_false hx
            rw [this, Bool.false_or] at h; exact h
    exact go xs (.inl h)
  · rw [if_neg h]
    unfold getG
    rw [List.find?_append]
    by_cases hk : k = k'
    · subst hk
      have : xs.find? (fun p => decide (p.1 = k)) = none := List.find?_eq_none.mpr fun p hp z => h (List.any_eq_true.mpr ⟨p, hp, z⟩)
      rw [this, if_pos rfl]
      simp
    · rw [if_neg hk]
      have : [(k, v)].find? (fun p => decide (p.1 = k')) = none := by simp [hk]
      rw [this, Option.or_none]
omit hi in
theorem getG_mem {xs : List (κ × D)} {k : κ} {v : D} (h : getG xs k = some v) : (k, v) ∈ xs := by
  unfold getG at h
  cases hf : xs.find? (fun p => decide (p.1 = k)) with
  | none => rw [hf] at h; cases h
  | some p =>
    rw [hf] at h
    cases h
    have h1 := List.mem_of_find?_eq_some hf
    have h2 := List.find?_some hf
    have : p.1 = k := by simpa using h2
    rw [← this]; exact h1
/-- what dict makes of pairs -/
theorem mk_G : ∀ (ps acc : List (κ × D)), (ps.map fun p => (i p.1, p.2)).foldl (fun acc p => putKv acc p.1 p.2) (acc.map fun p => (i p.1, p.2)) = (ps.foldl (fun acc p => putG acc p.1 p.2) acc).map fun p => (i p.1, p.2)
  | [], acc => rfl
  | p :: ps, acc => by
    rw [List.map_cons, List.foldl_cons, List.foldl_cons, put_G i hi acc p.1 p.2]
    exact mk_G ps _
omit hi in
theorem mkG_get : ∀ (ps acc : List (κ × D)) (k : κ), (k ∈ ps.map (·.1) → ∃ v, v ∈ ps.map (·.2) ∧ getG (ps.foldl (fun acc p => putG acc p.1 p.2) acc) k = some v) ∧ (k ∉ ps.map (·.1) → getG (ps.foldl (fun acc p => putG acc p.1 p.2) acc) k = getG acc k)
  | [], acc, k => ⟨fun h => by simp at h, fun _ => rfl⟩
  | p :: ps, acc, k => by
    obtain ⟨h1, h2⟩ := mkG_get ps (putG acc p.1 p.2) k
    refine ⟨fun h => ?_, fun h => ?_⟩
    · by_cases hk : k ∈ ps.map (·.1)
      · obtain ⟨v, hv, e⟩ := h1 hk
        exact ⟨v, List.mem_cons_of_mem _ hv, e⟩
      · have hp : p.1 = k := by
          rw [List.map_cons] at h
          rcases List.mem_cons.mp h with z | z
          · exact z.symm
          · exact absurd z hk
        refine ⟨p.2, List.mem_cons_self .., ?_⟩
        rw [List.foldl_cons, h2 hk, getG_put, if_pos hp]
    · rw [List.map_cons] at h
      have hp : p.1 ≠ k := fun z => h (by rw [z]; exact List.mem_cons_self ..)
      rw [List.foldl_cons, h2 fun z => h (List.mem_cons_of_mem _ z), getG_put, if_neg hp]
end
theorem str_key (a b : Str) : keyEq (.str a) (.str b) = decide (a = b) := by
  show (a == b) = _
  by_cases h : a = b
  · subst h; rw [decide_eq_true rfl]; exact beq_self_eq_true a
  · rw [decide_eq_false h]; exact beq_eq_false_iff_ne.mpr h
/-- dict(zip(names, ys)) -/
theorem zip_dict {n : Nat} {ys : List Nat} (hl : ys.length = n) (hy : ∀ y ∈ ys, y < n) : ∃ K : List (Str × D), mkKv (((List.range n).map fun i => D.str (nmq i)).zip (ys.map fun y => D.str (nmq y))) = K.map (fun p => (D.str p.1, p.2)) ∧ ∀ i, i < n → ∃ x, x < n ∧ getG K (nmq i) = some (.str (nmq x)) := by
  have e1 : ((List.range n).map fun i => D.str (nmq i)).zip (ys.map fun y => D.str (nmq y)) = (((List.range n).map nmq).zip (ys.map fun y => D.str (nmq y))).map fun p => (D.str p.1, p.2) := by
    have : ((List.range n).map fun i => D.str (nmq i)) = ((List.range n).map nmq).map D.str := by rw [List.map_map]; rfl
    rw [this, List.zip_map_left]
    rfl
  refine ⟨_, by unfold mkKv; rw [e1]; exact mk_G D.str str_key _ [], fun i hi => ?_⟩
  have hk : nmq i ∈ (((List.range n).map nmq).zip (ys.map fun y => D.str (nmq y))).map (·.1) := by
    rw [List.map_fst_zip (by simp [hl])]
    exact List.mem_map.mpr ⟨i, List.mem_range.mpr hi, rfl⟩
  obtain ⟨v, hv, e⟩ := (mkG_get (((List.range n).map nmq).zip (ys.map fun y => D.str (nmq y))) [] (nmq i)).1 hk
  rw [List.map_snd_zip (by simp [hl])] at hv
  obtain ⟨y, hy2, rfl⟩ := List.mem_map.mp hv
  exact ⟨y, hy y hy2, e⟩
abbrev skv (p : Str × D) : D × D := (.str p.1, p.2)
theorem nmq_D (n : Nat) (L : List Nat) : (D.lst (L.map fun i => .str (nmq i))).ok = true := by
  show (L.map fun i => D.str (nmq i)).all (okd 59) = true
  rw [List.all_map, List.all_eq_true]; intro _ _; rfl
/-- the dict at l leads each name to a name -/
def Good (st : Store) (n l : Nat) : Prop := ∃ K : List (Str × D), st[l]? = some (.dct (K.map skv)) ∧ ∀ i, i < n → ∃ x, x < n ∧ getG K (nmq i) = some (.str (nmq x))
/-- .. of so many signs -/
def NX (st : Store) (n j b : Nat) : Prop := ∃ N : List (Str × D), st[1]? = some (.dct (N.map skv)) ∧ N.length ≤ b ∧ ∀ i, i < j → ∃ l, getG N (sgn i) = some (.loc l) ∧ l ≠ 1 ∧ Good st n l
theorem NX.on {st st' : Store} {n j b : Nat} (h : ∀ (i : Nat) (kvs : List (D × D)), st[i]? = some (.dct kvs) → st'[i]? = some (.dct kvs)) (g : NX st n j b) : NX st' n j b := by
  obtain ⟨N, e, hl, q⟩ := g
  exact ⟨N, h _ _ e, hl, fun i hi => by
    obtain ⟨l, e1, e2, K, e3, e4⟩ := q i hi
    exact ⟨l, e1, e2, K, h _ _ e3, e4⟩⟩
theorem dct_app {st more : Store} (i : Nat) (kvs : List (D × D)) (h : st[i]? = some (.dct kvs)) : (st ++ more)[i]? = some (.dct kvs) := by
  rw [List.getElem?_append_left (List.getElem?_eq_some_iff.mp h).1]; exact h
theorem dct_set {st : Store} {k : Nat} {xs ys : List D} (hk : st[k]? = some (.lst xs)) (i : Nat) (kvs : List (D × D)) (h : st[i]? = some (.dct kvs)) : (st.set k (.lst ys))[i]? = some (.dct kvs) := by
  have : k ≠ i := fun z => by rw [z, h] at hk; cases hk
  rw [List.getElem?_set_ne this]; exact h
theorem bag_lst {c : Cell} (h : BagC c) : ∃ xs, c = .lst xs := by
  obtain ⟨a, b, k, xs, rfl, _⟩ := h
  exact ⟨_, rfl⟩
theorem putG_len (N : List (Str × D)) (k : Str) (v : D) : (putG N k v).length ≤ N.length + 1 := by
  unfold putG
  split <;> simp
/-- a dict is put under a sign -/
theorem NX.put {st : Store} {n j k b : Nat} {K : List (Str × D)} (g : NX st n j b) (hb : b ≤ 100) (hk : k ≤ j) (hK : ∀ i, i < n → ∃ x, x < n ∧ getG K (nmq i) = some (.str (nmq x))) :
    ∃ st', setIx (st ++ [Cell.dct (K.map skv)]) (.loc 1) (.str (sgn k)) (.loc st.length) = some st' ∧ NX st' n (max j (k + 1)) (b + 1) ∧ ∀ (i : Nat) (xs : List D), st[i]? = some (Cell.lst xs) → st'[i]? = some (Cell.lst xs) := by
  obtain ⟨N, e, hl, q⟩ := g
  have h1 : 1 < st.length := (List.getElem?_eq_some_iff.mp e).1
  have e' := dct_app (more := [Cell.dct (K.map skv)]) 1 _ e
  refine ⟨(st ++ [Cell.dct (K.map skv)]).set 1 (.dct ((putG N (sgn k) (.loc st.length)).map skv)), ?_, ?_, fun i xs hx => ?_⟩
  · unfold setIx
    dsimp only
    rw [e']
    dsimp only
    rw [if_pos ⟨rfl, by rw [List.length_map, PySem.sizeLine_eq]; omega⟩]
    have := put_G D.str str_key N (sgn k) (.loc st.length)
    show some ((st ++ [Cell.dct (K.map skv)]).set 1 (.dct (putKv (N.map fun p => (D.str p.1, p.2)) (.str (sgn k)) (.loc st.length)))) = _
    rw [this]
  · refine ⟨putG N (sgn k) (.loc st.length), ?_, Nat.le_trans (putG_len _ _ _) (by omega), fun i hi => ?_⟩
    · rw [List.getElem?_set_self (by simp; omega)]
    · rw [getG_put]
      by_cases hik : sgn k = sgn i
      · rw [if_pos hik]
        refine ⟨_, rfl, by omega, K, ?_, hK⟩
        rw [List.getElem?_set_ne (by omega), List.getElem?_append_right (Nat.le_refl _), Nat.sub_self]; rfl
      · rw [if_neg hik]
        have hij : i < j := by
          have : i ≠ k := fun z => hik (by rw [z])
          omega
        obtain ⟨l, e1, e2, K', e3, e4⟩ := q i hij
        refine ⟨l, e1, e2, K', ?_, e4⟩
        rw [List.getElem?_set_ne (Ne.symm e2)]
        exact dct_app _ _ e3
  · rw [List.getElem?_set_ne (fun z => by rw [← z, e] at hx; cases hx), List.getElem?_append_left (List.getElem?_eq_some_iff.mp hx).1]; exact hx
/-- nexts[sign][name] -/
theorem NX.get {st : Store} {n j b i s : Nat} (g : NX st n j b) (hs : s < j) (hi : i < n) : ∃ l x, x < n ∧ vIx st (.loc 1) (.str (sgn s)) = some (.loc l) ∧ vIx st (.loc l) (.str (nmq i)) = some (.str (nmq x)) := by
  obtain ⟨N, e, hl, q⟩ := g
  obtain ⟨l, e1, e2, K, e3, e4⟩ := q s hs
  obtain ⟨x, hx, e5⟩ := e4 i hi
  refine ⟨l, x, hx, ?_, ?_⟩
  · unfold vIx dctOf
    dsimp only
    rw [e]
    exact (get_G D.str str_key N (sgn s)).trans e1
  · unfold vIx dctOf
    dsimp only
    rw [e3]
    exact (get_G D.str str_key K (nmq i)).trans e5
theorem bagC_lst {c : Cell} (h : BagC c) : ∃ xs, c = .lst xs := by
  obtain ⟨a, b, k, xs, rfl, _⟩ := h
  exact ⟨_, rfl⟩
abbrev nmsD (n : Nat) : List D := (List.range n).map fun i => D.str (nmq i)
/-- for sign in signs: nexts[sign] = dict(zip(names, ..)) -/
theorem turning_f1 {n k b : Nat} (hn : n ≤ 7) (hb : b ≤ 100) {st : Store} {c : Cell} (h0 : st[0]? = some c) (hc : BagC c) (g : NX st n k b) {a1 a3 a6 a7 a8 a9 a10 a11 a12 : Option D} :
    WS b__law_turning_house_f1 [some (.loc 0), a1, some (.lst (nmsD n)), a3, some (.loc 1), some (.str (sgn k)), a6, a7, a8, a9, a10, a11, a12] st fun r s => r = .nx [some (.loc 0), a1, some (.lst (nmsD n)), a3, some (.loc 1), some (.str (sgn k)), a6, a7, a8, a9, a10, a11, a12] ∧ NX s n (k + 1) (b + 1) ∧ ∃ c', s[0]? = some c' ∧ BagC c' := by
  unfold b__law_turning_house_f1
  obtain ⟨ys, c', hF, hc', hyl, hys⟩ := mixed_spec hc (xs := nmsD n) (fun x hx => by obtain ⟨i, _, rfl⟩ := List.mem_map.mp hx; rfl) (names_ok n) (by rw [names_len]; omega)
  rw [names_len] at hyl
  -- what is mixed
  obtain ⟨zs, hz, hz1, hz2⟩ : ∃ zs : List Nat, ys = zs.map (fun y => D.str (nmq y)) ∧ zs.length = n ∧ ∀ z ∈ zs, z < n := by
    clear hF
    have : ∀ ys : List D, (∀ y ∈ ys, y ∈ nmsD n) → ∃ zs : List Nat, ys = zs.map (fun y => D.str (nmq y)) ∧ zs.length = ys.length ∧ ∀ z ∈ zs, z < n := fun ys => by
      induction ys with
      | nil => intro _; exact ⟨[], rfl, rfl, by simp⟩
      | cons y ys ih =>
        intro h
        obtain ⟨zs, e, e2, e3⟩ := ih fun z hz => h z (List.mem_cons_of_mem _ hz)
        obtain ⟨i, hi, rfl⟩ := List.mem_map.mp (h y (by simp))
        exact ⟨i :: zs, by rw [e]; rfl, by simp [e2], fun z hz => (List.mem_cons.mp hz).elim (fun q => by rw [q]; exact List.mem_range.mp hi) (e3 z)⟩
    obtain ⟨zs, e1, e2, e3⟩ := this ys hys
    exact ⟨zs, e1, by omega, e3⟩
  subst hz
  obtain ⟨K, hK1, hK2⟩ := zip_dict hz1 hz2
  have hcall := call_1L (F := F__law_mixed) (ds := [.lst (nmsD n)]) h0 (by intro d hd; simp at hd; rw [hd]; exact names_ok n) (bag_ok hc) hF (bag_ok hc') (by
    show (zs.map fun y => D.str (nmq y)).all D.ok = true
    rw [List.all_map, List.all_eq_true]; intro _ _; rfl)
  obtain ⟨bx, hbx⟩ := bagC_lst hc
  obtain ⟨bx', hbx'⟩ := bagC_lst hc'
  have g2 : NX (st.set 0 c' ++ [Cell.lst (zs.map fun y => D.str (nmq y))]) n k b := g.on fun i kvs hi => dct_app _ _ (by
    rw [hbx']
    exact dct_set (by rw [h0, hbx]) _ _ hi)
  have hlen : (st.set 0 c').length = st.length := List.length_set
  obtain ⟨st', hs1, hs2, hs3⟩ := g2.put hb (Nat.le_refl k) hK2
  refine w_asg (w_op2S (w_var rfl (w_call (w_cons (w_var rfl (w_cons (w_var rfl (w_nil ⟨_, _, hcall, ?_⟩))))))))
  refine ⟨.loc (st.set 0 c' ++ [Cell.lst (zs.map fun y => D.str (nmq y))]).length, st.set 0 c' ++ [Cell.lst (zs.map fun y => D.str (nmq y))] ++ [.dct (K.map skv)], ?_, ?_⟩
  · have e : lstOf (st.set 0 c' ++ [Cell.lst (zs.map fun y => D.str (nmq y))]) (.loc st.length) = some (zs.map fun y => D.str (nmq y)) := by
      unfold lstOf
      dsimp only
      rw [List.getElem?_append_right (by omega), hlen, Nat.sub_self]; rfl
    unfold vDictZip
    show ((lstOf _ (.loc st.length)).bind fun ys => if (nmsD n).all isKey then _ else none) = _
    rw [e, Option.bind_some, if_pos (by
      rw [List.all_map, List.all_eq_true]; intro _ _; rfl), hK1]
  refine g_set (w_var rfl (w_var rfl ⟨st', hs1, rfl, ?_, c', ?_, hc'⟩))
  · rw [Nat.max_eq_right (by omega)] at hs2
    exact hs2
  · rw [hbx']
    refine hs3 0 bx' ?_
    have h1 : 0 < st.length := (List.getElem?_eq_some_iff.mp h0).1
    rw [List.getElem?_append_left (by omega), List.getElem?_set_self h1, hbx']
abbrev nmL (L : List Nat) : List D := L.map fun i => D.str (nmq i)
structure TI (n m b t : Nat) (st : Store) (ll lm : Nat) : Prop where
  nx : NX st n m b
  bag : ∃ c, st[0]? = some c ∧ BagC c
  ne : ll ≠ lm
  l0 : ll ≠ 0
  m0 : lm ≠ 0
  ls : ∃ L : List Nat, st[ll]? = some (.lst (nmL L)) ∧ (∀ x ∈ L, x < n) ∧ L.length ≤ 1 + 2 * t
  ms : ∃ M : List Nat, st[lm]? = some (.lst (nmL M)) ∧ (∀ x ∈ M, x < n) ∧ M.length ≤ t
theorem TI.up {n m b t : Nat} {st : Store} {ll lm : Nat} (h : TI n m b t st ll lm) : TI n m b (t + 1) st ll lm := by
  obtain ⟨L, e1, e2, e3⟩ := h.ls
  obtain ⟨M, e4, e5, e6⟩ := h.ms
  exact ⟨h.nx, h.bag, h.ne, h.l0, h.m0, ⟨L, e1, e2, by omega⟩, ⟨M, e4, e5, by omega⟩⟩
theorem lst_set {st : Store} {k i : Nat} {c : Cell} {xs : List D} (h : st[i]? = some (Cell.lst xs)) (hk : k ≠ i) : (st.set k c)[i]? = some (Cell.lst xs) := by
  rw [List.getElem?_set_ne hk]; exact h
theorem see_loc {st : Store} {k : Nat} {L : List Nat} (h : st[k]? = some (.lst (nmL L))) : see st (.loc k) = .lst (nmL L) ∧ seq? st (.loc k) = some (nmL L) ∧ lstOf st (.loc k) = some (nmL L) ∧ dctOf st (.loc k) = none := by
  refine ⟨?_, ?_, ?_, ?_⟩
  · unfold see; dsimp only; rw [h]
  · unfold seq?; dsimp only; rw [h]
  · unfold lstOf; dsimp only; rw [h]
  · unfold dctOf; dsimp only; rw [h]
theorem turning_f2 {n m b t : Nat} (hn : n ≤ 7) (hm : m ≤ 2) (ht : t ≤ 100) {st : Store} {ll lm : Nat} (T : TI n m b t st ll lm) {a1 a2 a5 a8 a9 a10 a11 a12 : Option D} :
    WS b__law_turning_house_f2 [some (.loc 0), a1, a2, some (.tup ((List.range m).map fun j => .str (sgn j))), some (.loc 1), a5, some (.loc ll), some (.loc lm), a8, a9, a10, a11, a12] st fun r s => ∃ ll', r = .nx [some (.loc 0), a1, a2, some (.tup ((List.range m).map fun j => .str (sgn j))), some (.loc 1), a5, some (.loc ll'), some (.loc lm), a8, a9, a10, a11, a12] ∧ TI n m b (t + 1) s ll' lm := by
  unfold b__law_turning_house_f2
  obtain ⟨L, hL, hL2, hL3⟩ := T.ls
  obtain ⟨M, hM, hM2, hM3⟩ := T.ms
  obtain ⟨c, h0, hc⟩ := T.bag
  refine w_sif (w_tv (w_op2 (w_var rfl (w_lst (w_nil ⟨Nat.zero_le _, .bl !L.isEmpty, ?_, _, rfl, fun hk => ?_, fun hk => w_skip ⟨ll, rfl, T.up⟩⟩)))))
  · unfold vNe
    rw [(see_loc hL).1, nmq_D n L]
    cases L <;> rfl
  obtain ⟨L', y, rfl⟩ : ∃ L' y, L = L' ++ [y] := by
    rcases List.eq_nil_or_concat L with rfl | ⟨L', y, e⟩
    · cases hk
    · exact ⟨L', y, by simpa using e⟩
  have hy : y < n := hL2 y (by simp)
  have hl1 : ll < st.length := (List.getElem?_eq_some_iff.mp hL).1
  have hm1 : lm < st.length := (List.getElem?_eq_some_iff.mp hM).1
  have a1' : (st.set ll (Cell.lst (nmL L')))[ll]? = some (.lst (nmL L')) := List.getElem?_set_self hl1
  have a2' : (st.set ll (Cell.lst (nmL L')))[lm]? = some (.lst (nmL M)) := lst_set hM T.ne
  generalize hst1 : st.set ll (Cell.lst (nmL L')) = st1 at a1' a2'
  have nx1 : NX st1 n m b := by rw [← hst1]; exact T.nx.on fun i kvs hi => dct_set hL _ _ hi
  have b1 : st1[0]? = some c := by rw [← hst1, List.getElem?_set_ne T.l0]; exact h0
  have len1 : st1.length = st.length := by rw [← hst1, List.length_set]
  have c1 : (st1.set lm (Cell.lst (nmL (M ++ [y]))))[lm]? = some (.lst (nmL (M ++ [y]))) := List.getElem?_set_self (by rw [len1]; exact hm1)
  have c2 : (st1.set lm (Cell.lst (nmL (M ++ [y]))))[ll]? = some (.lst (nmL L')) := lst_set a1' (Ne.symm T.ne)
  generalize hst2 : st1.set lm (Cell.lst (nmL (M ++ [y]))) = st2 at c1 c2
  have nx2 : NX st2 n m b := by rw [← hst2]; exact nx1.on fun i kvs hi => dct_set a2' _ _ hi
  have b2 : st2[0]? = some c := by rw [← hst2, List.getElem?_set_ne T.m0]; exact b1
  have len2 : st2.length = st.length := by rw [← hst2, List.length_set, len1]
  have ty : ∀ {s : Store} {k : Nat} {xs : List D}, s[k]? = some (Cell.lst xs) → tyN s (.loc k) = some "list" := fun h => by unfold tyN; dsimp only; rw [h]
  rw [List.length_append, List.length_singleton] at hL3
  refine w_then (w_do (w_meth (w_var rfl ⟨ty hM, w_cons (w_meth (w_var rfl ⟨ty hL, w_nil ⟨.str (nmq y), st1, ?_, w_nil ⟨.non, st2, ?_, ?_⟩⟩⟩))⟩)))
  · unfold mPop
    dsimp only
    rw [hL]
    dsimp only
    have e : nmL (L' ++ [y]) = nmL L' ++ [.str (nmq y)] := by simp [nmL]
    rw [e, List.length_append, List.length_singleton, Nat.add_sub_cancel, List.getElem?_append_right (Nat.le_refl _), Nat.sub_self, List.dropLast_concat, hst1]
    rfl
  · unfold mAppend
    dsimp only
    rw [a2']
    dsimp only
    rw [if_pos (by rw [List.length_map, PySem.sizeLine_eq]; omega)]
    have e : nmL (M ++ [y]) = nmL M ++ [.str (nmq y)] := by simp [nmL]
    rw [← e, hst2]
  -- where the signs lead
  have hx : ∀ j, ∃ x, j < m → x < n ∧ ∃ l, vIx st2 (.loc 1) (.str (sgn j)) = some (.loc l) ∧ vIx st2 (.loc l) (.str (nmq y)) = some (.str (nmq x)) := fun j => by
    by_cases hj : j < m
    · obtain ⟨l, x, h1, h2, h3⟩ := nx2.get hj hy
      exact ⟨x, fun _ => ⟨h1, l, h2, h3⟩⟩
    · exact ⟨0, fun h => absurd h hj⟩
  obtain ⟨X, hX⟩ := Classical.axiomOfChoice hx
  have last : vIx st2 (.loc lm) (.int (-1)) = some (.str (nmq y)) := by
    unfold vIx
    rw [(see_loc c1).2.2.2]
    show ((seq? st2 (.loc lm)).bind fun xs => (ix? xs.length (-1)).bind fun j => xs[j]?) = _
    rw [(see_loc c1).2.1, Option.bind_some]
    have e : nmL (M ++ [y]) = nmL M ++ [.str (nmq y)] := by simp [nmL]
    rw [e]
    unfold ix?
    rw [if_neg (by omega), if_pos (by rw [List.length_append, List.length_singleton]; omega), Option.bind_some, List.length_append, List.length_singleton]
    have : (-1 + (((nmL M).length + 1 : Nat) : Int)).toNat = (nmL M).length := by omega
    rw [this, List.getElem?_append_right (Nat.le_refl _), Nat.sub_self]; rfl
  have hadd : vAdd st2 (.loc lm) (.loc ll) = some (.lst (nmL (M ++ [y]) ++ nmL L')) := by
    show addL st2 (.loc lm) (.loc ll) = _
    unfold addL
    rw [(see_loc c1).2.2.1, (see_loc c2).2.2.1, Option.bind_some, Option.bind_some, if_pos (by
      rw [List.length_map, List.length_map, List.length_append, List.length_singleton, PySem.sizeLine_eq]; omega)]
  have e2 : ∀ x, vNin st2 (.str (nmq x)) (.lst (nmL (M ++ [y]) ++ nmL L')) = some (.bl !((nmL (M ++ [y]) ++ nmL L').any fun z => z.eqv (.str (nmq x)))) := fun x => by
    unfold vNin vIn
    have h1 : dctOf st2 (.lst (nmL (M ++ [y]) ++ nmL L')) = none := rfl
    rw [h1]
    show (match (mem? (.str (nmq x)) (nmL (M ++ [y]) ++ nmL L')).map D.bl with | some (.bl b) => some (D.bl !b) | _ => none) = _
    unfold mem?
    rw [if_pos (by
      have : (nmL (M ++ [y]) ++ nmL L').all D.ok = true := by
        rw [List.all_eq_true]
        intro d hd
        rcases List.mem_append.mp hd with z | z <;> (obtain ⟨i, _, rfl⟩ := List.mem_map.mp z; rfl)
      rw [this]; rfl)]
    rfl
  have hcomp : compL (gName 5) (tV (op2 vNin (op2 vIx (op2 vIx (eVar 4) (eVar 5)) (op2 vIx (eVar 7) (op1 vNeg (eC (.int 1))))) (op2 vAdd (eVar 7) (eVar 6)))) (op2 vIx (op2 vIx (eVar 4) (eVar 5)) (op2 vIx (eVar 7) (op1 vNeg (eC (.int 1)))))
      ((List.range m).map fun j => .str (sgn j)) (wipe [some (.loc 0), a1, a2, some (.tup ((List.range m).map fun j => .str (sgn j))), some (.loc 1), a5, some (.loc ll), some (.loc lm), a8, a9, a10, a11, a12] [10, 5]) st2
      = some (((List.range m).filter fun j => !((nmL (M ++ [y]) ++ nmL L').any fun z => z.eqv (.str (nmq (X j))))).map fun j => .str (nmq (X j)), st2) := by
    refine compL_filter (fun j => .str (sgn j)) (fun j => .str (nmq (X j))) _ fun j hj => ?_
    obtain ⟨_, l, h1, h2⟩ := hX j (List.mem_range.mp hj)
    refine ⟨_, rfl, ?_, fun _ => ?_⟩
    · refine w_tv (w_op2 (w_op2 (w_op2 (w_var rfl (w_var rfl ⟨_, h1, w_op2 (w_var rfl (w_op1 (w_c ⟨.int (-1), rfl, _, last, _, h2, w_op2 (w_var rfl (w_var rfl ⟨_, hadd, _, e2 _, _, rfl, rfl, rfl⟩))⟩)))⟩)))))
    · exact w_op2 (w_op2 (w_var rfl (w_var rfl ⟨_, h1, w_op2 (w_var rfl (w_op1 (w_c ⟨.int (-1), rfl, _, last, _, h2, rfl, rfl⟩)))⟩)))
  generalize hJ : ((List.range m).filter fun j => !((nmL (M ++ [y]) ++ nmL L').any fun z => z.eqv (.str (nmq (X j))))) = J at hcomp
  have hJm : ∀ j ∈ J, j < m := fun j hj => by rw [← hJ] at hj; exact List.mem_range.mp (List.mem_filter.mp hj).1
  have hJl : J.length ≤ 2 := by
    rw [← hJ]
    refine Nat.le_trans (List.length_filter_le _ _) ?_
    rw [List.length_range]; exact hm
  refine w_set (w_op2S (w_var rfl (w_lc (w_seqi (w_var rfl ⟨_, rfl, _, _, hcomp, .loc st2.length, st2 ++ [.lst (nmL (L' ++ J.map X))], ?_, st2.length, rfl, ?_⟩)))))
  · unfold vAddC
    rw [(see_loc c2).2.2.1, Option.bind_some]
    show (if (nmL L').length + (J.map fun j => D.str (nmq (X j))).length ≤ PySem.sizeLine then some (D.loc st2.length, st2 ++ [Cell.lst (nmL L' ++ J.map fun j => D.str (nmq (X j)))]) else none) = _
    rw [if_pos (by rw [List.length_map, List.length_map, PySem.sizeLine_eq]; omega)]
    have : nmL (L' ++ J.map X) = nmL L' ++ J.map fun j => D.str (nmq (X j)) := by simp [nmL]
    rw [this]
  · refine ⟨nx2.on fun i kvs hi => dct_app _ _ hi, ⟨c, ?_, hc⟩, by omega, by omega, T.m0, ⟨L' ++ J.map X, ?_, fun x hx => ?_, ?_⟩, ⟨M ++ [y], ?_, fun x hx => ?_, ?_⟩⟩
    · rw [List.getElem?_append_left (by omega)]; exact b2
    · rw [List.getElem?_append_right (Nat.le_refl _), Nat.sub_self]; rfl
    · rcases List.mem_append.mp hx with z | z
      · exact hL2 x (by simp [z])
      · obtain ⟨j, hj, rfl⟩ := List.mem_map.mp z
        exact (hX j (hJm j hj)).1
    · rw [List.length_append, List.length_map]; omega
    · rw [List.getElem?_append_left (by omega)]; exact c1
    · rcases List.mem_append.mp hx with z | z
      · exact hM2 x z
      · have : x = y := by simpa using z
        rw [this]; exact hy
    · rw [List.length_append, List.length_singleton]; omega
theorem turning_house_spec {c : Cell} (hc : BagC c) {most : Nat} (hm0 : 1 ≤ most) (hmost : most ≤ 7) : ∃ (h : Hs) (c' : Cell), h.Ok ∧ F__law_turning_house [.loc 0, .int (most : Nat)] [c] = some (.ok h.dat, [c']) ∧ BagC c' := by
  suffices hh : ∃ d s, F__law_turning_house [.loc 0, .int (most : Nat)] [c] = some (.ok d, s) ∧ ∃ (h : Hs) (c' : Cell), h.Ok ∧ d = h.dat ∧ s = [c'] ∧ BagC c' by
    obtain ⟨d, s, e, h, c', h1, rfl, rfl, h2⟩ := hh
    exact ⟨h, c', h1, e, h2⟩
  refine fn_of rfl ?_
  show WS b__law_turning_house [some (.loc 0), some (.int (most : Nat)), none, none, none, none, none, none, none, none, none, none, none] [c] _
  unfold b__law_turning_house
  refine w_then (w_asg (w_tup (w_cons (w_slice (w_lst ?_)))))
  (repeat (first | (with_reducible refine w_tv ?_) | (with_reducible refine w_not ?_) | (with_reducible refine w_op1 ?_) | (with_reducible refine w_enot ?_) | (with_reducible refine w_op2 ?_) | (with_reducible refine w_opA ?_) | (with_reducible refine w_opAS ?_) | (with_reducible refine w_meth ?_) | (with_reducible refine w_cons ?_) | (with_reducible refine w_nil ?_) | (with_reducible refine w_tup ?_) | (with_reducible refine w_lst ?_) | (with_reducible refine w_lstC ?_) | (with_reducible refine w_slice ?_) | (with_reducible refine w_psome ?_) | (with_reducible refine w_pnone ?_) | (with_reducible refine w_seqi ?_) | (with_reducible refine w_range1 ?_) | (with_reducible refine w_star ?_) | refine w_var rfl ?_ | (with_reducible refine w_c ?_) | refine ⟨_, rfl, ?_⟩ | refine ⟨Nat.le_of_ble_eq_true rfl, ?_⟩ | refine ⟨rfl, ?_⟩ | refine ⟨fun _ => ?_, fun h => absurd h.symm Bool.false_ne_true⟩ | refine ⟨fun h => absurd h Bool.false_ne_true, fun _ => ?_⟩ | refine ⟨fun _ => ?_, fun h => absurd h Bool.false_ne_true⟩ | refine ⟨fun h => absurd h.symm Bool.false_ne_true, fun _ => ?_⟩))
  refine w_call (w_cons (w_var rfl (w_cons (w_var rfl (w_nil ?_)))))
  refine take_call hc rfl (by omega) (by omega) fun v c1 hc1 hv0 hv1 => ?_
  obtain ⟨v, rfl⟩ := Int.eq_ofNat_of_zero_le hv0
  have hv1 : v < most := by omega
  refine ⟨.int ((1 + v : Nat) : Int), ?_, _, rfl, .lst (nmsD (1 + v)), ?_, ?_⟩
  · show some (D.int (1 + (v : Int))) = _
    rw [Int.natCast_add]; rfl
  · show some (D.lst (cut ((List.range 7).map fun i => D.str (nmq i)) none (some ((1 + v : Nat) : Int)))) = _
    rw [cut_take, take_range (by omega)]
  refine w_cons (w_slice (w_tup ?_))
  (repeat (first | (with_reducible refine w_tv ?_) | (with_reducible refine w_not ?_) | (with_reducible refine w_op1 ?_) | (with_reducible refine w_enot ?_) | (with_reducible refine w_op2 ?_) | (with_reducible refine w_opA ?_) | (with_reducible refine w_opAS ?_) | (with_reducible refine w_meth ?_) | (with_reducible refine w_cons ?_) | (with_reducible refine w_nil ?_) | (with_reducible refine w_tup ?_) | (with_reducible refine w_lst ?_) | (with_reducible refine w_lstC ?_) | (with_reducible refine w_slice ?_) | (with_reducible refine w_psome ?_) | (with_reducible refine w_pnone ?_) | (with_reducible refine w_seqi ?_) | (with_reducible refine w_range1 ?_) | (with_reducible refine w_star ?_) | refine w_var rfl ?_ | (with_reducible refine w_c ?_) | refine ⟨_, rfl, ?_⟩ | refine ⟨Nat.le_of_ble_eq_true rfl, ?_⟩ | refine ⟨rfl, ?_⟩ | refine ⟨fun _ => ?_, fun h => absurd h.symm Bool.false_ne_true⟩ | refine ⟨fun h => absurd h Bool.false_ne_true, fun _ => ?_⟩ | refine ⟨fun _ => ?_, fun h => absurd h Bool.false_ne_true⟩ | refine ⟨fun h => absurd h.symm Bool.false_ne_true, fun _ => ?_⟩))
  refine w_call (w_cons (w_var rfl (w_cons (w_c (w_nil ?_)))))
  refine take_call hc1 rfl (by decide) (by decide) fun u c2 hc2 hu0 hu1 => ?_
  obtain ⟨u, rfl⟩ := Int.eq_ofNat_of_zero_le hu0
  have hu1 : u < 2 := by omega
  refine ⟨.int ((1 + u : Nat) : Int), ?_, _, rfl, .tup ((List.range (1 + u)).map fun j => .str (sgn j)), ?_, ?_⟩
  · show some (D.int (1 + (u : Int))) = _
    rw [Int.natCast_add]; rfl
  · show some (D.tup (cut ((List.range 2).map fun j => D.str (sgn j)) none (some ((1 + u : Nat) : Int)))) = _
    rw [cut_take, take_range (by omega)]
  refine w_nil ⟨Nat.le_of_ble_eq_true rfl, _, _, rfl, ?_⟩
  generalize hn : 1 + v = n
  generalize hmm : 1 + u = m
  have hn1 : 1 ≤ n := by omega
  have hn7 : n ≤ 7 := by omega
  have hm1 : 1 ≤ m := by omega
  have hm2 : m ≤ 2 := by omega
  refine w_then (w_set (w_dctC ?_))
  -- nexts
  refine w_then (w_for (w_seqi (w_var rfl ⟨_, rfl, ?_⟩)))
  refine w_forX (fun j => D.str (sgn j)) (List.range m) (fun pre e st => e = [some (.loc 0), some (.int (most : Nat)), some (.lst (nmsD n)), some (.tup ((List.range m).map fun j => .str (sgn j))), some (.loc 1), none, none, none, none, none, none, none, none] ∧ NX st n pre.length pre.length ∧ ∃ c', st[0]? = some c' ∧ BagC c')
    ⟨rfl, ⟨[], rfl, Nat.le_refl 0, fun i hi => absurd hi (by simp)⟩, c2, rfl, hc2⟩ ?_ ?_
  · rintro pre k post e st hsp ⟨rfl, g, c4, h0, hc4⟩
    obtain ⟨hk, _, hkm⟩ := range_split hsp
    subst hk
    refine ⟨_, _, rfl, (turning_f1 hn7 (by omega) h0 hc4 g).mono fun r s hr => ?_⟩
    obtain ⟨rfl, g2, h2⟩ := hr
    exact ⟨rfl, by rw [List.length_append]; exact g2, h2⟩
  rintro e st ⟨rfl, g, c4, h0, hc4⟩
  rw [List.length_range] at g
  have hst1 : 1 < st.length := by
    obtain ⟨N, e, _⟩ := id g
    exact (List.getElem?_eq_some_iff.mp e).1
  refine w_then (w_asg (w_tup (w_cons (w_lstC (w_cons (w_op2 (w_var rfl (w_c ⟨.str (nmq 0), (seq_at (range_at (n := n) (i := 0) (f := fun i => D.str (nmq i)) hn1)).2, w_nil ⟨Nat.le_of_ble_eq_true rfl, ?_⟩⟩))))))))
  refine w_cons (w_lstC (w_nil ⟨Nat.zero_le _, w_nil ⟨Nat.le_of_ble_eq_true rfl, _, _, rfl, ?_⟩⟩))
  -- line, met
  have T0 : TI n m m 0 (st ++ [Cell.lst [.str (nmq 0)]] ++ [Cell.lst []]) st.length (st ++ [Cell.lst [.str (nmq 0)]]).length := by
    refine ⟨g.on fun i kvs hi => dct_app _ _ (dct_app _ _ hi), ⟨c4, ?_, hc4⟩, by simp, by omega, by simp, ⟨[0], ?_, (fun x hx => by
      have : x = 0 := by simpa using hx
      omega), Nat.le_refl _⟩, ⟨[], ?_, by simp, Nat.le_refl _⟩⟩
    · rw [List.getElem?_append_left (by simp), List.getElem?_append_left (by omega)]; exact h0
    · rw [List.getElem?_append_left (by simp), List.getElem?_append_right (Nat.le_refl _), Nat.sub_self]; rfl
    · rw [List.getElem?_append_right (Nat.le_refl _), Nat.sub_self]; rfl
  generalize (st ++ [Cell.lst [.str (nmq 0)]] ++ [Cell.lst []]) = st3 at T0 ⊢
  generalize (st ++ [Cell.lst [.str (nmq 0)]]).length = lm at T0 ⊢
  generalize hll : st.length = ll at T0 ⊢
  refine w_then (w_for (w_range1 (w_op2 (w_c (w_opA (w_cons (w_var rfl (w_nil ⟨.int (n : Nat), ?_, .int ((3 * n : Nat) : Int), ?_, _, rfl, ⟨by rw [PySem.sizeLine_eq]; omega, by omega⟩, ?_⟩))))))))
  · show some (D.int ((nmsD n).length : Nat)) = _
    rw [names_len]
  · rw [vMul_left (by decide)]; rfl
  refine w_forN (3 * n) (fun t e st => ∃ ll, e = [some (.loc 0), some (.int (most : Nat)), some (.lst (nmsD n)), some (.tup ((List.range m).map fun j => .str (sgn j))), some (.loc 1), none, some (.loc ll), some (.loc lm), none, none, none, none, none] ∧ TI n m m t st ll lm) ⟨ll, rfl, T0⟩ ?_ ?_
  · rintro t e st ht ⟨ll, rfl, T⟩
    refine ⟨_, _, rfl, (turning_f2 hn7 hm2 (by omega) T).mono fun r s hr => ?_⟩
    obtain ⟨ll', rfl, T'⟩ := hr
    exact ⟨ll', rfl, T'⟩
  rintro e st4 ⟨ll4, rfl, T⟩
  -- all met?
  obtain ⟨M, hM, hM2, hM3⟩ := T.ms
  obtain ⟨c5, h5, hc5⟩ := T.bag
  have hkey : (nmL M).all isKey = true := by rw [List.all_map, List.all_eq_true]; intro _ _; rfl
  refine w_then (WS.mono (Q := fun r s => r = .nx [some (.loc 0), some (.int (most : Nat)), some (.lst (nmsD n)), some (.tup ((List.range m).map fun j => .str (sgn j))), some (.loc 1), none, some (.loc ll4), some (.loc lm), none, none, none, none, none] ∧ NX s n m (m + 1) ∧ ∃ c', s[0]? = some c' ∧ BagC c') ?_ ?_)
  · refine w_sif (w_tv (w_op2 (w_op1 (w_var rfl ⟨.int ((dedupD (nmL M)).length : Nat), ?_, w_opA (w_cons (w_var rfl (w_nil ⟨.int (n : Nat), ?_, _, rfl, _, rfl, fun hk => ?_, fun hk => w_skip ⟨rfl, ?_, c5, h5, hc5⟩⟩)))⟩))))
    · unfold vLenSet
      rw [(see_loc hM).2.2.1, Option.bind_some, if_pos ⟨hkey, by rw [List.length_map]; omega⟩]
    · show some (D.int ((nmsD n).length : Nat)) = _
      rw [names_len]
    · obtain ⟨N, e1, e2, e3⟩ := T.nx
      -- the names turned
      have rot : cut (nmsD n) (some 1) none ++ cut (nmsD n) none (some 1) = ((List.range n).map fun i => (i + 1) % n).map fun y => D.str (nmq y) := by
        have a1 : cut (nmsD n) none (some 1) = [D.str (nmq 0)] := by
          rw [show (some (1 : Int)) = some ((1 : Nat) : Int) from rfl, cut_take, take_range hn1]; rfl
        have a2 : cut (nmsD n) (some 1) none = (nmsD n).drop 1 := by
          unfold cut cutAt
          dsimp only
          rw [if_neg (by omega), names_len]
          have : min (1 : Int).toNat n = 1 := by
            show min 1 n = 1
            omega
          rw [this, List.take_of_length_le (by simp)]
        rw [a1, a2]
        apply List.ext_getElem?
        intro i
        rw [List.getElem?_map, List.getElem?_map]
        by_cases hi : i + 1 < n
        · rw [List.getElem?_append_left (by rw [List.length_drop, names_len]; omega), List.getElem?_drop, List.getElem?_map, List.getElem?_range (by omega), List.getElem?_range (by omega)]
          show some (D.str (nmq (1 + i))) = some (D.str (nmq ((i + 1) % n)))
          rw [Nat.mod_eq_of_lt hi, Nat.add_comm]
        · rw [List.getElem?_append_right (by rw [List.length_drop, names_len]; omega), List.length_drop, names_len]
          by_cases hi2 : i + 1 = n
          · have e0 : i - (n - 1) = 0 := by omega
            rw [e0, List.getElem?_range (by omega)]
            show some (D.str (nmq 0)) = some (D.str (nmq ((i + 1) % n)))
            rw [hi2, Nat.mod_self]
          · rw [List.getElem?_eq_none (l := List.range n) (by simp; omega), List.getElem?_eq_none (by simp; omega)]; rfl
      obtain ⟨K, hK1, hK2⟩ := zip_dict (n := n) (ys := (List.range n).map fun i => (i + 1) % n) (by simp) (fun y hy => by
        obtain ⟨i, _, rfl⟩ := List.mem_map.mp hy
        exact Nat.mod_lt _ (by omega))
      obtain ⟨st', hs1, hs2, hs3⟩ := T.nx.put (k := 0) (by omega) (Nat.zero_le m) hK2
      obtain ⟨bx, hbx⟩ := bagC_lst hc5
      refine w_asg (w_op2S (w_var rfl (w_op2 (w_slice (w_var rfl (w_psome (w_c ⟨_, rfl, w_pnone ⟨_, rfl, w_slice (w_var rfl (w_pnone (w_psome (w_c ⟨_, rfl, _, rfl, .lst (((List.range n).map fun i => (i + 1) % n).map fun y => D.str (nmq y)), ?_, .loc st4.length, st4 ++ [.dct (K.map skv)], ?_, ?_⟩))))⟩⟩)))))))
      · show (if _ then some (D.lst (cut (nmsD n) (some 1) none ++ cut (nmsD n) none (some 1))) else none) = _
        rw [if_pos ?_, rot]
        unfold cut
        rw [List.length_take, List.length_take, List.length_drop, List.length_drop, names_len, PySem.sizeLine_eq]
        omega
      · show (if (nmsD n).all isKey then some (D.loc st4.length, st4 ++ [Cell.dct (mkKv ((nmsD n).zip _))]) else none) = _
        rw [if_pos (by rw [List.all_map, List.all_eq_true]; intro _ _; rfl), hK1]
      · refine g_set (w_var rfl (w_op2 (w_var rfl (w_c ⟨.str (sgn 0), (seq_at (range_at (n := m) (i := 0) (f := fun j => D.str (sgn j)) hm1)).1, st', hs1, rfl, ?_, c5, ?_, hc5⟩))))
        · rw [Nat.max_eq_left (by omega)] at hs2; exact hs2
        · rw [hbx] at h5 ⊢; exact hs3 0 bx h5
    · obtain ⟨N, e1, e2, e3⟩ := T.nx
      exact ⟨N, e1, by omega, e3⟩
  rintro r s5 ⟨rfl, g5, c6, h6, hc6⟩
  refine w_then (w_set (w_call (w_cons (w_var rfl (w_cons (w_opA (w_cons (w_var rfl (w_nil ⟨.int (n : Nat), ?_, w_nil ?_⟩)))))))))
  · show some (D.int ((nmsD n).length : Nat)) = _
    rw [names_len]
  refine kinds_call hc6 h6 (by omega) fun ks c7 hc7 hks => ?_
  obtain ⟨bx6, hbx6⟩ := bagC_lst hc6
  obtain ⟨bx7, hbx7⟩ := bagC_lst hc7
  have g7 : NX (s5.set 0 c7) n m (m + 1) := g5.on fun i kvs hi => by
    rw [hbx7]; exact dct_set (by rw [h6, hbx6]) _ _ hi
  have h7 : (s5.set 0 c7)[0]? = some c7 := List.getElem?_set_self (List.getElem?_eq_some_iff.mp h6).1
  generalize s5.set 0 c7 = s7 at g7 h7 ⊢
  have hx : ∀ p : Nat × Nat, ∃ x, p.1 < n → p.2 < m → x < n ∧ ∃ l, vIx s7 (.loc 1) (.str (sgn p.2)) = some (.loc l) ∧ vIx s7 (.loc l) (.str (nmq p.1)) = some (.str (nmq x)) := fun p => by
    by_cases hi : p.1 < n
    · by_cases hj : p.2 < m
      · obtain ⟨l, x, h1, h2, h3⟩ := g7.get hj hi
        exact ⟨x, fun _ _ => ⟨h1, l, h2, h3⟩⟩
      · exact ⟨0, fun _ h => absurd h hj⟩
    · exact ⟨0, fun h => absurd h hi⟩
  obtain ⟨X, hX⟩ := Classical.axiomOfChoice hx
  refine w_ret (w_tup (w_cons (w_var rfl (w_cons (w_opA (w_cons (w_lc (w_zip2 (w_var rfl (w_var rfl ⟨(List.range n).map (fun i => D.par [.str (nmq i), .str (ks.getD i "")]), ?_, (List.range n).map (fun i => rowK m ks i fun j => some (X (i, j))), s7, ?_, w_nil ⟨.tup ((List.range n).map (fun i => rowK m ks i fun j => some (X (i, j)))), rfl, w_nil ⟨Nat.le_of_ble_eq_true rfl, ?_⟩⟩⟩))))))))))
  · rw [strs_range ks, hks]
    show some (zipP _ _) = _
    rw [zip_range]
  · refine compL_map (fun i => D.par [.str (nmq i), .str (ks.getD i "")]) (fun i => rowK m ks i fun j => some (X (i, j))) fun i hi => ⟨_, rfl, ?_⟩
    have hi := List.mem_range.mp hi
    refine w_tup (w_cons (w_var rfl (w_cons (w_var rfl (w_cons (w_opA (w_cons (w_lc (w_seqi (w_var rfl ⟨_, rfl, (List.range m).map (fun j => D.str (nmq (X (i, j)))), s7, ?_, w_nil ⟨_, rfl, w_nil ⟨Nat.le_of_ble_eq_true rfl, rfl, rfl⟩⟩⟩))))))))))
    refine compL_map (fun j => D.str (sgn j)) (fun j => D.str (nmq (X (i, j)))) fun j hj => ⟨_, rfl, ?_⟩
    obtain ⟨_, l, h1, h2⟩ := hX (i, j) hi (List.mem_range.mp hj)
    exact w_op2 (w_op2 (w_var rfl (w_var rfl ⟨_, h1, w_var rfl ⟨_, h2, rfl, rfl⟩⟩)))
  have hO : (mkH n m ks (fun i j => some (X (i, j)))).Ok := mkH_ok hn1 hn7 hm1 hm2 fun i j x hi hj e => by
    cases e; exact (hX (i, j) hi hj).1
  have hD : (mkH n m ks (fun i j => some (X (i, j)))).dat = .tup [.tup ((List.range m).map fun j => .str (sgn j)), .tup ((List.range n).map fun i => rowK m ks i fun j => some (X (i, j)))] := by
    show D.tup [.tup ((List.range m).map fun j => .str (sgn j)), .tup ((List.range n).map (mkH n m ks (fun i j => some (X (i, j)))).row)] = _
    congr 3
  have htk : s7.take 1 = [c7] := by
    cases s7 with
    | nil => cases h7
    | cons x r => cases h7; rfl
  exact ⟨_, .inl rfl, _, _, clean_ok (by show (s7.take 1).all Cell.ok = true; rw [htk]; simp [bag_ok hc7]) (by rw [← hD]; exact Hs.ok _), _, c7, hO, hD.symm, htk, hc7⟩
end Sw.Lib

/-! Lib3: more mirrors of defs, and what they come to. -/
set_option linter.all false
set_option maxRecDepth 100000
set_option maxHeartbeats 4000000
namespace Sw.Lib
open PySem (Str)
def g_WORDS : D := (.tup [(.str "yes"), (.str "no")])
def g_OPEN : D := (.str "open")
noncomputable def b_kind_at : Sx := (sRet (op2 vIx (op2 vIx (op2 vIx (eVar 0) (eC (.int 1))) (eVar 1)) (eC (.int 1))))
noncomputable def F_kind_at : Fn := fn 2 2 b_kind_at
noncomputable def b_other_kind : Sx := (sRet (op2 vIx (eC g_WORDS) (op2 vSub (eC (.int 1)) (eMeth2 mIndexL mIndexT (eC g_WORDS) (aCons (eVar 0) aNil)))))
noncomputable def F_other_kind : Fn := fn 1 1 b_other_kind
noncomputable def b__law_why (act : Ex) : Sx := (sTryL 2 ["Refused"] "Refused" (sSeq (sDo act)
  (sRet (eC .non))) (fun x => (sRet (eFld x "why"))))
noncomputable def b__law_end_f1 : Sx := (sSet 2 (eIf (tV (op1 vNotN (eVar 2))) (eCall F__law_next (aCons (eVar 0) (aCons (eVar 2) (aCons (eVar 3) aNil)))) (eC .non)))
noncomputable def b__law_end : Sx := (sSeq (sSet 2 (eC (.int 0)))
  (sSeq (sFor (iSeq (eVar 1)) (gName 3) [3] b__law_end_f1)
  (sRet (eVar 2))))
noncomputable def F__law_end : Fn := fn 2 4 b__law_end
noncomputable def b_end_behind_f1 : Sx := (sSet 1 (eIf (tV (op1 vNotN (eVar 1))) (eCall F_next_by (aCons (eVar 0) (aCons (eVar 1) (aCons (eVar 3) aNil)))) (eC .non)))
noncomputable def b_end_behind : Sx := (sSeq (sFor (iSeq (eVar 2)) (gName 3) [3] b_end_behind_f1)
  (sRet (eVar 1)))
noncomputable def F_end_behind : Fn := fn 3 4 b_end_behind
noncomputable def b_is_row : Sx := (sSeq (sIf (tOr (tNot (tV (op1 (vIsi ["tuple"]) (eVar 1)))) (tNot (tV (opA gAll (aCons (eLc (iSeq (eVar 1)) (gName 3) [2, 3] tYes (op1 (vIsi ["str"]) (eVar 3))) aNil)))))
  (sRet (eC (.bl false)))
  sSkip)
  (sRet (eAnd (opA gAll (aCons (eLc (iSeq (eVar 1)) (gName 3) [2, 3] tYes (op2 vIn (eVar 3) (eCall F_signs_of (aCons (eVar 0) aNil)))) aNil)) (op1 vNotN (eCall F_end_behind (aCons (eVar 0) (aCons (eC (.int 0)) (aCons (eVar 1) aNil))))))))
noncomputable def F_is_row : Fn := fn 2 4 b_is_row
noncomputable def b__law_house_that_turns : Sx := (sSeq (sSet 1 (eCall F__law_take (aCons (eVar 0) (aCons (eC (.int 4)) aNil))))
  (sRet (eIf (tV (op2 vEq (eVar 1) (eC (.int 0)))) (eCall F__law_round_house (aCons (eVar 0) aNil)) (eIf (tV (op2 vEq (eVar 1) (eC (.int 1)))) (eCall F__law_product_house (aCons (eVar 0) aNil)) (eCall F__law_turning_house (aCons (eVar 0) (aCons (eC (.int 5)) aNil)))))))
noncomputable def F__law_house_that_turns : Fn := fn 1 2 b__law_house_that_turns
noncomputable def b_end_of : Sx := (sSeq (sIf (tNot (tV (eCall F_is_row (aCons (eVar 0) (aCons (eVar 1) aNil)))))
  (sRaiseX "Refused" ["why"] (aCons (eC (.str "row")) aNil))
  sSkip)
  (sRet (eCall F_end_behind (aCons (eVar 0) (aCons (eC (.int 0)) (aCons (eVar 1) aNil))))))
noncomputable def F_end_of : Fn := fn 2 2 b_end_of
noncomputable def b_kind_of_row : Sx := (sRet (eCall F_kind_at (aCons (eVar 0) (aCons (eCall F_end_of (aCons (eVar 0) (aCons (eVar 1) aNil))) aNil))))
noncomputable def F_kind_of_row : Fn := fn 2 2 b_kind_of_row
noncomputable def b_is_asked : Sx := (sRet (op2 vNe (eCall F_kind_of_row (aCons (eVar 0) (aCons (eVar 1) aNil))) (eC g_OPEN)))
noncomputable def F_is_asked : Fn := fn 2 2 b_is_asked
/-! ### lambdas -/
theorem w_lam {n : Nat} {b : Ex → Sx} {c : Ex} {e : Env} {st : Store} {Q : D → Store → Prop} (h : WS (b fun _ st' => c e st') (List.replicate n none) st fun r s => (∃ d, r = .rt d ∧ Q d s) ∨ (∃ e1, r = .nx e1 ∧ Q .non s)) : WE (eLam n b c) e st Q := by
  obtain ⟨r, s, h1, h2⟩ := h
  rcases h2 with ⟨d, rfl, q⟩ | ⟨e1, rfl, q⟩
  · exact ⟨d, s, by unfold eLam; rw [h1], q⟩
  · exact ⟨.non, s, by unfold eLam; rw [h1], q⟩
theorem w_tryL_ok {n : Nat} {ks : List Str} {c : Str} {b : Sx} {s : Exc → Sx} {e : Env} {st : Store} {Q : SR → Store → Prop} (h : WS b e st fun r s1 => (∀ x e1, r ≠ .ex x e1) ∧ Q r s1) : WS (sTryL n ks c b s) e st Q := by
  obtain ⟨r, s1, h1, h2, q⟩ := h
  refine ⟨r, s1, ?_, q⟩
  unfold sTryL
  rw [h1]
  cases r with
  | ex x e1 => exact absurd rfl (h2 x e1)
  | _ => rfl
theorem w_tryL_ex {n : Nat} {ks : List Str} {c : Str} {b : Sx} {s : Exc → Sx} {e : Env} {st : Store} {Q : SR → Store → Prop} (h : WS b e st fun r s1 => ∃ x e1, r = .ex x e1 ∧ ks.contains x.cls = true ∧ x.cls = c ∧ x.fs.isEmpty = false ∧ WS (s x) (List.replicate n none) s1 fun r2 s2 => ∃ d, r2 = .rt d ∧ Q (.rt d) s2) : WS (sTryL n ks c b s) e st Q := by
  obtain ⟨r, s1, h1, x, e1, rfl, h2, h3, h4, r2, s2, h5, d, rfl, q⟩ := h
  refine ⟨_, s2, ?_, q⟩
  unfold sTryL
  rw [h1]
  dsimp only
  rw [if_pos ⟨h2, h3, fun z => by rw [z] at h4; cases h4⟩, h5]
/-- what raises -/
theorem x_ret {a : Ex} {e : Env} {st st' : Store} {x : Exc} (h : a e st = some (.error x, st')) : sRet a e st = some (.ex x e, st') := by unfold sRet; rw [h]
theorem x_do {a : Ex} {e : Env} {st st' : Store} {x : Exc} (h : a e st = some (.error x, st')) : sDo a e st = some (.ex x e, st') := by unfold sDo; rw [h]
theorem x_asg {a : Ex} {g : Tg} {e : Env} {st st' : Store} {x : Exc} (h : a e st = some (.error x, st')) : sAsg a g e st = some (.ex x e, st') := by unfold sAsg; rw [h]
theorem x_bind {α β : Type} {a : Act α} {f : α → Act β} {e : Env} {st st' : Store} {x : Exc} (h : a e st = some (.error x, st')) : (a.bind f) e st = some (.error x, st') := by unfold Act.bind; rw [h]
theorem x_bind2 {α β : Type} {a : Act α} {f : α → Act β} {e : Env} {st s1 st' : Store} {v : α} {x : Exc} (h : a e st = some (.ok v, s1)) (h2 : f v e s1 = some (.error x, st')) : (a.bind f) e st = some (.error x, st') := by unfold Act.bind; rw [h]; exact h2
theorem x_seq {a b : Sx} {e e1 : Env} {st st' : Store} {x : Exc} (h : a e st = some (.ex x e1, st')) : sSeq a b e st = some (.ex x e1, st') := by unfold sSeq; rw [h]
theorem x_call {F : Fn} {a : Ax} {ds : List D} {e : Env} {st s1 st' : Store} {x : Exc} (h : a e st = some (.ok ds, s1)) (h2 : viewCall F ds s1 = some (.error x, st')) : eCall F a e st = some (.error x, st') := x_bind2 h h2
/-! ### rows of houses -/
theorem Hs.run_lt {h : Hs} (ho : h.Ok) : ∀ {r : List Nat} {s k : Nat}, s < h.n → (∀ j ∈ r, j < h.m) → h.run s r = some k → k < h.n
  | [], s, k, hs, _, e => by cases e; exact hs
  | j :: r, s, k, hs, hm, e => by
    have e : (h.nx s j).bind (fun k => h.run k r) = some k := e
    cases hx : h.nx s j with
    | none => rw [hx] at e; cases e
    | some y =>
      rw [hx] at e
      exact Hs.run_lt ho (ho.nxt s j y hs (hm j (by simp)) hx) (fun i hi => hm i (List.mem_cons_of_mem _ hi)) e
/-- from a state, or none -/
def Hs.ro (h : Hs) (o : Option Nat) (r : List Nat) : Option Nat := o.bind fun k => h.run k r
theorem Hs.ro_snoc (h : Hs) (o : Option Nat) (r : List Nat) (j : Nat) : h.ro o (r ++ [j]) = (h.ro o r).bind fun k => h.nx k j := by
  unfold Hs.ro
  cases o with
  | none => rfl
  | some k => exact h.run_snoc j r k
theorem Hs.ro_lt {h : Hs} (ho : h.Ok) {o : Option Nat} {r : List Nat} {k : Nat} (h0 : ∀ s, o = some s → s < h.n) (hm : ∀ j ∈ r, j < h.m) (e : h.ro o r = some k) : k < h.n := by
  unfold Hs.ro at e
  cases o with
  | none => cases e
  | some s => exact Hs.run_lt ho (h0 s rfl) hm e
theorem args3 {h : Hs} {d d' : D} (h1 : d.ok = true) (h2 : d'.ok = true) : ∀ x ∈ [h.dat, d, d'], D.ok x = true := by
  intro x hx
  simp only [List.mem_cons, List.not_mem_nil, or_false] at hx
  rcases hx with rfl | rfl | rfl
  · exact h.ok
  · exact h1
  · exact h2
theorem args2' {h : Hs} {d : D} (h1 : d.ok = true) : ∀ x ∈ [h.dat, d], D.ok x = true := by
  intro x hx
  simp only [List.mem_cons, List.not_mem_nil, or_false] at hx
  rcases hx with rfl | rfl
  · exact h.ok
  · exact h1
theorem rowOk (r : List Nat) : (rowD r).ok = true := okd_le (rowD_ok r) (by decide)
theorem endb_spec {h : Hs} (ho : h.Ok) {o : Option Nat} {r : List Nat} (h0 : ∀ s, o = some s → s < h.n) (hm : ∀ j ∈ r, j < h.m) : F_end_behind [h.dat, h.at_ o, rowD r] [] = some (.ok (h.at_ (h.ro o r)), []) := by
  refine fn_pure rfl (h.at_ok _) ?_
  show WS b_end_behind [some h.dat, some (h.at_ o), some (rowD r), none] [] _
  unfold b_end_behind
  refine w_then (w_for (w_seqi (w_var rfl ⟨_, rfl, ?_⟩)))
  refine w_forX (fun j => D.str (sgn j)) r (fun pre e st => e = [some h.dat, some (h.at_ (h.ro o pre)), some (rowD r), none] ∧ st = []) ⟨by cases o <;> rfl, rfl⟩ ?_ ?_
  · rintro pre j post e st hsp ⟨rfl, rfl⟩
    have hpre : ∀ i ∈ pre, i < h.m := fun i hi => hm i (by rw [hsp]; simp [hi])
    have hj : j < h.m := hm j (by rw [hsp]; simp)
    refine ⟨_, _, rfl, ?_⟩
    unfold b_end_behind_f1
    rw [h.ro_snoc]
    cases hx : h.ro o pre with
    | none => exact w_set (w_eif (w_tv (w_op1 (w_var rfl ⟨.bl false, rfl, false, rfl, w_c ⟨rfl, rfl⟩⟩))))
    | some k =>
      have hk := Hs.ro_lt ho h0 hpre hx
      refine w_set (w_eif (w_tv (w_op1 (w_var rfl ⟨.bl true, rfl, true, rfl, ?_⟩))))
      rw [if_pos rfl]
      exact w_call (w_cons (w_var rfl (w_cons (w_var rfl (w_cons (w_var rfl (w_nil ⟨_, _, call_0 (args3 rfl rfl) (next_by_spec ho hk hj) (h.at_ok _), rfl, rfl⟩)))))))
  · rintro e st ⟨rfl, rfl⟩
    exact w_ret (w_var rfl rfl)
theorem law_end_spec {h : Hs} (ho : h.Ok) {r : List Nat} (hm : ∀ j ∈ r, j < h.m) : F__law_end [h.dat, rowD r] [] = some (.ok (h.at_ (h.run 0 r)), []) := by
  refine fn_pure rfl (h.at_ok _) ?_
  show WS b__law_end [some h.dat, some (rowD r), none, none] [] _
  unfold b__law_end
  refine w_then (w_set (w_c ?_))
  refine w_then (w_for (w_seqi (w_var rfl ⟨_, rfl, ?_⟩)))
  refine w_forX (fun j => D.str (sgn j)) r (fun pre e st => e = [some h.dat, some (rowD r), some (h.at_ (h.ro (some 0) pre)), none] ∧ st = []) ⟨rfl, rfl⟩ ?_ ?_
  · rintro pre j post e st hsp ⟨rfl, rfl⟩
    have hpre : ∀ i ∈ pre, i < h.m := fun i hi => hm i (by rw [hsp]; simp [hi])
    have hj : j < h.m := hm j (by rw [hsp]; simp)
    refine ⟨_, _, rfl, ?_⟩
    unfold b__law_end_f1
    rw [h.ro_snoc]
    cases hx : h.ro (some 0) pre with
    | none => exact w_set (w_eif (w_tv (w_op1 (w_var rfl ⟨.bl false, rfl, false, rfl, w_c ⟨rfl, rfl⟩⟩))))
    | some k =>
      have hk := Hs.ro_lt ho (fun s e => by cases e; exact ho.n0) hpre hx
      refine w_set (w_eif (w_tv (w_op1 (w_var rfl ⟨.bl true, rfl, true, rfl, ?_⟩))))
      rw [if_pos rfl]
      exact w_call (w_cons (w_var rfl (w_cons (w_var rfl (w_cons (w_var rfl (w_nil ⟨_, _, call_0 (args3 rfl rfl) (law_next_spec ho hk hj) (h.at_ok _), rfl, rfl⟩)))))))
  · rintro e st ⟨rfl, rfl⟩
    exact w_ret (w_var rfl rfl)
/-- is it a text -/
def isS : D → Bool | .str _ => true | _ => false
def isT : D → Bool | .tup _ => true | _ => false
theorem isi_str {st : Store} {d : D} (h : d.ok = true) : vIsi ["str"] st d = some (.bl (isS d)) := by cases d <;> first | rfl | cases h
theorem isi_tup {st : Store} {d : D} (h : d.ok = true) : vIsi ["tuple"] st d = some (.bl (isT d)) := by cases d <;> first | rfl | cases h
/-- among the signs -/
def Hs.has (h : Hs) (x : D) : Bool := h.sg.any fun y => y.eqv x
theorem sg_all (h : Hs) : h.sg.all D.ok = true := okd_range (k := 60) fun _ _ => rfl
theorem has_in {st : Store} {h : Hs} {x : D} (hx : x.ok = true) : vIn st x (.tup h.sg) = some (.bl (h.has x)) := by
  show (mem? x h.sg).map D.bl = _
  unfold mem?
  have e : (x.ok && h.sg.all D.ok) = true := by rw [hx, sg_all]; rfl
  rw [if_pos e]; rfl
theorem has_nin {st : Store} {h : Hs} {x : D} (hx : x.ok = true) : vNin st x (.tup h.sg) = some (.bl (!h.has x)) := by
  unfold vNin; rw [has_in hx]
theorem has_sgn {h : Hs} {j : Nat} (hj : j < h.m) : h.has (.str (sgn j)) = true := by
  unfold Hs.has
  rw [List.any_eq_true]
  exact ⟨.str (sgn j), List.mem_map.mpr ⟨j, List.mem_range.mpr hj, rfl⟩, by simp [D.eqv, eqn]⟩
theorem has_mem {h : Hs} {x : D} (hs : isS x = true) (hh : h.has x = true) : x ∈ h.sg := by
  obtain ⟨y, hy, e⟩ := List.any_eq_true.mp hh
  obtain ⟨j, hj, rfl⟩ := List.mem_map.mp hy
  cases x with
  | str s =>
    have : sgn j = s := by simpa [D.eqv, eqn] using e
    subst this
    exact hy
  | _ => cases hs
/-- any value as a row: the state in which it ends, if it is one -/
inductive Th (h : Hs) : D → Option Nat → Prop
  | no {d : D} (ok : d.ok = true) (t : isT d = false) : Th h d none
  | bad {xs : List D} (ok : (D.tup xs).ok = true) (x : D) (hx : x ∈ xs) (nx : x ∉ h.sg) : Th h (.tup xs) none
  | row {r : List Nat} (hm : ∀ j ∈ r, j < h.m) : Th h (rowD r) (h.run 0 r)
theorem Th.ok {h : Hs} {d : D} {o : Option Nat} (t : Th h d o) : d.ok = true := by
  cases t with
  | no ok _ => exact ok
  | bad ok _ _ _ => exact ok
  | row _ => exact rowOk _
theorem Th.lt {h : Hs} (ho : h.Ok) {d : D} {k : Nat} (t : Th h d (some k)) : k < h.n := by
  generalize e : some k = o at t
  cases t with
  | no _ _ => cases e
  | bad _ _ _ _ => cases e
  | row hm => exact Hs.run_lt ho ho.n0 hm e.symm
theorem tup_mem {xs : List D} (h : (D.tup xs).ok = true) {x : D} (hx : x ∈ xs) : x.ok = true := okd_up (List.all_eq_true.mp h x hx)
theorem notN_at {st : Store} (h : Hs) (o : Option Nat) : vNotN st (h.at_ o) = some (.bl o.isSome) := by cases o <;> rfl
theorem is_row_th {h : Hs} (ho : h.Ok) {d : D} {o : Option Nat} (t : Th h d o) : F_is_row [h.dat, d] [] = some (.ok (.bl o.isSome), []) := by
  refine fn_pure rfl rfl ?_
  show WS b_is_row [some h.dat, some d, none, none] [] _
  unfold b_is_row
  refine w_then (w_sif (w_or (w_not (w_tv (w_op1 (w_var rfl ⟨_, isi_tup t.ok, _, rfl, ?_⟩))))))
  have c1 : ∀ xs : List D, (D.tup xs).ok = true → compL (gName 3) tYes (op1 (vIsi ["str"]) (eVar 3)) xs (wipe [some h.dat, some (.tup xs), none, none] [2, 3]) [] = some ((xs.map isS).map D.bl, []) := fun xs hx => by
    rw [List.map_map]
    exact compL_mapD (fun x => .bl (isS x)) fun x hxm => ⟨_, rfl, w_op1 (w_var rfl ⟨_, isi_str (tup_mem hx hxm), rfl, rfl⟩)⟩
  have c2 : ∀ xs : List D, (D.tup xs).ok = true → compL (gName 3) tYes (op2 vIn (eVar 3) (eCall F_signs_of (aCons (eVar 0) aNil))) xs (wipe [some h.dat, some (.tup xs), none, none] [2, 3]) [] = some ((xs.map h.has).map D.bl, []) := fun xs hx => by
    rw [List.map_map]
    exact compL_mapD (fun x => .bl (h.has x)) fun x hxm => ⟨_, rfl, w_op2 (w_var rfl (w_call (w_cons (w_var rfl (w_nil ⟨_, _, call_0 (by simpa using h.ok) signs_of_spec (sg_ok h), _, has_in (tup_mem hx hxm), rfl, rfl⟩)))))⟩
  cases t with
  | no ok ht =>
    rw [ht]
    exact ⟨fun z => (by cases z), fun _ => ⟨fun _ => w_ret (w_c rfl), fun z => (by cases z)⟩⟩
  | @bad xs ok x hx nx =>
    refine ⟨fun _ => ?_, fun z => (by cases z)⟩
    refine w_not (w_tv (w_opA (w_cons (w_lc (w_seqi (w_var rfl ⟨_, rfl, _, _, c1 xs ok, w_nil ⟨_, gAll_map _, _, rfl, fun z => ?_, fun z => w_skip ?_⟩⟩))))))
    · exact w_ret (w_c rfl)
    · have z : ((xs.map isS).all id) = true := by simpa using z
      have hb : ((xs.map h.has).all id) = false := by
        rw [← Bool.not_eq_true]
        intro hh
        have h1 : isS x = true := List.all_eq_true.mp z _ (List.mem_map.mpr ⟨x, hx, rfl⟩)
        have h2 : h.has x = true := List.all_eq_true.mp hh _ (List.mem_map.mpr ⟨x, hx, rfl⟩)
        exact nx (has_mem h1 h2)
      refine w_ret (w_eand (w_opA (w_cons (w_lc (w_seqi (w_var rfl ⟨_, rfl, _, _, c2 xs ok, w_nil ⟨_, gAll_map _, _, rfl, fun z2 => ?_, fun z2 => ?_⟩⟩))))))
      · rw [hb] at z2; cases z2
      · rw [hb]; rfl
  | @row r hm =>
    refine ⟨fun _ => ?_, fun z => (by cases z)⟩
    have t1 : (((r.map fun j => D.str (sgn j)).map isS).all id) = true := by
      rw [List.map_map, List.all_map, List.all_eq_true]; intro _ _; rfl
    have t2 : (((r.map fun j => D.str (sgn j)).map h.has).all id) = true := by
      rw [List.map_map, List.all_map, List.all_eq_true]; intro j hj; exact has_sgn (hm j hj)
    refine w_not (w_tv (w_opA (w_cons (w_lc (w_seqi (w_var rfl ⟨_, rfl, _, _, c1 _ (rowOk r), w_nil ⟨_, gAll_map _, _, rfl, fun z => ?_, fun z => w_skip ?_⟩⟩))))))
    · rw [t1] at z; cases z
    refine w_ret (w_eand (w_opA (w_cons (w_lc (w_seqi (w_var rfl ⟨_, rfl, _, _, c2 _ (rowOk r), w_nil ⟨_, gAll_map _, _, rfl, fun z2 => ?_, fun z2 => ?_⟩⟩))))))
    · exact w_op1 (w_call (w_cons (w_var rfl (w_cons (w_c (w_cons (w_var rfl (w_nil ⟨_, _, call_0 (args3 rfl (rowOk r)) (endb_spec (o := some 0) ho (fun s e => by cases e; exact ho.n0) hm) (h.at_ok _), _, notN_at h _, rfl⟩))))))))
    · rw [t2] at z2; cases z2
def refX (w : Str) : Exc := ⟨"Refused", [("why", .str w)]⟩
theorem end_of_th {h : Hs} (ho : h.Ok) {d : D} {o : Option Nat} (t : Th h d o) : F_end_of [h.dat, d] [] = some (match o with | some k => .ok (.int (k : Nat)) | none => .error (refX "row"), []) := by
  have hi := call_0 (st := []) (args2' t.ok) (is_row_th ho t) rfl
  cases o with
  | none =>
    refine fn_ofX rfl rfl ?_
    show WS b_end_of [some h.dat, some d] [] _
    unfold b_end_of
    refine w_then (w_sif (w_not (w_tv (w_call (w_cons (w_var rfl (w_cons (w_var rfl (w_nil ⟨_, _, hi, false, rfl, fun _ => ?_, fun z => (by cases z)⟩)))))))))
    exact w_raise (w_cons (w_c (w_nil ⟨rfl, _, rfl⟩)))
  | some k =>
    refine fn_pure rfl rfl ?_
    show WS b_end_of [some h.dat, some d] [] _
    unfold b_end_of
    refine w_then (w_sif (w_not (w_tv (w_call (w_cons (w_var rfl (w_cons (w_var rfl (w_nil ⟨_, _, hi, true, rfl, fun z => (by cases z), fun _ => w_skip ?_⟩)))))))))
    generalize e : some k = o at t
    cases t with
    | no _ _ => cases e
    | bad _ _ _ _ => cases e
    | row hm => exact w_ret (w_call (w_cons (w_var rfl (w_cons (w_c (w_cons (w_var rfl (w_nil ⟨_, _, call_0 (args3 rfl (rowOk _)) (endb_spec (o := some 0) ho (fun s e => by cases e; exact ho.n0) hm) (h.at_ok _), by show SR.rt (h.at_ (h.run 0 _)) = _; rw [← e]; rfl⟩))))))))
theorem dat_rows {st : Store} (h : Hs) : vIx st h.dat (.int 1) = some (.tup ((List.range h.n).map h.row)) := rfl
theorem dat_signs {st : Store} (h : Hs) : vIx st h.dat (.int 0) = some (.tup h.sg) := rfl
theorem rows_at {st : Store} {h : Hs} {k : Nat} (hk : k < h.n) : vIx st (.tup ((List.range h.n).map h.row)) (.int (k : Nat)) = some (h.row k) := (seq_at (range_at hk)).1
theorem row_kind {st : Store} {h : Hs} {k : Nat} : vIx st (h.row k) (.int 1) = some (.str (h.kd k)) := rfl
theorem kind_at_spec {h : Hs} {k : Nat} (hk : k < h.n) : F_kind_at [h.dat, .int (k : Nat)] [] = some (.ok (.str (h.kd k)), []) := by
  refine fn_pure rfl rfl ?_
  show WS b_kind_at [some h.dat, some (.int (k : Nat))] [] _
  exact w_ret (w_op2 (w_op2 (w_op2 (w_var rfl (w_c ⟨_, dat_rows h, w_var rfl ⟨_, rows_at hk, w_c ⟨_, row_kind, rfl⟩⟩⟩)))))
theorem kind_row_th {h : Hs} (ho : h.Ok) {d : D} {o : Option Nat} (t : Th h d o) : F_kind_of_row [h.dat, d] [] = some (match o with | some k => .ok (.str (h.kd k)) | none => .error (refX "row"), []) := by
  have hi := end_of_th ho t
  cases o with
  | none =>
    refine fn_ofX rfl rfl ⟨_, [], x_ret (x_bind ?_), _, rfl⟩
    refine x_bind2 (v := h.dat) (s1 := []) rfl (x_bind (x_bind ?_))
    exact x_call (ds := [h.dat, d]) rfl (call_0x (args2' t.ok) hi rfl)
  | some k =>
    refine fn_pure rfl rfl ?_
    show WS b_kind_of_row [some h.dat, some d] [] _
    exact w_ret (w_call (w_cons (w_var rfl (w_cons (w_call (w_cons (w_var rfl (w_cons (w_var rfl (w_nil ⟨_, _, call_0 (args2' t.ok) hi rfl, w_nil ⟨_, _, call_0 (args2' rfl) (kind_at_spec (t.lt ho)) rfl, rfl⟩⟩))))))))))
theorem is_asked_th {h : Hs} (ho : h.Ok) {d : D} {o : Option Nat} (t : Th h d o) : F_is_asked [h.dat, d] [] = some (match o with | some k => .ok (.bl !(D.str (h.kd k)).eqv (.str "open")) | none => .error (refX "row"), []) := by
  have hi := kind_row_th ho t
  cases o with
  | none =>
    refine fn_ofX rfl rfl ⟨_, [], x_ret (x_bind ?_), _, rfl⟩
    exact x_call (ds := [h.dat, d]) rfl (call_0x (args2' t.ok) hi rfl)
  | some k =>
    refine fn_pure rfl rfl ?_
    show WS b_is_asked [some h.dat, some d] [] _
    exact w_ret (w_op2 (w_call (w_cons (w_var rfl (w_cons (w_var rfl (w_nil ⟨_, _, call_0 (args2' t.ok) hi rfl, w_c ⟨_, rfl, rfl⟩⟩)))))))
theorem house_call {F : Fn} {ds : List D} {c : Cell} {st : Store} {n : Nat} (hn : st[n]? = some c) (hc : BagC c) (hd : ∀ d ∈ ds, D.ok d = true) (hF : ∃ (h : Hs) (c' : Cell), h.Ok ∧ F (.loc 0 :: ds) [c] = some (.ok h.dat, [c']) ∧ BagC c') {Q : D → Store → Prop} (k : ∀ (h : Hs) c', h.Ok → BagC c' → Q h.dat (st.set n c')) :
    ∃ r s2, viewCall F (.loc n :: ds) st = some (.ok r, s2) ∧ Q r s2 := by
  obtain ⟨h, c', ho, e, hc'⟩ := hF
  exact ⟨_, _, call_1 hn hd (bag_ok hc) e (bag_ok hc') h.ok, k h c' ho hc'⟩
theorem turns_spec {c : Cell} (hc : BagC c) : ∃ (h : Hs) (c' : Cell), h.Ok ∧ F__law_house_that_turns [.loc 0] [c] = some (.ok h.dat, [c']) ∧ BagC c' := by
  suffices hh : ∃ d s, F__law_house_that_turns [.loc 0] [c] = some (.ok d, s) ∧ ∃ (h : Hs) (c' : Cell), h.Ok ∧ d = h.dat ∧ s = [c'] ∧ BagC c' by
    obtain ⟨d, s, e, h, c', h1, rfl, rfl, h2⟩ := hh
    exact ⟨h, c', h1, e, h2⟩
  refine fn_of rfl ?_
  show WS b__law_house_that_turns [some (.loc 0), none] [c] _
  unfold b__law_house_that_turns
  refine w_then (w_set (w_call (w_cons (w_var rfl (w_cons (w_c (w_nil ?_)))))))
  refine take_call hc rfl (by decide) (by decide) fun v c1 hc1 hv0 hv1 => ?_
  obtain ⟨v, rfl⟩ := Int.eq_ofNat_of_zero_le hv0
  have fin : ∀ (h : Hs) (c' : Cell), h.Ok → BagC c' → ∃ d, (SR.rt h.dat = .rt d ∨ (∃ e, SR.rt h.dat = .nx e ∧ d = .non)) ∧ ∃ d' s', clean 1 (.ok d) [c'] = some (.ok d', s') ∧ ∃ (h : Hs) (c' : Cell), h.Ok ∧ d' = h.dat ∧ s' = [c'] ∧ BagC c' := fun h c' ho hc' =>
    ⟨_, .inl rfl, _, _, clean_ok (by simp [bag_ok hc']) h.ok, h, c', ho, rfl, rfl, hc'⟩
  refine w_ret (w_eif (w_tv (w_op2 (w_var rfl (w_c ⟨.bl (decide (v = 0)), ?_, _, rfl, ?_⟩)))))
  · show some (D.bl ((v : Int) == 0)) = _
    by_cases h : v = 0
    · subst h; rfl
    · rw [decide_eq_false h, beq_eq_false_iff_ne.mpr (by omega)]
  by_cases h0 : v = 0
  · rw [decide_eq_true h0, if_pos rfl]
    exact w_call (w_cons (w_var rfl (w_nil (house_call rfl hc1 (by simp) (round_house_spec hc1) fin))))
  rw [decide_eq_false h0, if_neg (by decide)]
  refine w_eif (w_tv (w_op2 (w_var rfl (w_c ⟨.bl (decide (v = 1)), ?_, _, rfl, ?_⟩))))
  · show some (D.bl ((v : Int) == 1)) = _
    by_cases h : v = 1
    · subst h; rfl
    · rw [decide_eq_false h, beq_eq_false_iff_ne.mpr (by omega)]
  by_cases h1 : v = 1
  · rw [decide_eq_true h1, if_pos rfl]
    exact w_call (w_cons (w_var rfl (w_nil (house_call rfl hc1 (by simp) (product_house_spec hc1) fin))))
  rw [decide_eq_false h1, if_neg (by decide)]
  exact w_call (w_cons (w_var rfl (w_cons (w_c (w_nil (house_call (ds := [.int 5]) rfl hc1 (by simp [D.ok, okd]) (turning_house_spec (most := 5) hc1 (by decide) (by decide)) fin))))))
theorem w_try_ex {ks : List Str} {cn : Str} {i : Nat} {b : Sx} {s : Exc → Sx} {e : Env} {st : Store} {Q : SR → Store → Prop} (h : WS b e st fun r s1 => ∃ x e1, r = .ex x e1 ∧ ks.contains x.cls = true ∧ x.cls = cn ∧ x.fs.isEmpty = false ∧ WS (s x) (e1.set i none) s1 fun r2 s2 => ∃ e2, r2 = .nx e2 ∧ Q (.nx (e2.set i none)) s2) : WS (sTry1 ks cn (some i) b s) e st Q := by
  obtain ⟨r, s1, h1, x, e1, rfl, h2, h3, h4, r2, s2, h5, e2, rfl, q⟩ := h
  refine ⟨_, s2, ?_, q⟩
  unfold sTry1
  rw [h1]
  dsimp only
  rw [if_pos h2, if_pos h3, if_neg (by simp [h4])]
  rw [h5]

/-- a house, turning or not -/
theorem int_eqn {st : Store} (v n : Nat) : vEq st (.int (v : Nat)) (.int (n : Nat)) = some (.bl (decide (v = n))) := by
  show some (D.bl ((v : Int) == n)) = _
  by_cases h : v = n
  · subst h; rw [decide_eq_true rfl, beq_self_eq_true]
  · rw [decide_eq_false h, beq_eq_false_iff_ne.mpr (by omega)]
theorem w_house {i : Nat} {e : Env} {st : Store} {c : Cell} (hs : st[0]? = some c) (hc : BagC c) (he : e[i]? = some (some (.loc 0))) {Q : D → Store → Prop} (k : ∀ (h : Hs) c', h.Ok → BagC c' → Q h.dat (st.set 0 c')) :
    WE (eIf (tV (op2 vEq (eCall F__law_take (aCons (eVar i) (aCons (eC (.int 2)) aNil))) (eC (.int 0)))) (eCall F__law_any_house (aCons (eVar i) (aCons (eC (.int 5)) aNil))) (eCall F__law_house_that_turns (aCons (eVar i) aNil))) e st Q := by
  refine w_eif (w_tv (w_op2 (w_call (w_cons (w_var he (w_cons (w_c (w_nil ?_))))))))
  refine take_call hc hs (by decide) (by decide) fun v c1 hc1 hv0 hv1 => ?_
  obtain ⟨v, rfl⟩ := Int.eq_ofNat_of_zero_le hv0
  refine w_c ⟨_, int_eqn v 0, _, rfl, ?_⟩
  have hl : 0 < st.length := (List.getElem?_eq_some_iff.mp hs).1
  have hs1 : (st.set 0 c1)[0]? = some c1 := List.getElem?_set_self hl
  by_cases h0 : v = 0
  · rw [decide_eq_true h0, if_pos rfl]
    exact w_call (w_cons (w_var he (w_cons (w_c (w_nil (house_call (ds := [.int 5]) hs1 hc1 (by simp [D.ok, okd]) (any_house_spec (most := 5) hc1 (by decide) (by decide)) fun h c' ho hc' => by rw [List.set_set]; exact k h c' ho hc'))))))
  · rw [decide_eq_false h0, if_neg (by decide)]
    exact w_call (w_cons (w_var he (w_nil (house_call hs1 hc1 (by simp) (turns_spec hc1) fun h c' ho hc' => by rw [List.set_set]; exact k h c' ho hc'))))
theorem ones_nnil {α : Type} {st : Store} (ys : List α) : vNe st (.lst (ys.map fun _ => .int 1)) (.lst []) = some (.bl !ys.isEmpty) := by
  have h := ones_nil (st := st) ys
  unfold vEq at h
  unfold vNe
  split at h
  · rename_i hh
    rw [if_pos hh]
    have h := Option.some.inj h
    rw [D.bl.inj h]
  · cases h
end Sw.Lib

/-! Lib4: more mirrors of defs, and what they come to. -/
set_option linter.all false
set_option maxRecDepth 100000
set_option maxHeartbeats 4000000
namespace Sw.Lib
open PySem (Str)
def g_CHECK : D := (.int 4)
def g_HALF : D := (.int 128)
def g_GROUP : D := (.int 7)
def g_FACTOR : D := (.int 257)
def g_MODULUS : D := (.int 4294967291)
noncomputable def b_integer_octets_w1 : Sx := (sSeq (sDo (eMeth "list" mAppend (eVar 1) (aCons (op2 vAdd (eC g_HALF) (op2 vAnd (eVar 0) (op2 vSub (eC g_HALF) (eC (.int 1))))) aNil)))
  (sAug 0 vShr (eC g_GROUP)))
noncomputable def b_integer_octets_t2 : Tx := (tV (op2 vGe (eVar 0) (eC g_HALF)))
noncomputable def b_integer_octets : Sx := (sSeq (sSet 1 (eLstC aNil))
  (sSeq (sWhile b_integer_octets_t2 [] b_integer_octets_w1)
  (sRet (eTup (aStar (eVar 1) (aCons (eVar 0) aNil))))))
noncomputable def F_integer_octets : Fn := fn 1 2 b_integer_octets
noncomputable def b_bits_of : Sx := (sRet (eMeth "str" mJoin (eC (.str "")) (aCons (eLc (iRange1 (eC g_GROUP)) (gName 2) [1, 2] tYes (eIf (tV (op2 vAnd (eVar 0) (op2 vShr (op2 vDiv (eC g_HALF) (eC (.int 2))) (eVar 2)))) (eC (.str "1")) (eC (.str "0")))) aNil)))
noncomputable def F_bits_of : Fn := fn 1 3 b_bits_of
noncomputable def b_check_of_f1 : Sx := (sSet 1 (op2 vMod (op2 vAdd (op2 vAdd (op2 vMul (eVar 1) (eC g_FACTOR)) (eVar 2)) (eC (.int 1))) (eC g_MODULUS)))
noncomputable def b_check_of : Sx := (sSeq (sSet 1 (eC (.int 1)))
  (sSeq (sFor (iSeq (eVar 0)) (gName 2) [2] b_check_of_f1)
  (sRet (eVar 1))))
noncomputable def F_check_of : Fn := fn 1 3 b_check_of
noncomputable def b__law_integer_w1 : Sx := (sSeq (sDo (eMeth "list" mAppend (eVar 1) (aCons (op2 vAdd (eC (.int 128)) (op2 vMod (opA gInt (aCons (eVar 0) aNil)) (eC (.int 128)))) aNil)))
  (sSet 0 (op2 vDiv (opA gInt (aCons (eVar 0) aNil)) (eC (.int 128)))))
noncomputable def b__law_integer_t2 : Tx := (tV (op2 vGt (eVar 0) (eC (.int 127))))
noncomputable def b__law_integer : Sx := (sSeq (sSet 1 (eLstC aNil))
  (sSeq (sWhile b__law_integer_t2 [] b__law_integer_w1)
  (sRet (opA gTuple (aCons (op2 vAdd (eVar 1) (eLst (aCons (eVar 0) aNil))) aNil)))))
noncomputable def F__law_integer : Fn := fn 1 2 b__law_integer
noncomputable def b__law_check_f1 : Sx := (sSet 1 (op2 vMod (opA gInt (aCons (op2 vAdd (op2 vAdd (op2 vMul (eVar 1) (eC (.int 257))) (eVar 2)) (eC (.int 1))) aNil)) (eC (.int 4294967291))))
noncomputable def b__law_check : Sx := (sSeq (sSet 1 (eC (.int 1)))
  (sSeq (sFor (iSeq (eVar 0)) (gName 2) [2] b__law_check_f1)
  (sRet (eVar 1))))
noncomputable def F__law_check : Fn := fn 1 3 b__law_check
noncomputable def b_read_integer_w1 : Sx := (sAug 2 aAdd (eC (.int 1)))
noncomputable def b_read_integer_t2 : Tx := (tAnd (tV (op2 vLt (eVar 2) (opA gLen (aCons (eVar 0) aNil)))) (tV (op2 vGe (op2 vIx (eVar 0) (eVar 2)) (eC g_HALF))))
noncomputable def b_read_integer : Sx := (sSeq (sSet 2 (eVar 1))
  (sSeq (sWhile b_read_integer_t2 [] b_read_integer_w1)
  (sSeq (sIf (tOr (tV (op2 vEq (eVar 2) (opA gLen (aCons (eVar 0) aNil)))) (tAnd (tV (op2 vEq (op2 vIx (eVar 0) (eVar 2)) (eC (.int 0)))) (tV (op2 vGt (eVar 2) (eVar 1)))))
  (sRaiseX "BadBytes" ["index", "fault"] (aCons (eVar 1) (aCons (eC (.str "integer")) aNil)))
  sSkip)
  (sRet (eTup (aCons (opA gInt2 (aCons (eMeth "str" mJoin (eC (.str "")) (aCons (eLc (iSeq (op1 vRevA (eSlice (eVar 0) (pSome (eVar 1)) (pSome (op2 vAdd (eVar 2) (eC (.int 1))))))) (gName 4) [3, 4] tYes (eCall F_bits_of (aCons (eVar 4) aNil))) aNil)) (aCons (eC (.int 2)) aNil))) (aCons (op2 vAdd (eVar 2) (eC (.int 1))) aNil)))))))
noncomputable def F_read_integer : Fn := fn 2 5 b_read_integer
noncomputable def b_sealed : Sx := (sSeq (sSet 1 (eCall F_check_of (aCons (eVar 0) aNil)))
  (sRet (eTup (aStar (eVar 0) (aCons (op2 vShr (eVar 1) (eC (.int 24))) (aCons (op2 vAnd (op2 vShr (eVar 1) (eC (.int 16))) (eC (.int 255))) (aCons (op2 vAnd (op2 vShr (eVar 1) (eC (.int 8))) (eC (.int 255))) (aCons (op2 vAnd (eVar 1) (eC (.int 255))) aNil))))))))
noncomputable def F_sealed : Fn := fn 1 2 b_sealed
noncomputable def b__law_sealed_f1 : Sx := (sSeq (sDo (eMeth "list" mAppend (eVar 2) (aCons (op2 vMod (opA gInt (aCons (eVar 1) aNil)) (eC (.int 256))) aNil)))
  (sSet 1 (op2 vDiv (opA gInt (aCons (eVar 1) aNil)) (eC (.int 256)))))
noncomputable def b__law_sealed : Sx := (sSeq (sPar [gName 1, gName 2] (aCons (eCall F__law_check (aCons (eVar 0) aNil)) (aCons (eLstC aNil) aNil)))
  (sSeq (sFor (iRange1 (eC (.int 4))) (gName 3) [3] b__law_sealed_f1)
  (sRet (op2 vAdd (opA gTuple (aCons (eVar 0) aNil)) (opA gTuple (aCons (op1 vRevA (eVar 2)) aNil))))))
noncomputable def F__law_sealed : Fn := fn 1 4 b__law_sealed
noncomputable def b__law_read_f1 : Sx := (sSeq (sPar [gName 2, gName 4] (aCons (op2 vAdd (eVar 2) (op2 vMul (op2 vMod (opA gInt (aCons (eVar 5) aNil)) (eC (.int 128))) (eVar 3))) (aCons (op2 vAdd (eVar 4) (eC (.int 1))) aNil)))
  (sSeq (sIf (tV (op2 vLt (eVar 5) (eC (.int 128))))
  (sRet (eIf (tV (op2 vEq (eSlice (eVar 0) (pSome (eVar 1)) (pSome (eVar 4))) (eCall F__law_integer (aCons (eVar 2) aNil)))) (eTup (aCons (eVar 2) (aCons (eVar 4) aNil))) (eC .non)))
  sSkip)
  (sSet 3 (op2 vMul (eVar 3) (eC (.int 128))))))
noncomputable def b__law_read : Sx := (sSeq (sPar [gName 2, gName 3, gName 4] (aCons (eC (.int 0)) (aCons (eC (.int 1)) (aCons (eVar 1) aNil))))
  (sSeq (sFor (iSeq (eSlice (eVar 0) (pSome (eVar 1)) pNone)) (gName 5) [5] b__law_read_f1)
  (sRet (eC .non))))
noncomputable def F__law_read : Fn := fn 2 6 b__law_read
noncomputable def b_is_sealed : Sx := (sRet (eAnd (op2 vGe (opA gLen (aCons (eVar 0) aNil)) (eC g_CHECK)) (op2 vEq (eCall F_sealed (aCons (eSlice (eVar 0) pNone (pSome (op2 vSub (opA gLen (aCons (eVar 0) aNil)) (eC g_CHECK)))) aNil)) (opA gTuple (aCons (eVar 0) aNil)))))
noncomputable def F_is_sealed : Fn := fn 1 1 b_is_sealed
/-! ### octets -/
def od (l : List Nat) : D := .tup (l.map fun n => .int (n : Nat))
theorem od_okd (l : List Nat) : okd 50 (od l) = true := by
  show (l.map fun n => D.int (n : Nat)).all (okd 49) = true
  rw [List.all_map, List.all_eq_true]; intro _ _; rfl
theorem od_ok (l : List Nat) : (od l).ok = true := okd_le (od_okd l) (by decide)
theorem int_inj {l m : List Nat} (h : (l.map fun n : Nat => (n : Int)) = m.map fun n : Nat => (n : Int)) : l = m := by
  induction l generalizing m with
  | nil => cases m with | nil => rfl | cons _ _ => cases h
  | cons x l ih => cases m with
    | nil => cases h
    | cons y m =>
      rw [List.map_cons, List.map_cons] at h
      injection h with h1 h2
      rw [ih h2, show x = y by omega]
theorem eq_od {st : Store} (l m : List Nat) : vEq st (od l) (od m) = some (.bl (decide (l = m))) := by
  have h := eq_ints (st := st) (l.map fun n : Nat => (n : Int)) (m.map fun n : Nat => (n : Int))
  rw [List.map_map, List.map_map] at h
  have e : vEq st (od l) (od m) = some (.bl (decide ((l.map fun n : Nat => (n : Int)) = m.map fun n : Nat => (n : Int)))) := h
  rw [e]
  by_cases z : l = m
  · subst z; rw [decide_eq_true rfl, decide_eq_true rfl]
  · rw [decide_eq_false z, decide_eq_false fun q => z (int_inj q)]
theorem sz_od (l : List Nat) : ∀ n, sz (n + 2) (od l) = 1 + l.length := fun n => by
  show 1 + ((l.map fun n => D.int (n : Nat)).map (sz (n + 1))).sum = _
  congr 1
  induction l with
  | nil => rfl
  | cons x l ih => rw [List.map_cons, List.map_cons, List.sum_cons, ih, List.length_cons]; exact Nat.add_comm 1 _
/-- groups of seven bits, the lowest first -/
def groups (n : Nat) : List Nat := if h : n < 128 then [n] else (128 + n % 128) :: groups (n / 128)
termination_by n
decreasing_by omega
theorem groups_lt {n : Nat} (h : n < 128) : groups n = [n] := by unfold groups; rw [dif_pos h]
theorem groups_ge {n : Nat} (h : ¬ n < 128) : groups n = (128 + n % 128) :: groups (n / 128) := by rw [groups]; rw [dif_neg h]
theorem and127 (n : Nat) : n &&& 127 = n % 128 := Nat.and_two_pow_sub_one_eq_mod n 7
theorem and255 (n : Nat) : n &&& 255 = n % 256 := Nat.and_two_pow_sub_one_eq_mod n 8
theorem vAnd_nat {st : Store} (a b : Nat) : vAnd st (.int (a : Nat)) (.int (b : Nat)) = some (.int ((a &&& b : Nat) : Int)) := by
  show (if 0 ≤ (a : Int) ∧ 0 ≤ (b : Int) then some (D.int (((a : Int).toNat &&& (b : Int).toNat : Nat) : Int)) else none) = _
  rw [if_pos ⟨by omega, by omega⟩]; rfl
theorem vShr_nat {st : Store} (a b : Nat) : vShr st (.int (a : Nat)) (.int (b : Nat)) = some (.int ((a / 2 ^ b : Nat) : Int)) := by
  show (if 0 ≤ (b : Int) then some (D.int ((a : Int) / 2 ^ (b : Int).toNat)) else none) = _
  rw [if_pos (by omega), Int.toNat_natCast, Int.natCast_ediv]
  congr 3
theorem ge_nat {st : Store} (a b : Nat) : vGe st (.int (a : Nat)) (.int (b : Nat)) = some (.bl (decide (b ≤ a))) := by
  show some (D.bl (decide ((b : Int) ≤ a))) = _
  congr 2; exact decide_eq_decide.mpr (by omega)
theorem gt_nat {st : Store} (a b : Nat) : vGt st (.int (a : Nat)) (.int (b : Nat)) = some (.bl (decide (b < a))) := by
  show some (D.bl (decide ((b : Int) < a))) = _
  congr 2; exact decide_eq_decide.mpr (by omega)
theorem lt_nat {st : Store} (a b : Nat) : vLt st (.int (a : Nat)) (.int (b : Nat)) = some (.bl (decide (a < b))) := by
  show some (D.bl (decide ((a : Int) < b))) = _
  congr 2; exact decide_eq_decide.mpr (by omega)
theorem add_nat {st : Store} (a b : Nat) : vAdd st (.int (a : Nat)) (.int (b : Nat)) = some (.int ((a + b : Nat) : Int)) := by
  show some (D.int ((a : Int) + b)) = _
  rw [Int.natCast_add]
theorem sub_nat {st : Store} {a b : Nat} (h : b ≤ a) : vSub st (.int (a : Nat)) (.int (b : Nat)) = some (.int ((a - b : Nat) : Int)) := by
  show some (D.int ((a : Int) - b)) = _
  rw [Int.ofNat_sub h]
theorem mod_nat {st : Store} {a b : Nat} (h : 0 < b) : vMod st (.int (a : Nat)) (.int (b : Nat)) = some (.int ((a % b : Nat) : Int)) := by
  show (if 0 < (b : Int) then some (D.int ((a : Int) % b)) else none) = _
  rw [if_pos (by omega), Int.natCast_emod]
theorem div_nat {st : Store} {a b : Nat} (h : 0 < b) (h2 : b < 1073741824) : vDiv st (.int (a : Nat)) (.int (b : Nat)) = some (.int ((a / b : Nat) : Int)) := by
  show (if 0 < (b : Int) ∧ (b : Int) < 1073741824 then some (D.int ((a : Int) / b)) else none) = _
  rw [if_pos (by omega), Int.natCast_ediv]
theorem mul_nat {st : Store} {a b : Nat} (h : b < 18446744073709551616) : vMul st (.int (a : Nat)) (.int (b : Nat)) = some (.int ((a * b : Nat) : Int)) := by
  rw [vMul_right (small_of (by omega) (by omega)), Int.natCast_mul]
theorem len_od {st : Store} (l : List Nat) : gLen st [od l] = some (.int (l.length : Nat)) := by
  show some (D.int ((l.map fun n => D.int (n : Nat)).length : Nat)) = _
  rw [List.length_map]
theorem at_od {st : Store} {l : List Nat} {i x : Nat} (h : l[i]? = some x) : vIx st (od l) (.int (i : Nat)) = some (.int (x : Nat)) :=
  (seq_at (by rw [List.getElem?_map, h]; rfl)).1
theorem app1 {st : Store} {n : Nat} {xs : List D} {y : D} (h : st[n]? = some (.lst xs)) (hl : xs.length < PySem.sizeLine) : mAppend st (.loc n) [y] = some (.non, st.set n (.lst (xs ++ [y]))) := by
  unfold mAppend
  dsimp only
  rw [h]
  dsimp only
  rw [if_pos hl]
theorem s1000000 : 1000000 ≤ PySem.sizeLine := by decide
abbrev ns (l : List Nat) : List D := l.map fun n => .int (n : Nat)
theorem groups_len : ∀ (k n : Nat), n < 128 ^ k → 0 < k → (groups n).length ≤ k
  | 0, _, _, h => by omega
  | k + 1, n, hn, _ => by
    by_cases h : n < 128
    · rw [groups_lt h]; simp
    · rw [groups_ge h, List.length_cons]
      have h1 : n / 128 < 128 ^ k := by
        rw [Nat.div_lt_iff_lt_mul (by decide)]
        rw [Nat.pow_succ] at hn; exact hn
      have h2 : 0 < k := by
        rcases Nat.eq_zero_or_pos k with e | e
        · subst e; omega
        · exact e
      have := groups_len k (n / 128) h1 h2
      omega
theorem groups_byte : ∀ (k n : Nat), n < k → ∀ x ∈ groups n, x < 256
  | 0, _, h => by omega
  | k + 1, n, hn => by
    by_cases h : n < 128
    · rw [groups_lt h]; intro x hx
      have : x = n := by simpa using hx
      omega
    · rw [groups_ge h]
      intro x hx
      rcases List.mem_cons.mp hx with e | e
      · omega
      · exact groups_byte k (n / 128) (by omega) x e
theorem integer_octets_spec {n : Nat} (hn : n < 128 ^ 100) : F_integer_octets [.int (n : Nat)] [] = some (.ok (od (groups n)), []) := by
  refine fn_pure rfl (od_ok _) ?_
  show WS b_integer_octets [some (.int (n : Nat)), none] [] _
  unfold b_integer_octets
  have hlen := groups_len 100 n hn (by decide)
  refine w_then (w_set (w_lstC (w_nil ⟨Nat.zero_le _, ?_⟩)))
  refine w_then (w_while (fun m e st => ∃ pre, e = [some (.int (m : Nat)), some (.loc 0)] ∧ st = [.lst (ns pre)] ∧ pre ++ groups m = groups n) n ⟨[], rfl, rfl, rfl⟩ ?_)
  rintro m e st ⟨pre, rfl, rfl, hp⟩
  have hpl : pre.length ≤ 100 := by rw [← hp, List.length_append] at hlen; omega
  unfold b_integer_octets_t2
  refine w_tv (w_op2 (w_var rfl (w_c ⟨_, ge_nat m 128, _, rfl, fun hk => ?_, fun hk => ?_⟩)))
  · have hk : ¬ 128 ≤ m := of_decide_eq_false hk
    rw [groups_lt (by omega)] at hp
    refine w_ret (w_tup (w_star (w_var rfl ⟨ns pre, rfl, w_cons (w_var rfl (w_nil ⟨?_, ?_⟩))⟩)))
    · have := s1000000
      rw [List.length_append, List.length_map]
      show _ + 1 ≤ _
      omega
    · show SR.rt (.tup (ns pre ++ [.int (m : Nat)])) = .rt (od (groups n))
      rw [← hp]
      unfold od
      rw [List.map_append]; rfl
  · have hk : 128 ≤ m := of_decide_eq_true hk
    rw [groups_ge (by omega)] at hp
    unfold b_integer_octets_w1
    refine w_then (w_do (w_meth (w_var rfl ⟨rfl, w_cons (w_op2 (w_c (w_op2 (w_var rfl (w_op2 (w_c (w_c ⟨.int ((127 : Nat) : Int), rfl, _, vAnd_nat m 127, _, add_nat 128 _, w_nil ⟨_, _, app1 rfl (by rw [List.length_map]; have := s1000000; omega), ?_⟩⟩)))))))⟩)))
    refine w_aug ⟨_, rfl, w_c ⟨_, vShr_nat m 7, m / 128, by omega, pre ++ [128 + m % 128], rfl, ?_, ?_⟩⟩
    · show [Cell.lst (ns pre ++ [.int ((128 + (m &&& 127) : Nat) : Int)])] = _
      rw [and127]; simp
    · rw [List.append_assoc]; exact hp
theorem law_integer_spec {n : Nat} (hn : n < 128 ^ 100) : F__law_integer [.int (n : Nat)] [] = some (.ok (od (groups n)), []) := by
  refine fn_pure rfl (od_ok _) ?_
  show WS b__law_integer [some (.int (n : Nat)), none] [] _
  unfold b__law_integer
  have hlen := groups_len 100 n hn (by decide)
  refine w_then (w_set (w_lstC (w_nil ⟨Nat.zero_le _, ?_⟩)))
  refine w_then (w_while (fun m e st => ∃ pre, e = [some (.int (m : Nat)), some (.loc 0)] ∧ st = [.lst (ns pre)] ∧ pre ++ groups m = groups n) n ⟨[], rfl, rfl, rfl⟩ ?_)
  rintro m e st ⟨pre, rfl, rfl, hp⟩
  have hpl : pre.length ≤ 100 := by rw [← hp, List.length_append] at hlen; omega
  have h6 := s1000000
  unfold b__law_integer_t2
  refine w_tv (w_op2 (w_var rfl (w_c ⟨_, gt_nat m 127, _, rfl, fun hk => ?_, fun hk => ?_⟩)))
  · have hk : ¬ 127 < m := of_decide_eq_false hk
    rw [groups_lt (by omega)] at hp
    refine w_ret (w_opA (w_cons (w_op2 (w_var rfl (w_lst (w_cons (w_var rfl (w_nil ⟨by show 1 ≤ _; omega, .lst (ns pre ++ [.int (m : Nat)]), ?_, w_nil ⟨.tup (ns pre ++ [.int (m : Nat)]), rfl, ?_⟩⟩))))))))
    · show addL _ (.loc 0) _ = _
      unfold addL
      show (if (ns pre).length + 1 ≤ _ then _ else _) = _
      rw [if_pos (by rw [List.length_map]; omega)]
    · rw [← hp]
      unfold od
      rw [List.map_append]; rfl
  · have hk : 127 < m := of_decide_eq_true hk
    rw [groups_ge (by omega)] at hp
    unfold b__law_integer_w1
    refine w_then (w_do (w_meth (w_var rfl ⟨rfl, w_cons (w_op2 (w_c (w_op2 (w_opA (w_cons (w_var rfl (w_nil ⟨.int (m : Nat), rfl, w_c ⟨_, mod_nat (a := m) (b := 128) (by decide), _, add_nat 128 _, w_nil ⟨_, _, app1 rfl (by rw [List.length_map]; omega), ?_⟩⟩⟩)))))))⟩)))
    refine w_set (w_op2 (w_opA (w_cons (w_var rfl (w_nil ⟨.int (m : Nat), rfl, w_c ⟨_, div_nat (a := m) (b := 128) (by decide) (by decide), m / 128, by omega, pre ++ [128 + m % 128], rfl, ?_, ?_⟩⟩)))))
    · show [Cell.lst (ns pre ++ [.int ((128 + m % 128 : Nat) : Int)])] = _
      simp
    · rw [List.append_assoc]; exact hp
/-! ### checks -/
abbrev MM : Nat := 4294967291
def ckf (f o : Nat) : Nat := (f * 257 + o + 1) % MM
def ck (l : List Nat) : Nat := l.foldl ckf 1
theorem ckf_lt (f o : Nat) : ckf f o < MM := Nat.mod_lt _ (by decide)
theorem ck_lt (l : List Nat) : ck l < MM := by
  rcases List.eq_nil_or_concat l with e | ⟨l', x, e⟩
  · subst e; decide
  · subst e
    unfold ck
    rw [List.concat_eq_append, List.foldl_append]
    exact ckf_lt _ _
theorem check_of_spec (l : List Nat) : F_check_of [od l] [] = some (.ok (.int (ck l : Nat)), []) := by
  refine fn_pure rfl rfl ?_
  show WS b_check_of [some (od l), none, none] [] _
  unfold b_check_of
  refine w_then (w_set (w_c ?_))
  refine w_then (w_for (w_seqi (w_var rfl ⟨_, rfl, ?_⟩)))
  refine w_forX (fun n : Nat => D.int (n : Nat)) l (fun pre e st => e = [some (od l), some (.int (ck pre : Nat)), none] ∧ st = []) ⟨rfl, rfl⟩ ?_ ?_
  · rintro pre x post e st _ ⟨rfl, rfl⟩
    refine ⟨_, _, rfl, ?_⟩
    unfold b_check_of_f1
    refine w_set (w_op2 (w_op2 (w_op2 (w_op2 (w_var rfl (w_c ⟨_, mul_nat (a := ck pre) (b := 257) (by decide), w_var rfl ⟨_, add_nat _ x, w_c ⟨_, add_nat _ 1, w_c ⟨_, mod_nat (b := 4294967291) (by decide), ?_, rfl⟩⟩⟩⟩))))))
    show _ = [some (od l), some (.int (ck (pre ++ [x]) : Nat)), none]
    unfold ck
    rw [List.foldl_append]; rfl
  · rintro e st ⟨rfl, rfl⟩
    exact w_ret (w_var rfl rfl)
theorem law_check_spec (l : List Nat) : F__law_check [od l] [] = some (.ok (.int (ck l : Nat)), []) := by
  refine fn_pure rfl rfl ?_
  show WS b__law_check [some (od l), none, none] [] _
  unfold b__law_check
  refine w_then (w_set (w_c ?_))
  refine w_then (w_for (w_seqi (w_var rfl ⟨_, rfl, ?_⟩)))
  refine w_forX (fun n : Nat => D.int (n : Nat)) l (fun pre e st => e = [some (od l), some (.int (ck pre : Nat)), none] ∧ st = []) ⟨rfl, rfl⟩ ?_ ?_
  · rintro pre x post e st _ ⟨rfl, rfl⟩
    refine ⟨_, _, rfl, ?_⟩
    unfold b__law_check_f1
    refine w_set (w_op2 (w_opA (w_cons (w_op2 (w_op2 (w_op2 (w_var rfl (w_c ⟨_, mul_nat (a := ck pre) (b := 257) (by decide), w_var rfl ⟨_, add_nat _ x, w_c ⟨_, add_nat _ 1, w_nil ⟨_, rfl, w_c ⟨_, mod_nat (b := 4294967291) (by decide), ?_, rfl⟩⟩⟩⟩⟩))))))))
    show _ = [some (od l), some (.int (ck (pre ++ [x]) : Nat)), none]
    unfold ck
    rw [List.foldl_append]; rfl
  · rintro e st ⟨rfl, rfl⟩
    exact w_ret (w_var rfl rfl)
def four (c : Nat) : List Nat := [c / 2 ^ 24, c / 2 ^ 16 % 256, c / 2 ^ 8 % 256, c % 256]
def sld (l : List Nat) : List Nat := l ++ four (ck l)
theorem sld_len (l : List Nat) : (sld l).length = l.length + 4 := by unfold sld; rw [List.length_append]; rfl
theorem sealed_spec {l : List Nat} (hl : l.length ≤ 100000) : F_sealed [od l] [] = some (.ok (od (sld l)), []) := by
  refine fn_pure rfl (od_ok _) ?_
  show WS b_sealed [some (od l), none] [] _
  unfold b_sealed
  have h6 := s1000000
  refine w_then (w_set (w_call (w_cons (w_var rfl (w_nil ⟨_, _, call_0 (by simpa using od_ok l) (check_of_spec l) rfl, ?_⟩)))))
  refine w_ret (w_tup (w_star (w_var rfl ⟨ns l, rfl, w_cons (w_op2 (w_var rfl (w_c ⟨_, vShr_nat (ck l) 24, ?_⟩)))⟩)))
  refine w_cons (w_op2 (w_op2 (w_var rfl (w_c ⟨_, vShr_nat (ck l) 16, w_c ⟨_, vAnd_nat _ 255, ?_⟩⟩))))
  refine w_cons (w_op2 (w_op2 (w_var rfl (w_c ⟨_, vShr_nat (ck l) 8, w_c ⟨_, vAnd_nat _ 255, ?_⟩⟩))))
  refine w_cons (w_op2 (w_var rfl (w_c ⟨_, vAnd_nat _ 255, w_nil ⟨?_, ?_⟩⟩)))
  · rw [List.length_append, List.length_map]
    show _ + 4 ≤ _
    omega
  · rw [and255, and255, and255]
    unfold od sld
    rw [List.map_append]; rfl
theorem law_sealed_spec {l : List Nat} (hl : l.length ≤ 100000) : F__law_sealed [od l] [] = some (.ok (od (sld l)), []) := by
  refine fn_pure rfl (od_ok _) ?_
  show WS b__law_sealed [some (od l), none, none, none] [] _
  unfold b__law_sealed
  have h6 := s1000000
  refine w_then (w_par (w_cons (w_call (w_cons (w_var rfl (w_nil ⟨_, _, call_0 (by simpa using od_ok l) (law_check_spec l) rfl, w_cons (w_lstC (w_nil ⟨Nat.zero_le _, w_nil ⟨_, _, rfl, ?_⟩⟩))⟩))))))
  refine w_then (w_for (w_range1 (w_c ⟨((4 : Nat) : Int), rfl, ⟨by decide, by decide⟩, ?_⟩)))
  refine w_forN 4 (fun k e st => ∃ xs : List Nat, e = [some (od l), some (.int ((ck l / 256 ^ k : Nat) : Int)), some (.loc 0), none] ∧ st = [.lst (ns xs)] ∧ xs.length = k ∧ xs = (List.range k).map fun i => ck l / 256 ^ i % 256) ⟨[], by rw [Nat.pow_zero, Nat.div_one]; rfl, rfl, rfl, rfl⟩ ?_ ?_
  · rintro k e st hk ⟨xs, rfl, rfl, hxl, hxs⟩
    refine ⟨_, _, rfl, ?_⟩
    unfold b__law_sealed_f1
    refine w_then (w_do (w_meth (w_var rfl ⟨rfl, w_cons (w_op2 (w_opA (w_cons (w_var rfl (w_nil ⟨.int ((ck l / 256 ^ k : Nat) : Int), rfl, w_c ⟨_, mod_nat (b := 256) (by decide), w_nil ⟨_, _, app1 rfl (by rw [List.length_map]; omega), ?_⟩⟩⟩)))))⟩)))
    refine w_set (w_op2 (w_opA (w_cons (w_var rfl (w_nil ⟨.int ((ck l / 256 ^ k : Nat) : Int), rfl, w_c ⟨_, div_nat (b := 256) (by decide) (by decide), xs ++ [ck l / 256 ^ k % 256], ?_, ?_, by simp [hxl], ?_⟩⟩)))))
    · rw [Nat.div_div_eq_div_mul, ← Nat.pow_succ]; rfl
    · show [Cell.lst (ns xs ++ [_])] = _
      simp
    · rw [List.range_succ, List.map_append, ← hxs]; rfl
  · rintro e st ⟨xs, rfl, rfl, hxl, hxs⟩
    refine w_ret (w_op2 (w_opA (w_cons (w_var rfl (w_nil ⟨od l, rfl, w_opA (w_cons (w_op1 (w_var rfl ⟨.lst (ns xs).reverse, rfl, w_nil ⟨.tup (ns xs).reverse, rfl, .tup (ns l ++ (ns xs).reverse), ?_, ?_⟩⟩)))⟩)))))
    · show (if _ then _ else _) = _
      rw [if_pos (by rw [List.length_reverse, List.length_map, List.length_map]; omega)]
    · have hc := ck_lt l
      have e : xs.reverse = four (ck l) := by
        rw [hxs]
        show [ck l / 256 ^ 3 % 256, ck l / 256 ^ 2 % 256, ck l / 256 ^ 1 % 256, ck l / 256 ^ 0 % 256] = four (ck l)
        unfold four
        have : ck l / 256 ^ 3 % 256 = ck l / 2 ^ 24 := by
          rw [show (256 : Nat) ^ 3 = 2 ^ 24 by decide]
          exact Nat.mod_eq_of_lt (by rw [Nat.div_lt_iff_lt_mul (by decide)]; exact Nat.lt_of_lt_of_le hc (by decide))
        rw [this]
        congr 3
        rw [Nat.pow_zero, Nat.div_one]
      rw [← List.map_reverse, e]
      unfold od sld
      rw [List.map_append]
theorem cut_map' {α : Type} (f : α → D) (xs : List α) (lo hi : Option Int) : cut (xs.map f) lo hi = (cut xs lo hi).map f := by
  unfold cut
  rw [List.length_map, ← List.map_drop, ← List.map_take]
theorem cut_to {α : Type} {xs : List α} {v : Nat} : cut xs none (some ((v : Nat) : Int)) = xs.take v := by
  unfold cut cutAt
  dsimp only
  rw [if_neg (by omega), List.drop_zero, Nat.sub_zero, Int.toNat_natCast, List.take_eq_take_iff]
  omega
theorem cut_from {α : Type} {xs : List α} {v : Nat} : cut xs (some ((v : Nat) : Int)) none = xs.drop v := by
  unfold cut cutAt
  dsimp only
  rw [if_neg (by omega), Int.toNat_natCast]
  by_cases h : v ≤ xs.length
  · rw [Nat.min_eq_left h, List.take_of_length_le (by rw [List.length_drop]; exact Nat.le_refl _)]
  · rw [Nat.min_eq_right (by omega), List.drop_eq_nil_of_le (Nat.le_refl _), List.drop_eq_nil_of_le (by omega)]; simp
theorem cut_mid {α : Type} {xs : List α} {v w : Nat} (h1 : v ≤ w) (h2 : w ≤ xs.length) : cut xs (some ((v : Nat) : Int)) (some ((w : Nat) : Int)) = (xs.drop v).take (w - v) := by
  unfold cut cutAt
  dsimp only
  rw [if_neg (by omega), if_neg (by omega), Int.toNat_natCast, Int.toNat_natCast, Nat.min_eq_left (show v ≤ xs.length by omega), Nat.min_eq_left h2]
theorem cut_but {α : Type} {xs : List α} {k : Nat} (h : 0 < k) : cut xs none (some (-(k : Nat) : Int)) = xs.take (xs.length - k) := by
  unfold cut cutAt
  dsimp only
  rw [if_pos (by omega), List.drop_zero, Nat.sub_zero]
  congr 1
  omega
theorem slice_od {st : Store} (l : List Nat) (lo hi : Option Int) : vSlice st (od l) lo hi = some (od (cut l lo hi)) := by
  show some (D.tup (cut (l.map fun n => D.int (n : Nat)) lo hi)) = _
  rw [cut_map']; rfl
theorem is_sealed_spec {l : List Nat} (hl : l.length ≤ 100000) : F_is_sealed [od l] [] = some (.ok (.bl (decide (4 ≤ l.length) && decide (sld (l.take (l.length - 4)) = l))), []) := by
  refine fn_pure rfl rfl ?_
  show WS b_is_sealed [some (od l)] [] _
  unfold b_is_sealed
  refine w_ret (w_eand (w_op2 (w_opA (w_cons (w_var rfl (w_nil ⟨_, len_od l, w_c ⟨_, ge_nat l.length 4, _, rfl, fun hk => ?_, fun hk => ?_⟩⟩))))))
  · have h4 : 4 ≤ l.length := of_decide_eq_true hk
    rw [hk, Bool.true_and]
    refine w_op2 (w_call (w_cons (w_slice (w_var rfl (w_pnone (w_psome (w_op2 (w_opA (w_cons (w_var rfl (w_nil ⟨_, len_od l, w_c ⟨_, sub_nat h4, _, rfl, _, slice_od l _ _, w_nil ?_⟩⟩)))))))))))
    rw [cut_to]
    exact ⟨_, _, call_0 (by simpa using od_ok _) (sealed_spec (by rw [List.length_take]; omega)) (od_ok _), w_opA (w_cons (w_var rfl (w_nil ⟨od l, rfl, _, eq_od _ _, rfl⟩)))⟩
  · rw [hk]; rfl
/-! ### integers out of octets -/
/-- what groups tell -/
def val : List Nat → Nat
  | [] => 0
  | g :: r => g % 128 + 128 * val r
/-- the groups of the integer that begins here, if one ends -/
def cutI : List Nat → Option (List Nat)
  | [] => none
  | g :: r => if g < 128 then some [g] else (cutI r).map (g :: ·)
theorem cutI_ok : ∀ {l gs : List Nat}, cutI l = some gs → (∀ g ∈ l, g < 256) → ∃ hs x, gs = hs ++ [x] ∧ x < 128 ∧ (∀ h ∈ hs, 128 ≤ h ∧ h < 256) ∧ ∃ r, l = gs ++ r
  | [], gs, h, _ => by cases h
  | g :: r, gs, h, hb => by
    unfold cutI at h
    split at h
    · rename_i hg
      cases h
      exact ⟨[], g, rfl, hg, by simp, r, rfl⟩
    · rename_i hg
      cases hc : cutI r with
      | none => rw [hc] at h; cases h
      | some gs' =>
        rw [hc] at h
        cases h
        obtain ⟨hs, x, e, hx, hh, r', er⟩ := cutI_ok hc fun y hy => hb y (List.mem_cons_of_mem _ hy)
        refine ⟨g :: hs, x, by rw [e]; rfl, hx, fun y hy => ?_, r', by rw [er]; rfl⟩
        rcases List.mem_cons.mp hy with z | z
        · rw [z]; exact ⟨by omega, hb g (by simp)⟩
        · exact hh y z
theorem val_last {hs : List Nat} {x : Nat} (hx : 0 < x) (hx2 : x < 128) : 0 < val (hs ++ [x]) := by
  induction hs with
  | nil => show 0 < x % 128 + 128 * 0; omega
  | cons h hs ih => show 0 < h % 128 + 128 * val (hs ++ [x]); omega
/-- groups are canonical where the last one is not spare -/
theorem groups_val : ∀ {hs : List Nat} {x : Nat}, x < 128 → (∀ h ∈ hs, 128 ≤ h ∧ h < 256) → (hs ++ [x] = groups (val (hs ++ [x])) ↔ ¬ (x = 0 ∧ hs ≠ []))
  | [], x, hx, _ => by
    show [x] = groups (x % 128 + 128 * 0) ↔ _
    have : x % 128 + 128 * 0 = x := by omega
    rw [this, groups_lt hx]; simp
  | h :: hs, x, hx, hh => by
    have ih := groups_val (hs := hs) hx fun y hy => hh y (List.mem_cons_of_mem _ hy)
    have hb := hh h (by simp)
    have ev : val (h :: hs ++ [x]) = h % 128 + 128 * val (hs ++ [x]) := rfl
    rw [ev]
    by_cases h0 : val (hs ++ [x]) = 0
    · have hx0 : x = 0 := by
        rcases Nat.eq_zero_or_pos x with e | e
        · exact e
        · have := val_last (hs := hs) e hx; omega
      rw [groups_lt (by omega)]
      constructor
      · intro e
        have := congrArg List.length e
        simp at this
      · intro e; exact absurd ⟨hx0, by simp⟩ e
    · rw [groups_ge (by omega)]
      have e1 : (h % 128 + 128 * val (hs ++ [x])) / 128 = val (hs ++ [x]) := by omega
      have e2 : 128 + (h % 128 + 128 * val (hs ++ [x])) % 128 = h := by omega
      rw [e1, e2]
      constructor
      · intro e ⟨e0, _⟩
        have e' : hs ++ [x] = groups (val (hs ++ [x])) := by
          have : h :: (hs ++ [x]) = h :: groups (val (hs ++ [x])) := e
          injection this
        have := ih.mp e'
        apply this
        refine ⟨e0, fun z => ?_⟩
        subst z
        apply h0
        show x % 128 + 128 * 0 = 0
        omega
      · intro e
        have : hs ++ [x] = groups (val (hs ++ [x])) := ih.mpr fun ⟨a, b⟩ => e ⟨a, by simp⟩
        show h :: (hs ++ [x]) = _
        rw [← this]
/-- what is read at a place: the number and the place behind it -/
def readI (l : List Nat) (p : Nat) : Option (Nat × Nat) := (cutI (l.drop p)).bind fun gs => if gs = groups (val gs) then some (val gs, p + gs.length) else none
def readD : Option (Nat × Nat) → D
  | none => .non
  | some q => .tup [.int (q.1 : Nat), .int (q.2 : Nat)]
theorem readD_ok (o : Option (Nat × Nat)) : (readD o).ok = true := by cases o <;> rfl
theorem val_lt : ∀ gs : List Nat, val gs < 128 ^ gs.length
  | [] => Nat.zero_lt_one
  | g :: r => by
    have := val_lt r
    show g % 128 + 128 * val r < 128 ^ (r.length + 1)
    rw [Nat.pow_succ]
    have h := Nat.mod_lt g (show 0 < 128 by decide)
    omega
theorem val_app : ∀ (a b : List Nat), val (a ++ b) = val a + 128 ^ a.length * val b
  | [], b => by show val b = 0 + 1 * val b; omega
  | g :: a, b => by
    show g % 128 + 128 * val (a ++ b) = g % 128 + 128 * val a + 128 ^ (a.length + 1) * val b
    rw [val_app a b, Nat.pow_succ, Nat.mul_add, Nat.mul_comm (128 ^ a.length) 128, Nat.mul_assoc]
    omega
theorem cutI_none_app : ∀ {hs r : List Nat}, (∀ h ∈ hs, 128 ≤ h) → cutI (hs ++ r) = (cutI r).map (hs ++ ·)
  | [], r, _ => by show cutI r = _; cases cutI r <;> rfl
  | h :: hs, r, hh => by
    have h1 := hh h (by simp)
    show (if h < 128 then _ else (cutI (hs ++ r)).map (h :: ·)) = _
    rw [if_neg (by omega), cutI_none_app fun y hy => hh y (List.mem_cons_of_mem _ hy)]
    cases cutI r <;> rfl
theorem law_read_spec {l : List Nat} (hb : ∀ g ∈ l, g < 256) (hl : l.length ≤ 60) {p : Nat} (hp : p ≤ l.length) : F__law_read [od l, .int (p : Nat)] [] = some (.ok (readD (readI l p)), []) := by
  refine fn_pure rfl (readD_ok _) ?_
  show WS b__law_read [some (od l), some (.int (p : Nat)), none, none, none, none] [] _
  unfold b__law_read
  have hlen : (l.drop p).length + p = l.length := by rw [List.length_drop]; omega
  refine w_then (w_par (w_cons (w_c (w_cons (w_c (w_cons (w_var rfl (w_nil ⟨_, _, rfl, ?_⟩))))))))
  refine w_sseq ?_
  refine WS.mono (Q := fun r _ => (∃ e, r = .nx e ∧ readI l p = none) ∨ r = .rt (readD (readI l p))) ?_ ?_
  · refine w_for (w_seqi (w_slice (w_var rfl (w_psome (w_var rfl ⟨_, rfl, w_pnone ⟨_, slice_od l _ _, _, rfl, ?_⟩⟩)))))
    rw [cut_from]
    refine w_forX (fun n : Nat => D.int (n : Nat)) (l.drop p) (fun pre e st => e = [some (od l), some (.int (p : Nat)), some (.int (val pre : Nat)), some (.int ((128 ^ pre.length : Nat) : Int)), some (.int ((p + pre.length : Nat) : Int)), none] ∧ st = [] ∧ ∀ h ∈ pre, 128 ≤ h) ⟨rfl, rfl, by simp⟩ ?_ ?_
    · rintro pre x post e st hsp ⟨rfl, rfl, hpre⟩
      have hx : x < 256 := hb x (List.mem_of_mem_drop (i := p) (by rw [hsp]; simp))
      have hpl : pre.length < 60 := by
        have := congrArg List.length hsp
        rw [List.length_append, List.length_cons] at this; omega
      refine ⟨_, _, rfl, ?_⟩
      unfold b__law_read_f1
      have e128 : x % 128 < 18446744073709551616 := by omega
      have hm : vMul [] (.int ((x % 128 : Nat) : Int)) (.int ((128 ^ pre.length : Nat) : Int)) = some (.int ((x % 128 * 128 ^ pre.length : Nat) : Int)) := by
        rw [vMul_left (small_of (by omega) (by omega)), Int.natCast_mul]
      refine w_then (w_par (w_cons (w_op2 (w_var rfl (w_op2 (w_op2 (w_opA (w_cons (w_var rfl (w_nil ⟨.int (x : Nat), rfl, w_c ⟨_, mod_nat (b := 128) (by decide), w_var rfl ⟨_, hm, _, add_nat _ _, w_cons (w_op2 (w_var rfl (w_c ⟨_, add_nat _ 1, w_nil ⟨_, _, rfl, ?_⟩⟩)))⟩⟩⟩))))))))))
      have ev : val pre + x % 128 * 128 ^ pre.length = val (pre ++ [x]) := by
        rw [val_app]
        show _ = val pre + 128 ^ pre.length * (x % 128 + 128 * 0)
        rw [Nat.mul_zero, Nat.add_zero, Nat.mul_comm]
      rw [ev]
      refine w_then (w_sif (w_tv (w_op2 (w_var rfl (w_c ⟨_, lt_nat x 128, _, rfl, fun hk => ?_, fun hk => ?_⟩)))))
      · have hx1 : x < 128 := of_decide_eq_true hk
        have hcut : cutI (l.drop p) = some (pre ++ [x]) := by
          rw [hsp, cutI_none_app hpre]
          show (if x < 128 then some [x] else _ : Option (List Nat)).map _ = _
          rw [if_pos hx1]; rfl
        have hv := val_lt (pre ++ [x])
        rw [List.length_append] at hv
        have hv2 : val (pre ++ [x]) < 128 ^ 100 := Nat.lt_of_lt_of_le hv (Nat.pow_le_pow_right (by decide) (by show _ + 1 ≤ _; omega))
        have hmid : cut l (some ((p : Nat) : Int)) (some ((p + pre.length + 1 : Nat) : Int)) = pre ++ [x] := by
          have h1 : p + pre.length + 1 ≤ l.length := by
            have := congrArg List.length hsp
            rw [List.length_append, List.length_cons] at this; omega
          rw [cut_mid (by omega) h1, hsp]
          have : p + pre.length + 1 - p = (pre ++ [x]).length := by rw [List.length_append]; show _ = _ + 1; omega
          rw [this]
          have e2 : pre ++ x :: post = (pre ++ [x]) ++ post := by simp
          rw [e2, List.take_left]
        have hr : readI l p = if pre ++ [x] = groups (val (pre ++ [x])) then some (val (pre ++ [x]), p + pre.length + 1) else none := by
          unfold readI
          rw [hcut, Option.bind_some, List.length_append]; rfl
        refine w_ret (w_eif (w_tv (w_op2 (w_slice (w_var rfl (w_psome (w_var rfl ⟨_, rfl, w_psome (w_var rfl ⟨_, rfl, _, slice_od l _ _, ?_⟩)⟩)))))))
        rw [hmid]
        refine w_call (w_cons (w_var rfl (w_nil ⟨_, _, call_0 (by simp [D.ok, okd]) (law_integer_spec hv2) (od_ok _), _, eq_od _ _, _, rfl, ?_⟩)))
        rw [hr]
        by_cases hg : pre ++ [x] = groups (val (pre ++ [x]))
        · rw [if_pos (decide_eq_true hg), if_pos hg]
          exact w_tup (w_cons (w_var rfl (w_cons (w_var rfl (w_nil ⟨Nat.le_of_ble_eq_true rfl, .inr rfl⟩)))))
        · rw [if_neg (by rw [decide_eq_false hg]; decide), if_neg hg]
          exact w_c (.inr rfl)
      · have hx1 : ¬ x < 128 := of_decide_eq_false hk
        refine w_skip ?_
        refine w_set (w_op2 (w_var rfl (w_c ⟨_, mul_nat (b := 128) (by decide), ?_, rfl, fun h hh => ?_⟩)))
        · rw [List.length_append]
          show _ = [some (od l), some (.int (p : Nat)), some (.int (val (pre ++ [x]) : Nat)), some (.int ((128 ^ (pre.length + 1) : Nat) : Int)), some (.int ((p + (pre.length + 1) : Nat) : Int)), none]
          rw [Nat.pow_succ, ← Nat.add_assoc]; rfl
        · rcases List.mem_append.mp hh with z | z
          · exact hpre h z
          · have : h = x := by simpa using z
            omega
    · rintro e st ⟨rfl, rfl, hpre⟩
      refine .inl ⟨_, rfl, ?_⟩
      unfold readI
      have := cutI_none_app (r := []) hpre
      rw [List.append_nil] at this
      rw [this]; rfl
  · rintro r s (⟨e, rfl, h0⟩ | rfl)
    · refine ⟨fun e1 h1 => ?_, fun hn => absurd rfl (hn _)⟩
      cases h1
      rw [h0]
      exact w_ret (w_c rfl)
    · exact ⟨fun e1 h1 => (by cases h1), fun _ => rfl⟩
/-! ### bits -/
def bitc (o : Nat) (k : Nat) : Nat := if o &&& (64 / 2 ^ k) = 0 then 48 else 49
def bits7 (o : Nat) : List Nat := (List.range 7).map (bitc o)
def bitS (o : Nat) : Str := ⟨(bits7 o).toArray⟩
theorem bits_num : ∀ o : Nat, o < 256 → binNum (bits7 o) = o % 128 := by decide +kernel
theorem bits_len (o : Nat) : (bits7 o).length = 7 := rfl
theorem join0 : ∀ ys : List Str, (Str.join "" ys).cps.toList = ys.flatMap fun y => y.cps.toList
  | [] => rfl
  | [y] => by simp [Str.join]
  | y :: z :: r => by
    have ih := join0 (z :: r)
    show ((y.cps ++ (Str.ofString "").cps) ++ (Str.join "" (z :: r)).cps).toList = _
    rw [Array.toList_append, Array.toList_append, ih, List.flatMap_cons]
    have : (Str.ofString "").cps.toList = [] := rfl
    rw [this, List.append_nil]; rfl
theorem str_eq {a b : Str} (h : a.cps.toList = b.cps.toList) : a = b := by
  cases a; cases b; congr 1; exact Array.toList_inj.mp h
theorem strs_map' (ys : List Str) : strs? (ys.map D.str) = some ys := by
  induction ys with
  | nil => rfl
  | cons y ys ih => rw [List.map_cons]; unfold strs?; rw [ih]; rfl
theorem join_m {st : Store} {ys : List Str} {d : D} (hs : seq? st d = some (ys.map D.str)) (hl : (ys.map (·.length)).sum ≤ 16777216) : mJoin st (.str "") [d] = some (.str (Str.join "" ys), st) := by
  unfold mJoin
  dsimp only
  rw [hs, Option.bind_some, strs_map', Option.bind_some, if_pos]
  have : (Str.ofString "").length = 0 := rfl
  rw [this]; omega
theorem bits_of_spec (o : Nat) : F_bits_of [.int (o : Nat)] [] = some (.ok (.str (bitS o)), []) := by
  refine fn_pure rfl rfl ?_
  show WS b_bits_of [some (.int (o : Nat)), none, none] [] _
  unfold b_bits_of
  let ch : Nat → Str := fun k => if o &&& (64 / 2 ^ k) = 0 then "0" else "1"
  have hc : compL (gName 2) tYes (eIf (tV (op2 vAnd (eVar 0) (op2 vShr (op2 vDiv (eC g_HALF) (eC (.int 2))) (eVar 2)))) (eC (.str "1")) (eC (.str "0"))) (rangeL 0 ((7 : Nat) : Int)) (wipe [some (.int (o : Nat)), none, none] [1, 2]) [] = some (((List.range 7).map ch).map D.str, []) := by
    have e1 : rangeL 0 ((7 : Nat) : Int) = (List.range 7).map fun k : Nat => D.int (k : Nat) := rfl
    rw [e1, List.map_map]
    refine compL_map (fun k : Nat => D.int (k : Nat)) (fun k => .str (ch k)) fun k hk => ⟨_, rfl, ?_⟩
    refine w_eif (w_tv (w_op2 (w_var rfl (w_op2 (w_op2 (w_c (w_c ⟨.int ((64 : Nat) : Int), rfl, w_var rfl ⟨_, vShr_nat 64 k, _, vAnd_nat _ _, _, rfl, ?_⟩⟩)))))))
    show WE (if (((o &&& (64 / 2 ^ k) : Nat) : Int) != 0) = true then _ else _) _ _ _
    by_cases hz : o &&& (64 / 2 ^ k) = 0
    · rw [hz, if_neg (by decide)]
      refine w_c ⟨?_, rfl⟩
      show D.str "0" = .str (if o &&& (64 / 2 ^ k) = 0 then "0" else "1")
      rw [if_pos hz]
    · rw [if_pos (by rw [bne_iff_ne]; omega)]
      refine w_c ⟨?_, rfl⟩
      show D.str "1" = .str (if o &&& (64 / 2 ^ k) = 0 then "0" else "1")
      rw [if_neg hz]
  refine w_ret (w_meth (w_c ⟨rfl, w_cons (w_lc (w_range1 (w_c ⟨((7 : Nat) : Int), rfl, ⟨by decide, by decide⟩, _, _, hc, w_nil ⟨_, _, join_m (ys := (List.range 7).map ch) rfl ?_, ?_⟩⟩)))⟩))
  · have : ∀ k, (ch k).length = 1 := fun k => by show (if _ then _ else _ : Str).length = 1; split <;> rfl
    have e : (((List.range 7).map ch).map (·.length)) = (List.range 7).map fun _ => 1 := by rw [List.map_map]; exact List.map_congr_left fun k _ => this k
    rw [e]; decide
  · have : Str.join "" ((List.range 7).map ch) = bitS o := by
      apply str_eq
      rw [join0]
      show _ = bits7 o
      unfold bits7
      rw [List.flatMap_map]
      have : ∀ k, (ch k).cps.toList = [bitc o k] := fun k => by
        show (if o &&& (64 / 2 ^ k) = 0 then Str.ofString "0" else Str.ofString "1").cps.toList = [if o &&& (64 / 2 ^ k) = 0 then 48 else 49]
        split <;> rfl
      have e : ∀ ks : List Nat, (ks.flatMap fun k => (ch k).cps.toList) = ks.map (bitc o) := fun ks => by
        induction ks with
        | nil => rfl
        | cons k ks ih => rw [List.flatMap_cons, ih, this]; rfl
      exact e _
    rw [this]
theorem bin_app (a b : List Nat) : binNum (a ++ b) = binNum a * 2 ^ b.length + binNum b := by
  have go : ∀ (b : List Nat) (s : Nat), b.foldl (fun a c => 2 * a + (c - 48)) s = s * 2 ^ b.length + b.foldl (fun a c => 2 * a + (c - 48)) 0 := fun b => by
    induction b with
    | nil => intro s; simp
    | cons c b ih =>
      intro s
      rw [List.foldl_cons, List.foldl_cons, ih (2 * s + (c - 48)), ih (2 * 0 + (c - 48)), List.length_cons, Nat.pow_succ, Nat.add_mul, Nat.add_mul]
      rw [Nat.mul_comm 2 s, Nat.mul_assoc, Nat.mul_comm 2 (2 ^ b.length)]
      omega
  unfold binNum
  rw [List.foldl_append, go b]
theorem bits_val : ∀ gs : List Nat, (∀ g ∈ gs, g < 256) → binNum (gs.reverse.flatMap bits7) = val gs
  | [], _ => rfl
  | g :: r, h => by
    rw [List.reverse_cons, List.flatMap_append, bin_app, bits_val r fun y hy => h y (List.mem_cons_of_mem _ hy)]
    have e : [g].flatMap bits7 = bits7 g := by simp
    rw [e, bits_num g (h g (by simp)), bits_len]
    show val r * 128 + g % 128 = g % 128 + 128 * val r
    omega
theorem bits_bin (o : Nat) : ∀ c ∈ bits7 o, c = 48 ∨ c = 49 := by
  intro c hc
  obtain ⟨k, _, rfl⟩ := List.mem_map.mp hc
  unfold bitc
  split <;> simp
def badX (p : Nat) : Exc := ⟨"BadBytes", [("fault", .str "integer"), ("index", .int (p : Nat))]⟩
theorem read_end {l hs : List Nat} {p k x : Nat} (hb : ∀ g ∈ l, g < 256) (hl : l.length ≤ 60) (hdx : l.drop (p + k) = x :: l.drop (p + k + 1)) (hd : l.drop p = hs ++ l.drop (p + k)) (hsl : hs.length = k) (hs2 : ∀ h ∈ hs, 128 ≤ h ∧ h < 256) (hxb : x < 256) (hlt : p + k < l.length) :
    WS (sRet (eTup (aCons (opA gInt2 (aCons (eMeth "str" mJoin (eC (.str "")) (aCons (eLc (iSeq (op1 vRevA (eSlice (eVar 0) (pSome (eVar 1)) (pSome (op2 vAdd (eVar 2) (eC (.int 1))))))) (gName 4) [3, 4] tYes (eCall F_bits_of (aCons (eVar 4) aNil))) aNil)) (aCons (eC (.int 2)) aNil))) (aCons (op2 vAdd (eVar 2) (eC (.int 1))) aNil))))
      [some (od l), some (.int (p : Nat)), some (.int ((p + k : Nat) : Int)), none, none] [] fun r _ => r = .rt (readD (some (val (hs ++ [x]), p + k + 1))) := by
  have hmid : cut l (some ((p : Nat) : Int)) (some ((p + k + 1 : Nat) : Int)) = hs ++ [x] := by
    rw [cut_mid (by omega) (by omega), hd, hdx]
    have : p + k + 1 - p = (hs ++ [x]).length := by rw [List.length_append]; show _ = _ + 1; omega
    rw [this]
    have e2 : hs ++ x :: l.drop (p + k + 1) = (hs ++ [x]) ++ l.drop (p + k + 1) := by simp
    rw [e2, List.take_left]
  have hgb : ∀ g ∈ hs ++ [x], g < 256 := fun g hg => by
    rcases List.mem_append.mp hg with z | z
    · exact (hs2 g z).2
    · have : g = x := by simpa using z
      omega
  generalize hgs : hs ++ [x] = gs at hmid hgb
  have hgl : gs.length = k + 1 := by rw [← hgs, List.length_append, hsl]; rfl
  have hc : compL (gName 4) tYes (eCall F_bits_of (aCons (eVar 4) aNil)) ((gs.reverse).map fun n : Nat => D.int (n : Nat)) (wipe [some (od l), some (.int (p : Nat)), some (.int ((p + k : Nat) : Int)), none, none] [3, 4]) [] = some ((gs.reverse.map bitS).map D.str, []) := by
    rw [List.map_map]
    exact compL_map (fun n : Nat => D.int (n : Nat)) (fun n => .str (bitS n)) fun n _ => ⟨_, rfl, w_call (w_cons (w_var rfl (w_nil ⟨_, _, call_0 (by simp [D.ok, okd]) (bits_of_spec n) rfl, rfl, rfl⟩)))⟩
  have hrev : ∀ st, vRevA st (od gs) = some (.tup ((gs.reverse).map fun n : Nat => D.int (n : Nat))) := fun st => by
    show some (D.tup (gs.map fun n : Nat => D.int (n : Nat)).reverse) = _
    rw [List.map_reverse]
  have hlen : ((gs.reverse.map bitS).map (·.length)).sum = 7 * gs.length := by
    have : ∀ xs : List Nat, ((xs.map bitS).map (·.length)).sum = 7 * xs.length := fun xs => by
      induction xs with
      | nil => rfl
      | cons y ys ih => rw [List.map_cons, List.map_cons, List.sum_cons, ih, List.length_cons]; show 7 + _ = _; omega
    rw [this, List.length_reverse]
  have hj : (Str.join "" (gs.reverse.map bitS)).cps.toList = gs.reverse.flatMap bits7 := by
    rw [join0, List.flatMap_map]; rfl
  have hfl : ∀ xs : List Nat, (xs.flatMap bits7).length = 7 * xs.length := fun xs => by
    induction xs with
    | nil => rfl
    | cons y ys ih => rw [List.flatMap_cons, List.length_append, ih, List.length_cons, bits_len]; omega
  refine w_ret (w_tup (w_cons (w_opA (w_cons (w_meth (w_c ⟨rfl, w_cons (w_lc (w_seqi (w_op1 (w_slice (w_var rfl (w_psome (w_var rfl ⟨_, rfl, w_psome (w_op2 (w_var rfl (w_c ⟨.int ((p + k + 1 : Nat) : Int), rfl, _, rfl, _, slice_od l _ _, ?_⟩)))⟩)))))))⟩))))))
  rw [hmid]
  refine ⟨_, hrev _, _, rfl, _, _, hc, w_nil ⟨_, _, join_m (ys := gs.reverse.map bitS) rfl (by rw [hlen]; omega), w_cons (w_c (w_nil ⟨.int (val gs : Nat), ?_, w_cons (w_op2 (w_var rfl (w_c ⟨_, add_nat (p + k) 1, w_nil ⟨Nat.le_of_ble_eq_true rfl, rfl⟩⟩)))⟩))⟩⟩
  show (if _ ∧ _ ∧ _ then some (D.int ((binNum (Str.join "" (gs.reverse.map bitS)).cps.toList : Nat) : Int)) else none) = _
  rw [hj, bits_val gs hgb, if_pos]
  refine ⟨fun z => ?_, ?_, fun c hc => ?_⟩
  · have := congrArg List.length z
    rw [hfl, List.length_reverse] at this
    have h0 : ([] : List Nat).length = 0 := rfl
    omega
  · rw [hfl, List.length_reverse]; omega
  · obtain ⟨y, _, h2⟩ := List.mem_flatMap.mp hc
    exact bits_bin y c h2
theorem read_integer_spec {l : List Nat} (hb : ∀ g ∈ l, g < 256) (hl : l.length ≤ 60) {p : Nat} (hp : p ≤ l.length) : F_read_integer [od l, .int (p : Nat)] [] = some (match readI l p with | some q => .ok (readD (some q)) | none => .error (badX p), []) := by
  have key : WS b_read_integer [some (od l), some (.int (p : Nat)), none, none, none] [] fun r _ => match readI l p with
      | some q => r = .rt (readD (some q))
      | none => ∃ e, r = .ex (badX p) e := by
    unfold b_read_integer
    refine w_then (w_set (w_var rfl ?_))
    -- the place of the last group
    refine w_then (w_while (fun m e st => ∃ k, m = l.length - (p + k) ∧ p + k ≤ l.length ∧ e = [some (od l), some (.int (p : Nat)), some (.int ((p + k : Nat) : Int)), none, none] ∧ st = [] ∧ ∀ h ∈ (l.drop p).take k, 128 ≤ h) (l.length - p) ⟨0, rfl, hp, rfl, rfl, by simp⟩ ?_)
    rintro m e st ⟨k, rfl, hk, rfl, rfl, hpre⟩
    unfold b_read_integer_t2
    -- behind the loop
    have hd : l.drop p = (l.drop p).take k ++ l.drop (p + k) := by
      have := List.take_append_drop k (l.drop p)
      rw [List.drop_drop] at this
      exact this.symm
    refine w_and (w_tv (w_op2 (w_var rfl (w_opA (w_cons (w_var rfl (w_nil ⟨_, len_od l, _, lt_nat _ _, _, rfl, fun hk1 => ?_, fun hk1 => ⟨fun _ => ?_, fun z => (by cases z)⟩⟩)))))))
    · have hlt : p + k < l.length := of_decide_eq_true hk1
      obtain ⟨x, hx⟩ : ∃ x, l[p + k]? = some x := ⟨_, List.getElem?_eq_getElem hlt⟩
      have hxb : x < 256 := hb x (List.mem_of_getElem? hx)
      have hdx : l.drop (p + k) = x :: l.drop (p + k + 1) := by
        rw [List.drop_eq_getElem_cons hlt]
        congr 1
        rw [List.getElem?_eq_getElem hlt] at hx
        exact Option.some.inj hx
      refine w_tv (w_op2 (w_op2 (w_var rfl (w_var rfl ⟨_, at_od hx, w_c ⟨_, ge_nat x 128, _, rfl, fun hk2 => ?_, fun hk2 => ?_⟩⟩))))
      · -- the end
        have hx1 : x < 128 := by have := of_decide_eq_false hk2; omega
        let hs := (l.drop p).take k
        have hsl : hs.length = k := by rw [List.length_take, List.length_drop]; omega
        have hs2 : ∀ h ∈ hs, 128 ≤ h ∧ h < 256 := fun h hh => ⟨hpre h hh, hb h (List.mem_of_mem_drop (List.mem_of_mem_take hh))⟩
        have hcut : cutI (l.drop p) = some (hs ++ [x]) := by
          rw [hd, hdx, cutI_none_app hpre]
          show (if x < 128 then some [x] else _ : Option (List Nat)).map _ = _
          rw [if_pos hx1]; rfl
        have hr : readI l p = if x = 0 ∧ hs ≠ [] then none else some (val (hs ++ [x]), p + k + 1) := by
          unfold readI
          rw [hcut, Option.bind_some]
          have hg := groups_val hx1 hs2
          by_cases hz : x = 0 ∧ hs ≠ []
          · rw [if_neg (fun e => hg.mp e hz), if_pos hz]
          · rw [if_pos (hg.mpr hz), if_neg hz, List.length_append, hsl]; rfl
        have hne : hs ≠ [] ↔ p < p + k := by
          constructor
          · intro z
            have : 0 < hs.length := List.length_pos_iff.mpr z
            omega
          · intro z e
            rw [e] at hsl
            have : k = 0 := hsl.symm
            omega
        have e1 : ∀ st, vEq st (.int ((p + k : Nat) : Int)) (.int (l.length : Nat)) = some (.bl false) := fun st => by rw [int_eqn, decide_eq_false (by omega)]
        refine w_then (w_sif (w_or (w_tv (w_op2 (w_var rfl (w_opA (w_cons (w_var rfl (w_nil ⟨_, len_od l, _, e1 _, _, rfl, fun _ => ?_, fun z => (by cases z)⟩)))))))))
        refine w_and (w_tv (w_op2 (w_op2 (w_var rfl (w_var rfl ⟨_, at_od hx, w_c ⟨_, int_eqn x 0, _, rfl, fun hz => ?_, fun hz => ⟨fun z => (by cases z), fun _ => w_skip ?_⟩⟩⟩)))))
        · have hz : x = 0 := of_decide_eq_true hz
          refine w_tv (w_op2 (w_var rfl (w_var rfl ⟨_, gt_nat _ _, _, rfl, fun hg => ?_, fun hg => w_skip ?_⟩)))
          · have hg : p < p + k := of_decide_eq_true hg
            rw [if_pos ⟨hz, hne.mpr hg⟩] at hr
            rw [hr]
            exact w_raise (w_cons (w_var rfl (w_cons (w_c (w_nil ⟨rfl, _, rfl⟩)))))
          · have hg : ¬ p < p + k := of_decide_eq_false hg
            rw [if_neg (fun z => hg (hne.mp z.2))] at hr
            rw [hr]
            exact read_end hb hl hdx hd hsl hs2 hxb hlt
        · have hz : ¬ x = 0 := of_decide_eq_false hz
          rw [if_neg (fun z => hz z.1)] at hr
          rw [hr]
          exact read_end hb hl hdx hd hsl hs2 hxb hlt
      · have hx1 : 128 ≤ x := of_decide_eq_true hk2
        unfold b_read_integer_w1
        refine w_aug ⟨_, rfl, w_c ⟨.int ((p + (k + 1) : Nat) : Int), ?_, l.length - (p + (k + 1)), by omega, k + 1, rfl, by omega, rfl, rfl, fun h hh => ?_⟩⟩
        · show some (D.int (((p + k : Nat) : Int) + 1)) = _
          congr 2
        · rw [List.take_add_one] at hh
          rcases List.mem_append.mp hh with z | z
          · exact hpre h z
          · rw [List.getElem?_drop, hx] at z
            have : h = x := by simpa using z
            omega
    · have hge : l.length ≤ p + k := by have := of_decide_eq_false hk1; omega
      have e1 : ∀ st, vEq st (.int ((p + k : Nat) : Int)) (.int (l.length : Nat)) = some (.bl true) := fun st => by rw [int_eqn, decide_eq_true (by omega)]
      have hr : readI l p = none := by
        unfold readI
        have h0 : l.drop (p + k) = [] := List.drop_eq_nil_of_le hge
        rw [hd, h0, cutI_none_app hpre]; rfl
      rw [hr]
      refine w_then (w_sif (w_or (w_tv (w_op2 (w_var rfl (w_opA (w_cons (w_var rfl (w_nil ⟨_, len_od l, _, e1 _, _, rfl, fun z => (by cases z), fun _ => ⟨fun _ => ?_, fun z => (by cases z)⟩⟩)))))))))
      exact w_raise (w_cons (w_var rfl (w_cons (w_c (w_nil ⟨rfl, _, rfl⟩)))))
  cases hr : readI l p with
  | some q => rw [hr] at key; exact fn_pure rfl (readD_ok _) key
  | none => rw [hr] at key; exact fn_ofX rfl rfl key
end Sw.Lib

namespace Sw.K38
open PySem (Str)
open Lib
noncomputable def b__wall_w1 : Sx := sSkip
noncomputable def b__wall_t2 : Tx := (tV (eC (.bl true)))
noncomputable def b__wall : Sx := (sWhile b__wall_t2 [] b__wall_w1)
noncomputable def F__wall : Fn := fn 1 1 b__wall
noncomputable def b__law_number : Sx := (sSeq (sSet 1 (eLst (aCons (eC (.int 1180591620717411303424)) (aCons (eC (.int 98765432109876543210987654321098765432109876)) (aCons (eCall F__law_take (aCons (eVar 0) (aCons (op2 vPow (eC (.int 10)) (eC (.int 9))) aNil))) aNil)))))
  (sRet (eCall F__law_some (aCons (eVar 0) (aCons (op2 vAdd (eLst (aCons (eC (.int 0)) (aCons (eC (.int 1)) (aCons (eC (.int 127)) (aCons (eC (.int 128)) (aCons (eC (.int 129)) (aCons (eC (.int 16383)) (aCons (eC (.int 16384)) (aCons (eCall F__law_take (aCons (eVar 0) (aCons (eC (.int 300)) aNil))) aNil))))))))) (eVar 1)) aNil)))))
noncomputable def F__law_number : Fn := fn 1 2 b__law_number
noncomputable def b__law_drawn : Sx := (sRet (opA gTuple (aCons (eLc (iRange1 (eVar 1)) (gName 3) [2, 3] tYes (eCall F__law_some (aCons (eVar 0) (aCons (eLst (aCons (eC (.int 0)) (aCons (eC (.int 1)) (aCons (eC (.int 127)) (aCons (eC (.int 128)) (aCons (eC (.int 255)) (aCons (eCall F__law_take (aCons (eVar 0) (aCons (eC (.int 256)) aNil))) aNil))))))) aNil)))) aNil)))
noncomputable def F__law_drawn : Fn := fn 2 4 b__law_drawn
noncomputable def b__law_is_read_y1 : Sx := (sSeq (sSet 3 (eCall F_read_integer (aCons (eVar 0) (aCons (eVar 1) aNil))))
  (sRet (eAnd (op1 vNotN (eVar 2)) (eCall F__law_alike (aCons (eVar 3) (aCons (eVar 2) aNil))))))
noncomputable def b__law_is_read : Sx := (sSeq (sSet 2 (eCall F__law_read (aCons (eVar 0) (aCons (eVar 1) aNil))))
  (sTry1 ["BadBytes"] "BadBytes" (some 4) b__law_is_read_y1 (fun x => (sRet (eAnd (op1 vIsN (eVar 2)) (op2 vEq (eTup (aCons (eFld x "index") (aCons (eFld x "fault") aNil))) (eTup (aCons (eVar 1) (aCons (eC (.str "integer")) aNil)))))))))
noncomputable def F__law_is_read : Fn := fn 2 5 b__law_is_read
noncomputable def b_law_f1 : Sx := (sIf (tAnd (tV (op2 vGe (opA gLen (aCons (eVar 7) aNil)) (opA gLen (aCons (eVar 4) aNil)))) (tNot (tV (eCall F__law_is_read (aCons (eVar 7) (aCons (opA gLen (aCons (eVar 4) aNil)) aNil))))))
  (sRet (eC (.bl false)))
  sSkip)
noncomputable def b_law_f2 : Sx := (sSeq (sPar [gName 3, gName 4] (aCons (eCall F__law_number (aCons (eVar 1) aNil)) (aCons (eCall F__law_drawn (aCons (eVar 1) (aCons (eCall F__law_take (aCons (eVar 1) (aCons (eC (.int 4)) aNil))) aNil))) aNil)))
  (sSeq (sSet 5 (eCall F__law_integer (aCons (eVar 3) aNil)))
  (sSeq (sIf (tNot (tV (eCall F__law_alike (aCons (eCall F_integer_octets (aCons (eVar 3) aNil)) (aCons (eVar 5) aNil)))))
  (sRet (eC (.bl false)))
  sSkip)
  (sSeq (sSet 6 (op2 vAdd (op2 vAdd (eVar 4) (eVar 5)) (eCall F__law_drawn (aCons (eVar 1) (aCons (eCall F__law_take (aCons (eVar 1) (aCons (eC (.int 3)) aNil))) aNil)))))
  (sSeq (sFor (iSeq (eTup (aCons (eVar 6) (aCons (eSlice (eVar 6) pNone (pSome (op1 vNeg (eC (.int 1))))) (aCons (eSlice (eVar 6) pNone (pSome (op2 vSub (op2 vAdd (opA gLen (aCons (eVar 4) aNil)) (opA gLen (aCons (eVar 5) aNil))) (eC (.int 1))))) (aCons (op2 vAdd (eVar 4) (eTup (aCons (eC (.int 128)) aNil))) (aCons (op2 vAdd (eVar 4) (eTup (aCons (eC (.int 200)) (aCons (eC (.int 0)) aNil)))) (aCons (op2 vAdd (eVar 4) (eTup (aCons (eC (.int 128)) (aCons (eC (.int 0)) aNil)))) aNil)))))))) (gName 7) [7] b_law_f1)
  (sSeq (sSet 8 (eCall F__law_drawn (aCons (eVar 1) (aCons (eCall F__law_take (aCons (eVar 1) (aCons (eC (.int 9)) aNil))) aNil))))
  (sSeq (sIf (tNot (tV (eCall F__law_alike (aCons (eLst (aCons (eCall F_check_of (aCons (eVar 8) aNil)) (aCons (eCall F_sealed (aCons (eVar 8) aNil)) aNil))) (aCons (eLst (aCons (eCall F__law_check (aCons (eVar 8) aNil)) (aCons (eCall F__law_sealed (aCons (eVar 8) aNil)) aNil))) aNil)))))
  (sRet (eC (.bl false)))
  sSkip)
  (sSeq (sSet 9 (eCall F__law_sealed (aCons (eVar 8) aNil)))
  (sSeq (sSet 10 (eCall F__law_take (aCons (eVar 1) (aCons (opA gLen (aCons (eVar 9) aNil)) aNil))))
  (sSeq (sSet 7 (op2 vAdd (op2 vAdd (eSlice (eVar 9) pNone (pSome (eVar 10))) (eCall F__law_drawn (aCons (eVar 1) (aCons (opA gMin2 (aCons (eC (.int 3)) (aCons (op2 vSub (opA gLen (aCons (eVar 9) aNil)) (eVar 10)) aNil))) aNil)))) (eSlice (eVar 9) (pSome (op2 vAdd (eVar 10) (eC (.int 3)))) pNone)))
  (sIf (tOr (tV (op2 vIsn (eCall F_is_sealed (aCons (eVar 9) aNil)) (eC (.bl true)))) (tNot (tV (eCall F__law_alike (aCons (eCall F_is_sealed (aCons (eVar 7) aNil)) (aCons (op2 vEq (eVar 7) (eVar 9)) aNil))))))
  (sRet (eC (.bl false)))
  sSkip)))))))))))
noncomputable def b_law : Sx := (sSeq (sSet 1 (eCall F__law_bag (aCons (eVar 0) aNil)))
  (sSeq (sFor (iRange1 (eC (.int 10))) (gName 2) [2, 3, 4, 5, 6, 7, 8, 9, 10] b_law_f2)
  (sRet (eC (.bl true)))))
noncomputable def F_law : Fn := fn 1 11 b_law
end Sw.K38
/-! Pk38a: what differs within three neighbours. -/
set_option linter.all false
set_option maxRecDepth 100000
set_option maxHeartbeats 4000000
namespace Sw.K38
open PySem (Str)
open Lib
/-! ### what differs within three neighbours is not sealed -/
theorem ckf_inj {x y o : Nat} (hx : x < MM) (hy : y < MM) (h : ckf x o = ckf y o) : x = y := by
  unfold ckf MM at *
  omega
theorem ckl_inj : ∀ (v : List Nat) {x y : Nat}, x < MM → y < MM → v.foldl ckf x = v.foldl ckf y → x = y
  | [], _, _, _, _, h => h
  | o :: v, x, y, hx, hy, h => ckf_inj hx hy (ckl_inj v (ckf_lt x o) (ckf_lt y o) h)
theorem ckf_mod (x o : Nat) : ckf (x % MM) o = ckf x o := by
  unfold ckf MM
  omega
theorem ck2 (s a b : Nat) : ckf (ckf s a) b = (66049 * s + (257 * (a + 1) + (b + 1))) % MM := by
  have : ckf s a = (s * 257 + a + 1) % MM := rfl
  rw [this, ckf_mod]
  unfold ckf
  congr 1
  omega
theorem ck3 (s a b c : Nat) : ckf (ckf (ckf s a) b) c = (16974593 * s + (66049 * (a + 1) + 257 * (b + 1) + (c + 1))) % MM := by
  rw [ck2 s a b, ckf_mod]
  unfold ckf
  congr 1
  omega
theorem mod_inj {t d e : Nat} (hd : d < MM) (he : e < MM) (h : (t + d) % MM = (t + e) % MM) : d = e := by
  unfold MM at *
  omega
theorem three {s a b c a' b' c' : Nat} (ha : a < 256) (hb : b < 256) (hc : c < 256) (ha' : a' < 256) (hb' : b' < 256) (hc' : c' < 256) (h : ckf (ckf (ckf s a) b) c = ckf (ckf (ckf s a') b') c') : a = a' ∧ b = b' ∧ c = c' := by
  rw [ck3, ck3] at h
  have := mod_inj (by unfold MM; omega) (by unfold MM; omega) h
  omega
theorem near_mod {t d : Nat} (hd : d < MM) : ∃ r, r < MM ∧ (t + d) % MM = (if r + d < MM then r + d else r + d - MM) ∧ r = t % MM := by
  refine ⟨t % MM, Nat.mod_lt _ (by decide), ?_, rfl⟩
  have h1 : (t + d) % MM = (t % MM + d) % MM := (Nat.mod_add_mod t MM d).symm
  have h2 : t % MM < MM := Nat.mod_lt _ (by decide)
  rw [h1]
  generalize t % MM = r at h2
  unfold MM at *
  split
  · exact Nat.mod_eq_of_lt (by assumption)
  · omega
theorem near24 {t d e : Nat} (hd : d < 70000) (he : e < 70000) (h : (t + d) % MM % 16777216 = (t + e) % MM % 16777216) : d = e := by
  obtain ⟨r, h1, h2, h3⟩ := near_mod (t := t) (d := d) (by unfold MM; omega)
  obtain ⟨r', h1', h2', h3'⟩ := near_mod (t := t) (d := e) (by unfold MM; omega)
  rw [← h3] at h3'
  subst h3'
  clear h3
  rw [h2, h2'] at h
  clear h2 h2' h1'
  unfold MM at *
  split at h <;> split at h <;> omega
theorem near16 {t d e : Nat} (hd : d < 600) (he : e < 600) (h : (t + d) % MM % 65536 = (t + e) % MM % 65536) : d = e := by
  obtain ⟨r, h1, h2, h3⟩ := near_mod (t := t) (d := d) (by unfold MM; omega)
  obtain ⟨r', h1', h2', h3'⟩ := near_mod (t := t) (d := e) (by unfold MM; omega)
  rw [← h3] at h3'
  subst h3'
  clear h3
  rw [h2, h2'] at h
  clear h2 h2' h1'
  unfold MM at *
  split at h <;> split at h <;> omega
theorem two {s a b a' b' : Nat} (ha : a < 256) (hb : b < 256) (ha' : a' < 256) (hb' : b' < 256) (h : ckf (ckf s a) b % 16777216 = ckf (ckf s a') b' % 16777216) : a = a' ∧ b = b' := by
  rw [ck2, ck2] at h
  have h1 := near24 (by omega) (by omega) h
  clear h
  omega
theorem one {s a a' : Nat} (ha : a < 256) (ha' : a' < 256) (h : ckf s a % 65536 = ckf s a' % 65536) : a = a' := by
  have e : ∀ a, ckf s a = (s * 257 + (a + 1)) % MM := fun a => rfl
  rw [e, e] at h
  have h1 := near16 (by omega) (by omega) h
  clear h
  omega
theorem four_two {c d : Nat} (h : (four c).drop 2 = (four d).drop 2) : c % 65536 = d % 65536 := by
  unfold four at h
  simp only [List.drop_succ_cons, List.drop_zero, List.cons.injEq, and_true] at h
  omega
theorem four_one {c d : Nat} (h : (four c).drop 1 = (four d).drop 1) : c % 16777216 = d % 16777216 := by
  unfold four at h
  simp only [List.drop_succ_cons, List.drop_zero, List.cons.injEq, and_true] at h
  omega
theorem four_inj {c d : Nat} (h : four c = four d) : c = d := by
  unfold four at h
  simp only [List.cons.injEq, and_true] at h
  obtain ⟨h1, h2, h3, h4⟩ := h
  omega
theorem ck_at (u v : List Nat) : ck (u ++ v) = v.foldl ckf (ck u) := by unfold ck; rw [List.foldl_append]
theorem det3 {u v : List Nat} {a b c a' b' c' : Nat} (ha : a < 256) (hb : b < 256) (hc : c < 256) (ha' : a' < 256) (hb' : b' < 256) (hc' : c' < 256) (h : ck (u ++ a :: b :: c :: v) = ck (u ++ a' :: b' :: c' :: v)) : a = a' ∧ b = b' ∧ c = c' := by
  rw [ck_at, ck_at] at h
  rw [List.foldl_cons, List.foldl_cons, List.foldl_cons, List.foldl_cons, List.foldl_cons, List.foldl_cons] at h
  exact three ha hb hc ha' hb' hc' (ckl_inj v (ckf_lt _ _) (ckf_lt _ _) h)
theorem at_split {l : List Nat} {p : Nat} (h : p < l.length) : ∃ a, l.drop p = a :: l.drop (p + 1) ∧ a ∈ l := ⟨_, List.drop_eq_getElem_cons h, List.getElem_mem h⟩
theorem sealed_same {b b' f : List Nat} {p : Nat} (hb : ∀ x ∈ b, x < 256) (hb' : ∀ x ∈ b', x < 256) (hl : b'.length = b.length) (h1 : (b' ++ four (ck b')).take p = (b ++ four (ck b)).take p) (h2 : (b' ++ four (ck b')).drop (p + 3) = (b ++ four (ck b)).drop (p + 3)) : b' = b := by
  by_cases c1 : b.length ≤ p
  · have := congrArg (List.take b.length) h1
    rw [List.take_take, List.take_take, Nat.min_eq_left c1, List.take_left, ← hl, List.take_left] at this
    exact this
  have hp : p < b.length := by omega
  have t1 : b'.take p = b.take p := by
    rw [List.take_append_of_le_length (by omega), List.take_append_of_le_length (by omega)] at h1
    exact h1
  obtain ⟨a, ea, ma⟩ := at_split hp
  obtain ⟨a', ea', ma'⟩ := at_split (l := b') (by omega : p < b'.length)
  have eb : b = b.take p ++ a :: b.drop (p + 1) := by rw [← ea, List.take_append_drop]
  have eb' : b' = b.take p ++ a' :: b'.drop (p + 1) := by rw [← ea', ← t1, List.take_append_drop]
  have hs := ck_lt (b.take p)
  by_cases c2 : b.length = p + 1
  · -- one of the body, two of the check
    have n1 : b.drop (p + 1) = [] := List.drop_eq_nil_of_le (by omega)
    have n1' : b'.drop (p + 1) = [] := List.drop_eq_nil_of_le (by omega)
    rw [n1] at eb
    rw [n1'] at eb'
    have e1 : ck b = ckf (ck (b.take p)) a := by
      have : ck b = ck (b.take p ++ [a]) := by rw [← eb]
      rw [this, ck_at]; rfl
    have e1' : ck b' = ckf (ck (b.take p)) a' := by rw [eb', ck_at]; rfl
    have hh : (four (ck b')).drop 2 = (four (ck b)).drop 2 := by
      have q : ∀ x : List Nat, x.length = p + 1 → ∀ y : List Nat, (x ++ y).drop (p + 3) = y.drop 2 := fun x hx y => by
        rw [List.drop_append, List.drop_eq_nil_of_le (by omega), hx]; simp
      rw [q b' (by omega), q b (by omega)] at h2
      exact h2
    have : a' = a := one (s := ck (b.take p)) (hb' a' ma') (hb a ma) (by rw [← e1, ← e1']; exact four_two hh)
    rw [eb', this]; exact eb.symm
  obtain ⟨a2, ea2, ma2⟩ := at_split (by omega : p + 1 < b.length)
  obtain ⟨a2', ea2', ma2'⟩ := at_split (l := b') (by omega : p + 1 < b'.length)
  rw [ea2] at eb
  rw [ea2'] at eb'
  by_cases c3 : b.length = p + 2
  · have n1 : b.drop (p + 1 + 1) = [] := List.drop_eq_nil_of_le (by omega)
    have n1' : b'.drop (p + 1 + 1) = [] := List.drop_eq_nil_of_le (by omega)
    rw [n1] at eb
    rw [n1'] at eb'
    have e1 : ck b = ckf (ckf (ck (b.take p)) a) a2 := by
      have : ck b = ck (b.take p ++ [a, a2]) := by rw [← eb]
      rw [this, ck_at]; rfl
    have e1' : ck b' = ckf (ckf (ck (b.take p)) a') a2' := by rw [eb', ck_at]; rfl
    have hh : (four (ck b')).drop 1 = (four (ck b)).drop 1 := by
      have q : ∀ x : List Nat, x.length = p + 2 → ∀ y : List Nat, (x ++ y).drop (p + 3) = y.drop 1 := fun x hx y => by
        rw [List.drop_append, List.drop_eq_nil_of_le (by omega), hx]; simp
      rw [q b' (by omega), q b (by omega)] at h2
      exact h2
    obtain ⟨q1, q2⟩ := two (s := ck (b.take p)) (hb' a' ma') (hb' a2' ma2') (hb a ma) (hb a2 ma2) (by rw [← e1, ← e1']; exact four_one hh)
    rw [eb', q1, q2]; exact eb.symm
  obtain ⟨a3, ea3, ma3⟩ := at_split (by omega : p + 1 + 1 < b.length)
  obtain ⟨a3', ea3', ma3'⟩ := at_split (l := b') (by omega : p + 1 + 1 < b'.length)
  rw [ea3] at eb
  rw [ea3'] at eb'
  have hle : p + 3 ≤ b.length := by omega
  rw [List.drop_append_of_le_length (by omega), List.drop_append_of_le_length (by omega)] at h2
  have hlen : (b'.drop (p + 3)).length = (b.drop (p + 3)).length := by rw [List.length_drop, List.length_drop, hl]
  obtain ⟨v1, v2⟩ := List.append_inj h2 hlen
  have hck : ck b' = ck b := four_inj v2
  have v1 : b'.drop (p + 1 + 1 + 1) = b.drop (p + 1 + 1 + 1) := v1
  rw [v1] at eb'
  obtain ⟨q1, q2, q3⟩ := det3 (hb' a' ma') (hb' a2' ma2') (hb' a3' ma3') (hb a ma) (hb a2 ma2) (hb a3 ma3) (u := b.take p) (v := b.drop (p + 1 + 1 + 1)) (eb'.symm ▸ hck.trans (congrArg ck eb))
  rw [eb', q1, q2, q3]; exact eb.symm
theorem sealed_iff {b odd : List Nat} {p : Nat} (hb : ∀ x ∈ b, x < 256) (ho : ∀ x ∈ odd, x < 256) (hl : odd.length = b.length + 4) (h1 : odd.take p = (sld b).take p) (h2 : odd.drop (p + 3) = (sld b).drop (p + 3)) : sld (odd.take (odd.length - 4)) = odd ↔ odd = sld b := by
  constructor
  · intro e
    have hbl : (odd.take (odd.length - 4)).length = b.length := by rw [List.length_take]; omega
    have key := sealed_same (p := p) (f := []) hb (fun x hx => ho x (List.mem_of_mem_take hx)) hbl (by
      have : odd.take (odd.length - 4) ++ four (ck (odd.take (odd.length - 4))) = odd := e
      rw [this]; exact h1) (by
      have : odd.take (odd.length - 4) ++ four (ck (odd.take (odd.length - 4))) = odd := e
      rw [this]; exact h2)
    rw [key] at e
    exact e.symm
  · intro e
    have : odd.take (odd.length - 4) = b := by
      rw [hl, e]
      show (b ++ four (ck b)).take _ = b
      rw [Nat.add_sub_cancel, List.take_left]
    rw [this]; exact e.symm
end Sw.K38

/-! Pk38b: k38's law. -/
set_option linter.all false
set_option maxRecDepth 100000
set_option maxHeartbeats 4000000
namespace Sw.K38
open PySem (Str)
open Lib
/-! ### drawn things -/
theorem drawn_spec {c : Cell} (hc : BagC c) {many : Nat} (hm : many ≤ 100) : ∃ (l : List Nat) (c' : Cell), F__law_drawn [.loc 0, .int (many : Nat)] [c] = some (.ok (od l), [c']) ∧ BagC c' ∧ l.length = many ∧ ∀ x ∈ l, x < 256 := by
  suffices hh : ∃ d s, F__law_drawn [.loc 0, .int (many : Nat)] [c] = some (.ok d, s) ∧ ∃ (l : List Nat) (c' : Cell), d = od l ∧ s = [c'] ∧ BagC c' ∧ l.length = many ∧ ∀ x ∈ l, x < 256 by
    obtain ⟨d, s, e, l, c', rfl, rfl, h⟩ := hh
    exact ⟨l, c', e, h⟩
  refine fn_of rfl ?_
  show WS b__law_drawn [some (.loc 0), some (.int (many : Nat)), none, none] [c] _
  unfold b__law_drawn
  have h6 := s1000000
  refine w_ret (w_opA (w_cons (w_lcI (w_range1 (w_var rfl ⟨_, rfl, ⟨by omega, by omega⟩, ?_⟩)))))
  refine ⟨fun pre ds st => ∃ (l : List Nat) (c' : Cell), pre = ns l ∧ l.length + ds.length = many ∧ st = [c'] ∧ BagC c' ∧ ∀ x ∈ l, x < 256, ⟨[], c, rfl, by unfold rangeL; simp, rfl, hc, by simp⟩, ?_, ?_⟩
  · rintro pre d ds st ⟨l, c', rfl, hl, rfl, hc', hb⟩
    refine ⟨_, _, rfl, true, _, rfl, fun _ => ?_, fun z => (by cases z)⟩
    refine w_call (w_cons (w_var rfl (w_cons (w_lst ?_))))
    refine w_cons (w_c (w_cons (w_c (w_cons (w_c (w_cons (w_c (w_cons (w_c (w_cons (w_call (w_cons (w_var rfl (w_cons (w_c (w_nil ?_))))))))))))))))
    refine take_call hc' rfl (by decide) (by decide) fun v c1 hc1 hv0 hv1 => ?_
    obtain ⟨v, rfl⟩ := Int.eq_ofNat_of_zero_le hv0
    refine w_nil ⟨Nat.le_of_ble_eq_true rfl, w_nil ?_⟩
    refine some_call hc1 rfl (t := .lst [.int 0, .int 1, .int 127, .int 128, .int 255, .int (v : Nat)]) (xs := [.int 0, .int 1, .int 127, .int 128, .int 255, .int (v : Nat)]) (.inl rfl) rfl (by show 0 < 6; omega) (by show 6 < _; omega) fun d c2 hc2 hd _ => ?_
    have : ∃ k : Nat, d = .int (k : Nat) ∧ k < 256 := by
      simp only [List.mem_cons, List.not_mem_nil, or_false] at hd
      rcases hd with rfl | rfl | rfl | rfl | rfl | rfl
      · exact ⟨0, rfl, by decide⟩
      · exact ⟨1, rfl, by decide⟩
      · exact ⟨127, rfl, by decide⟩
      · exact ⟨128, rfl, by decide⟩
      · exact ⟨255, rfl, by decide⟩
      · exact ⟨v, rfl, by omega⟩
    obtain ⟨k, rfl, hk⟩ := this
    exact ⟨l ++ [k], c2, by simp, by rw [List.length_append]; simp at hl ⊢; omega, rfl, hc2, fun x hx => (List.mem_append.mp hx).elim (hb x) (fun z => by
      have : x = k := by simpa using z
      omega)⟩
  · rintro ys st ⟨l, c', rfl, hl, rfl, hc', hb⟩
    exact w_nil ⟨od l, rfl, _, .inl rfl, _, _, clean_ok (by simp [bag_ok hc']) (od_ok l), l, c', rfl, rfl, hc', by simpa using hl, hb⟩
theorem drawn_call {c : Cell} (hc : BagC c) {st : Store} {n : Nat} (hn : st[n]? = some c) {many : Nat} (hm : many ≤ 100) {Q : D → Store → Prop} (k : ∀ (l : List Nat) c', BagC c' → l.length = many → (∀ x ∈ l, x < 256) → Q (od l) (st.set n c')) : ∃ r s2, viewCall F__law_drawn [.loc n, .int (many : Nat)] st = some (.ok r, s2) ∧ Q r s2 := by
  obtain ⟨l, c', e, hc', hl, hb⟩ := drawn_spec hc hm
  exact ⟨_, _, call_1 (ds := [.int (many : Nat)]) hn (by simp [D.ok, okd]) (bag_ok hc) e (bag_ok hc') (od_ok l), k l c' hc' hl hb⟩
theorem number_spec {c : Cell} (hc : BagC c) : ∃ (n : Nat) (c' : Cell), F__law_number [.loc 0] [c] = some (.ok (.int (n : Nat)), [c']) ∧ BagC c' ∧ n < 128 ^ 21 := by
  suffices hh : ∃ d s, F__law_number [.loc 0] [c] = some (.ok d, s) ∧ ∃ (n : Nat) (c' : Cell), d = .int (n : Nat) ∧ s = [c'] ∧ BagC c' ∧ n < 128 ^ 21 by
    obtain ⟨d, s, e, l, c', rfl, rfl, h⟩ := hh
    exact ⟨l, c', e, h⟩
  refine fn_of rfl ?_
  show WS b__law_number [some (.loc 0), none] [c] _
  unfold b__law_number
  refine w_then (w_set (w_lst (w_cons (w_c (w_cons (w_c (w_cons (w_call (w_cons (w_var rfl (w_cons (w_op2 (w_c (w_c ⟨.int 1000000000, rfl, w_nil ?_⟩))))))))))))))
  refine take_call hc rfl (by decide) (by decide) fun v c1 hc1 hv0 hv1 => ?_
  obtain ⟨v, rfl⟩ := Int.eq_ofNat_of_zero_le hv0
  refine w_nil ⟨Nat.le_of_ble_eq_true rfl, ?_⟩
  refine w_ret (w_call (w_cons (w_var rfl (w_cons (w_op2 (w_lst ?_)))))) 
  refine w_cons (w_c (w_cons (w_c (w_cons (w_c (w_cons (w_c (w_cons (w_c (w_cons (w_c (w_cons (w_c (w_cons (w_call (w_cons (w_var rfl (w_cons (w_c (w_nil ?_))))))))))))))))))))
  refine take_call hc1 rfl (by decide) (by decide) fun u c2 hc2 hu0 hu1 => ?_
  obtain ⟨u, rfl⟩ := Int.eq_ofNat_of_zero_le hu0
  let L : List D := [.int 0, .int 1, .int 127, .int 128, .int 129, .int 16383, .int 16384, .int (u : Nat), .int 1180591620717411303424, .int 98765432109876543210987654321098765432109876, .int (v : Nat)]
  refine w_nil ⟨Nat.le_of_ble_eq_true rfl, w_var rfl ⟨.lst L, rfl, w_nil ?_⟩⟩
  refine some_call hc2 rfl (t := .lst L) (xs := L) (.inl rfl) rfl (by show 0 < 11; omega) (by show 11 < 1073741824; omega) fun d c3 hc3 hd _ => ?_
  have : ∃ k : Nat, d = .int (k : Nat) ∧ k < 128 ^ 21 := by
    simp only [L, List.mem_cons, List.not_mem_nil, or_false] at hd
    have hu2 : u < 300 := by omega
    have hv2 : v < 1000000000 := by omega
    rcases hd with rfl | rfl | rfl | rfl | rfl | rfl | rfl | rfl | rfl | rfl | rfl
    · exact ⟨0, rfl, by decide⟩
    · exact ⟨1, rfl, by decide⟩
    · exact ⟨127, rfl, by decide⟩
    · exact ⟨128, rfl, by decide⟩
    · exact ⟨129, rfl, by decide⟩
    · exact ⟨16383, rfl, by decide⟩
    · exact ⟨16384, rfl, by decide⟩
    · exact ⟨u, rfl, Nat.lt_trans hu2 (by decide)⟩
    · exact ⟨1180591620717411303424, rfl, by decide⟩
    · exact ⟨98765432109876543210987654321098765432109876, rfl, by decide⟩
    · exact ⟨v, rfl, Nat.lt_trans hv2 (by decide)⟩
  obtain ⟨k, rfl, hk⟩ := this
  exact ⟨_, .inl rfl, _, _, clean_ok (by simp [bag_ok hc3]) rfl, k, c3, rfl, rfl, hc3, hk⟩
/-! ### reading -/
theorem w_try_rt {ks : List Str} {cn : Str} {i : Option Nat} {b : Sx} {s : Exc → Sx} {e : Env} {st : Store} {Q : SR → Store → Prop} (h : WS b e st fun r s1 => (∃ d, r = .rt d) ∧ Q r s1) : WS (sTry1 ks cn i b s) e st Q := by
  obtain ⟨r, s1, h1, ⟨d, rfl⟩, q⟩ := h
  exact ⟨_, s1, by unfold sTry1; rw [h1], q⟩
theorem w_try_xrt {ks : List Str} {cn : Str} {i : Nat} {b : Sx} {s : Exc → Sx} {e : Env} {st : Store} {Q : SR → Store → Prop} (h : WS b e st fun r s1 => ∃ x e1, r = .ex x e1 ∧ ks.contains x.cls = true ∧ x.cls = cn ∧ x.fs.isEmpty = false ∧ WS (s x) (e1.set i none) s1 fun r2 s2 => ∃ d, r2 = .rt d ∧ Q (.rt d) s2) : WS (sTry1 ks cn (some i) b s) e st Q := by
  obtain ⟨r, s1, h1, x, e1, rfl, h2, h3, h4, r2, s2, h5, d, rfl, q⟩ := h
  refine ⟨_, s2, ?_, q⟩
  unfold sTry1
  rw [h1]
  dsimp only
  rw [if_pos h2, if_pos h3, if_neg (by simp [h4])]
  rw [h5]
theorem args_od {l : List Nat} {d : D} (hd : d.ok = true) : ∀ x ∈ [od l, d], D.ok x = true := by
  intro x hx
  simp only [List.mem_cons, List.not_mem_nil, or_false] at hx
  rcases hx with rfl | rfl
  · exact od_ok l
  · exact hd
theorem is_read_spec {l : List Nat} (hb : ∀ g ∈ l, g < 256) (hl : l.length ≤ 60) {p : Nat} (hp : p ≤ l.length) : F__law_is_read [od l, .int (p : Nat)] [] = some (.ok (.bl true), []) := by
  refine fn_pure rfl rfl ?_
  show WS b__law_is_read [some (od l), some (.int (p : Nat)), none, none, none] [] _
  unfold b__law_is_read
  refine w_then (w_set (w_call (w_cons (w_var rfl (w_cons (w_var rfl (w_nil ⟨_, _, call_0 (args_od rfl) (law_read_spec hb hl hp) (readD_ok _), ?_⟩)))))))
  have hr := read_integer_spec hb hl hp
  cases ho : readI l p with
  | some q =>
    rw [ho] at hr
    refine w_try_rt ?_
    unfold b__law_is_read_y1
    refine w_then (w_set (w_call (w_cons (w_var rfl (w_cons (w_var rfl (w_nil ⟨_, _, call_0 (args_od rfl) hr (readD_ok _), ?_⟩)))))))
    refine w_ret (w_eand (w_op1 (w_var rfl ⟨.bl true, rfl, true, rfl, fun _ => ?_, fun z => (by cases z)⟩)))
    refine w_call (w_cons (w_var rfl (w_cons (w_var rfl (w_nil ?_)))))
    exact alike_call rfl (readD_ok _) rfl ⟨⟨_, rfl⟩, rfl⟩
  | none =>
    rw [ho] at hr
    refine w_try_xrt ⟨.ex (badX p) _, _, x_seq (x_asg (x_call (ds := [od l, .int (p : Nat)]) rfl (call_0x (args_od rfl) hr rfl))), badX p, _, rfl, rfl, rfl, rfl, ?_⟩
    refine w_ret (w_eand (w_op1 (w_var rfl ⟨.bl true, rfl, true, rfl, fun _ => ?_, fun z => (by cases z)⟩)))
    refine w_op2 (w_tup (w_cons ⟨.int (p : Nat), _, rfl, w_cons ⟨.str "integer", _, rfl, w_nil ⟨Nat.le_of_ble_eq_true rfl, w_tup (w_cons (w_var rfl (w_cons (w_c (w_nil ⟨Nat.le_of_ble_eq_true rfl, .bl true, eq_self rfl, _, rfl, rfl⟩)))))⟩⟩⟩))
abbrev E1 (ns : List Int) (a2 a3 : Option D) (ah du oc : List Nat) (a7 : Option D) : Env := [some (.scr ns), some (.loc 0), a2, a3, some (od ah), some (od du), some (od oc), a7, none, none, none]
theorem take_add {st : Store} {l m : List Nat} (h : l.length + m.length ≤ 1000000) : vAdd st (od l) (od m) = some (od (l ++ m)) := by
  show (if _ then _ else _) = _
  rw [if_pos (by rw [List.length_map, List.length_map]; have := s1000000; omega)]
  unfold od
  rw [List.map_append]
theorem law_f1 {ns : List Int} {a2 a3 : Option D} {ah du oc l : List Nat} {st : Store} (hb : ∀ g ∈ l, g < 256) (hl : l.length ≤ 60) : WS b_law_f1 (E1 ns a2 a3 ah du oc (some (od l))) st fun r s => r = .nx (E1 ns a2 a3 ah du oc (some (od l))) ∧ s = st := by
  unfold b_law_f1
  refine w_sif (w_and (w_tv (w_op2 (w_opA (w_cons (w_var rfl (w_nil ⟨_, len_od l, w_opA (w_cons (w_var rfl (w_nil ⟨_, len_od ah, _, ge_nat _ _, _, rfl, fun hk => ?_, fun _ => ⟨fun z => (by cases z), fun _ => w_skip ⟨rfl, rfl⟩⟩⟩)))⟩)))))))
  have hk : ah.length ≤ l.length := of_decide_eq_true hk
  refine w_not (w_tv (w_call (w_cons (w_var rfl (w_cons (w_opA (w_cons (w_var rfl (w_nil ⟨_, len_od ah, w_nil ⟨_, _, call_0 (args_od rfl) (is_read_spec hb hl hk) rfl, true, rfl, fun z => (by cases z), fun _ => w_skip ⟨rfl, rfl⟩⟩⟩)))))))))
theorem law_f2 {ns : List Int} {c : Cell} (hc : BagC c) {a2 : Option D} : WS b_law_f2 [some (.scr ns), some (.loc 0), a2, none, none, none, none, none, none, none, none] [c] fun r s => ∃ e, r = .nx e ∧ wipe e [2, 3, 4, 5, 6, 7, 8, 9, 10] = [some (.scr ns), some (.loc 0), none, none, none, none, none, none, none, none, none] ∧ ∃ c', s = [c'] ∧ BagC c' := by
  unfold b_law_f2
  obtain ⟨n, c1, hF, hc1, hn⟩ := number_spec hc
  have hn2 : n < 128 ^ 100 := Nat.lt_of_lt_of_le hn (Nat.pow_le_pow_right (by decide) (by decide))
  refine w_then (w_par (w_cons (w_call (w_cons (w_var rfl (w_nil ⟨_, _, call_1 (ds := []) rfl (by simp) (bag_ok hc) hF (bag_ok hc1) rfl, ?_⟩))))))
  refine w_cons (w_call (w_cons (w_var rfl (w_cons (w_call (w_cons (w_var rfl (w_cons (w_c (w_nil ?_))))))))))
  refine take_call hc1 rfl (by decide) (by decide) fun v c2 hc2 hv0 hv1 => ?_
  obtain ⟨v, rfl⟩ := Int.eq_ofNat_of_zero_le hv0
  refine w_nil (drawn_call hc2 rfl (by omega) fun ah c3 hc3 hal hab => w_nil ⟨_, _, rfl, ?_⟩)
  have hgl := groups_len 21 n hn (by decide)
  have hgb := groups_byte (n + 1) n (Nat.lt_succ_self n)
  refine w_then (w_set (w_call (w_cons (w_var rfl (w_nil ⟨_, _, call_0 (by simp [D.ok, okd]) (law_integer_spec hn2) (od_ok _), ?_⟩)))))
  refine w_then (w_sif (w_not (w_tv (w_call (w_cons (w_call (w_cons (w_var rfl (w_nil ⟨_, _, call_0 (by simp [D.ok, okd]) (integer_octets_spec hn2) (od_ok _), w_cons (w_var rfl (w_nil ?_))⟩)))))))))
  refine alike_call rfl (od_ok _) (by rw [sz_od]; exact Nat.ble_eq_true_of_le (by omega)) ⟨true, rfl, fun z => (by cases z), fun _ => w_skip ?_⟩
  -- octets
  refine w_then (w_set (w_op2 (w_op2 (w_var rfl (w_var rfl ⟨_, take_add (by omega), w_call (w_cons (w_var rfl (w_cons (w_call (w_cons (w_var rfl (w_cons (w_c (w_nil ?_)))))))))⟩)))))
  refine take_call hc3 rfl (by decide) (by decide) fun u c4 hc4 hu0 hu1 => ?_
  obtain ⟨u, rfl⟩ := Int.eq_ofNat_of_zero_le hu0
  refine w_nil (drawn_call hc4 rfl (by omega) fun be c5 hc5 hbl hbb => ⟨_, take_add (by rw [List.length_append]; omega), ?_⟩)
  generalize hoc : ah ++ groups n ++ be = oc
  have hocl : oc.length ≤ 30 := by rw [← hoc, List.length_append, List.length_append]; omega
  have hocb : ∀ x ∈ oc, x < 256 := fun x hx => by
    rw [← hoc] at hx
    rcases List.mem_append.mp hx with z | z
    · rcases List.mem_append.mp z with y | y
      · exact hab x y
      · exact hgb x y
    · exact hbb x z
  -- the odd ones
  have h1 : ∀ st, vSlice st (od oc) none (some (-1)) = some (od (oc.take (oc.length - 1))) := fun st => by
    rw [slice_od]
    congr 2
    exact cut_but (k := 1) (by decide)
  have hal1 : 1 ≤ ah.length + (groups n).length := by
    have : 0 < (groups n).length := by
      rw [List.length_pos_iff]
      intro z
      unfold groups at z
      split at z <;> cases z
    omega
  have hadd : ∀ st (m : List Nat), m.length ≤ 10 → vAdd st (od ah) (od m) = some (od (ah ++ m)) := fun st m hm => take_add (by omega)
  let xs : List (List Nat) := [oc, oc.take (oc.length - 1), oc.take (ah.length + (groups n).length - 1), ah ++ [128], ah ++ [200, 0], ah ++ [128, 0]]
  refine w_then (w_for (w_seqi (w_tup (w_cons (w_var rfl (w_cons (w_slice (w_var rfl (w_pnone (w_psome (w_op1 (w_c ⟨.int (-1), rfl, _, rfl, _, h1 _, ?_⟩))))))))))))
  refine w_cons (w_slice (w_var rfl (w_pnone (w_psome (w_op2 (w_op2 (w_opA (w_cons (w_var rfl (w_nil ⟨_, len_od ah, w_opA (w_cons (w_var rfl (w_nil ⟨_, len_od (groups n), _, add_nat _ _, w_c ⟨_, sub_nat (b := 1) hal1, _, rfl, _, slice_od oc _ _, ?_⟩⟩)))⟩))))))))))
  rw [cut_to]
  refine w_cons (w_op2 (w_var rfl (w_tup (w_cons (w_c (w_nil ⟨Nat.le_of_ble_eq_true rfl, _, hadd _ [128] (by decide), ?_⟩))))))
  refine w_cons (w_op2 (w_var rfl (w_tup (w_cons (w_c (w_cons (w_c (w_nil ⟨Nat.le_of_ble_eq_true rfl, _, hadd _ [200, 0] (by decide), ?_⟩))))))))
  refine w_cons (w_op2 (w_var rfl (w_tup (w_cons (w_c (w_cons (w_c (w_nil ⟨Nat.le_of_ble_eq_true rfl, _, hadd _ [128, 0] (by decide), w_nil ⟨Nat.le_of_ble_eq_true rfl, xs.map od, rfl, ?_⟩⟩))))))))
  have hsmall : ∀ m : List Nat, (∀ x ∈ m, x < 256) → m.length ≤ 2 → (∀ x ∈ ah ++ m, x < 256) ∧ (ah ++ m).length ≤ 60 := fun m hm hl => ⟨fun x hx => (List.mem_append.mp hx).elim (hab x) (hm x), by rw [List.length_append]; omega⟩
  have hxs : ∀ l ∈ xs, (∀ x ∈ l, x < 256) ∧ l.length ≤ 60 := by
    intro l hl
    simp only [xs, List.mem_cons, List.not_mem_nil, or_false] at hl
    rcases hl with rfl | rfl | rfl | rfl | rfl | rfl
    · exact ⟨hocb, by omega⟩
    · exact ⟨fun x hx => hocb x (List.mem_of_mem_take hx), by rw [List.length_take]; omega⟩
    · exact ⟨fun x hx => hocb x (List.mem_of_mem_take hx), by rw [List.length_take]; omega⟩
    · exact hsmall [128] (by decide) (by decide)
    · exact hsmall [200, 0] (by decide) (by decide)
    · exact hsmall [128, 0] (by decide) (by decide)
  refine w_forX od xs (fun _ e st => e = E1 ns a2 (some (.int (n : Nat))) ah (groups n) oc none ∧ st = [c5]) ⟨rfl, rfl⟩ ?_ ?_
  · rintro pre l post e st hsp ⟨rfl, rfl⟩
    obtain ⟨q1, q2⟩ := hxs l (by rw [hsp]; simp)
    refine ⟨_, _, rfl, (law_f1 q1 q2).mono fun r s hr => ?_⟩
    obtain ⟨rfl, rfl⟩ := hr
    exact ⟨rfl, rfl⟩
  rintro e st ⟨rfl, rfl⟩
  -- checks
  refine w_then (w_set (w_call (w_cons (w_var rfl (w_cons (w_call (w_cons (w_var rfl (w_cons (w_c (w_nil ?_)))))))))))
  refine take_call hc5 rfl (by decide) (by decide) fun w c6 hc6 hw0 hw1 => ?_
  obtain ⟨w, rfl⟩ := Int.eq_ofNat_of_zero_le hw0
  refine w_nil (drawn_call hc6 rfl (by omega) fun so c7 hc7 hsl hsb => ?_)
  have ko := od_ok so
  have k0 : ∀ d ∈ [od so], D.ok d = true := by simpa using ko
  have hs1 : so.length ≤ 100000 := by omega
  refine w_then (w_sif (w_not (w_tv (w_call (w_cons (w_lst (w_cons (w_call (w_cons (w_var rfl (w_nil ⟨_, _, call_0 k0 (check_of_spec so) rfl, ?_⟩)))))))))))
  refine w_cons (w_call (w_cons (w_var rfl (w_nil ⟨_, _, call_0 k0 (sealed_spec hs1) (od_ok _), w_nil ⟨Nat.le_of_ble_eq_true rfl, ?_⟩⟩))))
  refine w_cons (w_lst (w_cons (w_call (w_cons (w_var rfl (w_nil ⟨_, _, call_0 k0 (law_check_spec so) rfl, ?_⟩))))))
  refine w_cons (w_call (w_cons (w_var rfl (w_nil ⟨_, _, call_0 k0 (law_sealed_spec hs1) (od_ok _), w_nil ⟨Nat.le_of_ble_eq_true rfl, w_nil ?_⟩⟩))))
  have hsl4 := sld_len so
  refine alike_call rfl ?_ ?_ ⟨true, rfl, fun z => (by cases z), fun _ => w_skip ?_⟩
  · show (okd 59 (.int ((ck so : Nat) : Int)) && (okd 59 (od (sld so)) && true)) = true
    rw [okd_le (od_okd (sld so)) (by decide)]; rfl
  · have : sz 60 (.lst [.int ((ck so : Nat) : Int), od (sld so)]) = 1 + (sz 59 (.int ((ck so : Nat) : Int)) + (sz 59 (od (sld so)) + 0)) := rfl
    rw [this, sz_od (sld so) 57]
    exact Nat.ble_eq_true_of_le (by show 1 + (1 + _) ≤ _; omega)
  refine w_then (w_set (w_call (w_cons (w_var rfl (w_nil ⟨_, _, call_0 k0 (law_sealed_spec hs1) (od_ok _), ?_⟩)))))
  generalize hwh : sld so = wh at *
  have hwb : ∀ x ∈ wh, x < 256 := fun x hx => by
    rw [← hwh] at hx
    rcases List.mem_append.mp hx with z | z
    · exact hsb x z
    · have hck := ck_lt so
      unfold four at z
      simp only [List.mem_cons, List.not_mem_nil, or_false] at z
      unfold MM at hck
      omega
  refine w_then (w_set (w_call (w_cons (w_var rfl (w_cons (w_opA (w_cons (w_var rfl (w_nil ⟨_, len_od wh, w_nil ?_⟩)))))))))
  refine take_call hc7 rfl (by omega) (by omega) fun p c8 hc8 hp0 hp1 => ?_
  obtain ⟨p, rfl⟩ := Int.eq_ofNat_of_zero_le hp0
  have hp1 : p < wh.length := by omega
  refine w_then (w_set (w_op2 (w_op2 (w_slice (w_var rfl (w_pnone (w_psome (w_var rfl ⟨_, rfl, _, slice_od wh _ _, ?_⟩))))))))
  rw [cut_to]
  have hmin : ∀ st, gMin2 st [.int 3, .int ((wh.length - p : Nat) : Int)] = some (.int ((min 3 (wh.length - p) : Nat) : Int)) := fun st => by
    show some (D.int (if ((wh.length - p : Nat) : Int) < 3 then _ else _)) = _
    congr 2
    split <;> omega
  refine w_call (w_cons (w_var rfl (w_cons (w_opA (w_cons (w_c (w_cons (w_op2 (w_opA (w_cons (w_var rfl (w_nil ⟨_, len_od wh, w_var rfl ⟨_, sub_nat (by omega), w_nil ⟨_, hmin _, w_nil ?_⟩⟩⟩))))))))))))
  refine drawn_call hc8 rfl (by omega) fun md c9 hc9 hml hmb => ⟨_, take_add (by rw [List.length_take]; omega), ?_⟩
  refine w_slice (w_var rfl (w_psome (w_op2 (w_var rfl (w_c ⟨_, add_nat p 3, _, rfl, w_pnone ⟨_, slice_od wh _ _, ?_⟩⟩)))))
  rw [cut_from]
  refine ⟨_, take_add (by rw [List.length_append, List.length_take, List.length_drop]; omega), ?_⟩
  generalize hod : wh.take p ++ md ++ wh.drop (p + 3) = odd
  have hol : odd.length = so.length + 4 := by
    rw [← hod, List.length_append, List.length_append, List.length_take, List.length_drop, hml]; omega
  have hob : ∀ x ∈ odd, x < 256 := fun x hx => by
    rw [← hod] at hx
    rcases List.mem_append.mp hx with z | z
    · rcases List.mem_append.mp z with y | y
      · exact hwb x (List.mem_of_mem_take y)
      · exact hmb x y
    · exact hwb x (List.mem_of_mem_drop z)
  have ht : odd.take p = wh.take p := by
    rw [← hod, List.append_assoc]
    have : (wh.take p).length = p := by rw [List.length_take]; omega
    conv => lhs; rw [← this]
    rw [List.take_append, this]
    simp [this, List.take_take]
  have hd : odd.drop (p + 3) = wh.drop (p + 3) := by
    by_cases hc : p + 3 ≤ wh.length
    · have : (wh.take p ++ md).length = p + 3 := by rw [List.length_append, List.length_take, hml]; omega
      rw [← hod, ← this, List.drop_left]
    · rw [List.drop_eq_nil_of_le (by omega), List.drop_eq_nil_of_le (by omega)]
  have hiff := sealed_iff (b := so) (odd := odd) (p := p) hsb hob hol (by rw [hwh]; exact ht) (by rw [hwh]; exact hd)
  rw [hwh] at hiff
  have hw1 : (decide (4 ≤ wh.length) && decide (sld (wh.take (wh.length - 4)) = wh)) = true := by
    rw [decide_eq_true (by omega : 4 ≤ wh.length), Bool.true_and]
    have := (sealed_iff (b := so) (odd := wh) (p := p) hsb hwb (by omega) (by rw [hwh]) (by rw [hwh])).mpr hwh.symm
    exact decide_eq_true this
  have iw := is_sealed_spec (l := wh) (by omega)
  rw [hw1] at iw
  refine w_sif (w_or (w_tv (w_op2 (w_call (w_cons (w_var rfl (w_nil ⟨_, _, call_0 (by simpa using od_ok wh) iw rfl, w_c ⟨.bl false, rfl, false, rfl, fun _ => ?_, fun z => (by cases z)⟩⟩)))))))
  have io := is_sealed_spec (l := odd) (by omega)
  have e4 : (decide (4 ≤ odd.length) && decide (sld (odd.take (odd.length - 4)) = odd)) = decide (odd = wh) := by
    rw [decide_eq_true (by omega : 4 ≤ odd.length), Bool.true_and]
    exact decide_eq_decide.mpr hiff
  rw [e4] at io
  refine w_not (w_tv (w_call (w_cons (w_call (w_cons (w_var rfl (w_nil ⟨_, _, call_0 (by simpa using od_ok odd) io rfl, w_cons (w_op2 (w_var rfl (w_var rfl ⟨_, eq_od _ _, w_nil ?_⟩)))⟩)))))))
  refine alike_call rfl rfl rfl ⟨true, rfl, fun z => (by cases z), fun _ => w_skip ⟨_, rfl, rfl, c9, rfl, hc9⟩⟩
theorem law_true (ns : List Int) (_ : ns.length ≤ 63) : ∃ st, F_law [.scr ns] [] = some (.ok (.bl true), st) := by
  refine ⟨[], fn_pure rfl rfl ?_⟩
  show WS b_law [some (.scr ns), none, none, none, none, none, none, none, none, none, none] [] _
  unfold b_law
  refine w_then (w_set (w_call (w_cons (w_var rfl (w_nil (bag_call fun c hc => ?_))))))
  refine w_then (w_for (w_range1 (w_c ⟨((10 : Nat) : Int), rfl, ⟨by decide, by decide⟩, ?_⟩)))
  refine w_forN 10 (fun _ e st => e = [some (.scr ns), some (.loc 0), none, none, none, none, none, none, none, none, none] ∧ ∃ c, st = [c] ∧ BagC c) ⟨rfl, c, rfl, hc⟩ ?_ ?_
  · rintro k e st hk ⟨rfl, c, rfl, hc⟩
    refine ⟨_, _, rfl, (law_f2 hc).mono fun r s hr => ?_⟩
    obtain ⟨e, rfl, h1, h2⟩ := hr
    exact ⟨h1, h2⟩
  · rintro e st ⟨rfl, c, rfl, hc⟩
    exact w_ret (w_c rfl)
end Sw.K38

namespace Sw.K38
open PySem PySem.Spec PyProof.Rows L2 Lib
instance : LamT := ⟨[]⟩
def top (i : Nat) : Stmt := PySem.Challenge.pw_smallwatchers_k38_octets_of_integers_and.main.body.getD i (.Pass ⟨0, 0, 0, 0⟩)
def fr : List Str := ["abs", "bool", "int", "isinstance", "len", "list", "min", "range", "str", "super", "tuple", "zip"]
def cs : List (Str × D) := [("MODULUS", g_MODULUS), ("FACTOR", g_FACTOR), ("GROUP", g_GROUP), ("HALF", g_HALF), ("CHECK", g_CHECK)]
def xs_BadBytes : Stmt := (clsB (top 3)).getD 0 (.Pass ⟨0, 0, 0, 0⟩)
def xd_BadBytes : XD := ⟨"BadBytes", ["index", "fault"], "self", "BadBytes.__init__", defArgs xs_BadBytes, defBody xs_BadBytes, defScope xs_BadBytes⟩
def xds : List XD := [xd_BadBytes]
theorem ok__wall {P : Program} {w : World} {K : Frag} {mg : Str → Option Value} {base : Heap} {f : Addr} {fd : FuncData} (MO : Mo K mg fr cs) (XM : XMo P w K mg base (xds.map fun d => (d.cls, d.fs))) (F : FunD K "_wall" "_wall" (defArgs (top 0)) (defBody (top 0)) (defScope (top 0)) [] [] f fd) (hm : mg "_wall" = some (.ref f))    :
    Callee P w K mg base "_wall" F__wall 1 2 :=
  callee_of (N := ["k"]) (ps := ["k"]) (k := 1) (c := b__wall) F hm (by kernel_rfl) (fun _ _ _ _ _ _ us hl => match us, hl with | [_], _ => rfl) fun cdv A outer s H E hN hr => by
    have hu := room66 hr
    have hu1 := room1 hr
    have hc : (cxOf (L2.CX P w) P w K mg base ["k"] "_wall" (defScope (top 0)) f cdv A outer s H E).calm = true := rfl
    exact (rs_one (rs_while (fun _ _ => passes_of rfl) (rt_val re_bl)
  (rs_one rs_pass)))
theorem ok_integer_octets {P : Program} {w : World} {K : Frag} {mg : Str → Option Value} {base : Heap} {f : Addr} {fd : FuncData} (MO : Mo K mg fr cs) (XM : XMo P w K mg base (xds.map fun d => (d.cls, d.fs))) (F : FunD K "integer_octets" "integer_octets" (defArgs (top 10)) (defBody (top 10)) (defScope (top 10)) [] [] f fd) (hm : mg "integer_octets" = some (.ref f))    :
    Callee P w K mg base "integer_octets" F_integer_octets 1 2 :=
  callee_of (N := ["number", "found"]) (ps := ["number"]) (k := 1) (c := b_integer_octets) F hm (by kernel_rfl) (fun _ _ _ _ _ _ us hl => match us, hl with | [_], _ => rfl) fun cdv A outer s H E hN hr => by
    have hu := room66 hr
    have hu1 := room1 hr
    have hc : (cxOf (L2.CX P w) P w K mg base ["number", "found"] "integer_octets" (defScope (top 10)) f cdv A outer s H E).calm = true := rfl
    exact (rs_cons (f_set (i := 1) hN (by kernel_rfl) (.inl rfl) (re_lstC ra_nil))
  (rs_cons (rs_while (fun _ _ => passes_of rfl) (rt_cmp o_ge isB_ge (f_v (i := 0) (by kernel_rfl)) (f_glob MO 3 rfl (by kernel_rfl) (by kernel_rfl)))
  (rs_cons (rs_do (re_bm PySem.F.plainAttrs_list PySem.F.slot_list_append PySem.F.type_list_append (by decide) m_append (f_v (i := 1) (by kernel_rfl)) (ra_cons (re_op o_add (f_glob MO 3 rfl (by kernel_rfl) (by kernel_rfl)) (re_op o_and (f_v (i := 0) (by kernel_rfl)) (re_op o_sub (f_glob MO 3 rfl (by kernel_rfl) (by kernel_rfl)) re_int))) ra_nil)))
  (rs_one (f_aug (i := 0) hN (by kernel_rfl) (.inl rfl) ip_aShr (f_glob MO 2 rfl (by kernel_rfl) (by kernel_rfl))))))
  (rs_one (rs_ret (re_tup (ra_star (f_v (i := 1) (by kernel_rfl)) (ra_cons (f_v (i := 0) (by kernel_rfl)) ra_nil)))))))
theorem ok_bits_of {P : Program} {w : World} {K : Frag} {mg : Str → Option Value} {base : Heap} {f : Addr} {fd : FuncData} (MO : Mo K mg fr cs) (XM : XMo P w K mg base (xds.map fun d => (d.cls, d.fs))) (F : FunD K "bits_of" "bits_of" (defArgs (top 11)) (defBody (top 11)) (defScope (top 11)) [] [] f fd) (hm : mg "bits_of" = some (.ref f))    :
    Callee P w K mg base "bits_of" F_bits_of 1 2 :=
  callee_of (N := ["octet", ".0", "at"]) (ps := ["octet"]) (k := 1) (c := b_bits_of) F hm (by kernel_rfl) (fun _ _ _ _ _ _ us hl => match us, hl with | [_], _ => rfl) fun cdv A outer s H E hN hr => by
    have hu := room66 hr
    have hu1 := room1 hr
    have hc : (cxOf (L2.CX P w) P w K mg base ["octet", ".0", "at"] "bits_of" (defScope (top 11)) f cdv A outer s H E).calm = true := rfl
    exact (rs_one (rs_ret (re_bm PySem.F.plainAttrs_str PySem.F.slot_str_join PySem.F.type_str_join (by decide) m_join (f_s (by kernel_rfl)) (ra_cons (re_lc (own := [(".0", 1), ("at", 2)]) hc hN (ri_range1 (gl_of (by kernel_rfl)) (MO.free "range" (by kernel_rfl)) (ra_cons (f_glob MO 2 rfl (by kernel_rfl) (by kernel_rfl)) ra_nil)) (blkB_ok (by kernel_rfl)) (fun _ _ _ _ _ => (f_gnamew (i := 2) (by kernel_rfl) hN (by kernel_rfl) (.inr (eqK_ok (by kernel_rfl))))) (fun _ _ _ _ _ => rts_nil) (fun _ _ _ _ _ => (re_if (rt_val (re_op o_and (f_v (i := 0) (by kernel_rfl)) (re_op o_shr (re_op o_div (f_glob MO 3 rfl (by kernel_rfl) (by kernel_rfl)) re_int) (f_v (i := 2) (by kernel_rfl))))) (f_s (by kernel_rfl)) (f_s (by kernel_rfl))))) ra_nil))))
theorem ok_check_of {P : Program} {w : World} {K : Frag} {mg : Str → Option Value} {base : Heap} {f : Addr} {fd : FuncData} (MO : Mo K mg fr cs) (XM : XMo P w K mg base (xds.map fun d => (d.cls, d.fs))) (F : FunD K "check_of" "check_of" (defArgs (top 13)) (defBody (top 13)) (defScope (top 13)) [] [] f fd) (hm : mg "check_of" = some (.ref f))    :
    Callee P w K mg base "check_of" F_check_of 1 2 :=
  callee_of (N := ["octets", "found", "octet"]) (ps := ["octets"]) (k := 1) (c := b_check_of) F hm (by kernel_rfl) (fun _ _ _ _ _ _ us hl => match us, hl with | [_], _ => rfl) fun cdv A outer s H E hN hr => by
    have hu := room66 hr
    have hu1 := room1 hr
    have hc : (cxOf (L2.CX P w) P w K mg base ["octets", "found", "octet"] "check_of" (defScope (top 13)) f cdv A outer s H E).calm = true := rfl
    exact (rs_cons (f_set (i := 1) hN (by kernel_rfl) (.inl rfl) re_int)
  (rs_cons (rs_for (vs := [2]) (fun _ _ => passes_of rfl) hc (ri_seq (f_v (i := 0) (by kernel_rfl))) (f_gname (i := 2) hN (by kernel_rfl) (.inl rfl))
  (rs_one (f_set (i := 1) hN (by kernel_rfl) (.inl rfl) (re_op o_mod (re_op o_add (re_op o_add (re_op o_mul (f_v (i := 1) (by kernel_rfl)) (f_glob MO 1 rfl (by kernel_rfl) (by kernel_rfl))) (f_v (i := 2) (by kernel_rfl))) re_int) (f_glob MO 0 rfl (by kernel_rfl) (by kernel_rfl))))))
  (rs_one (rs_ret (f_v (i := 1) (by kernel_rfl))))))
theorem ok__law_bag {P : Program} {w : World} {K : Frag} {mg : Str → Option Value} {base : Heap} {f : Addr} {fd : FuncData} (MO : Mo K mg fr cs) (XM : XMo P w K mg base (xds.map fun d => (d.cls, d.fs))) (F : FunD K "_law_bag" "_law_bag" (defArgs (top 17)) (defBody (top 17)) (defScope (top 17)) [] [] f fd) (hm : mg "_law_bag" = some (.ref f))    :
    Callee P w K mg base "_law_bag" F__law_bag 1 2 :=
  callee_of (N := ["script", ".0", "cell"]) (ps := ["script"]) (k := 1) (c := b__law_bag) F hm (by kernel_rfl) (fun _ _ _ _ _ _ us hl => match us, hl with | [_], _ => rfl) fun cdv A outer s H E hN hr => by
    have hu := room66 hr
    have hu1 := room1 hr
    have hc : (cxOf (L2.CX P w) P w K mg base ["script", ".0", "cell"] "_law_bag" (defScope (top 17)) f cdv A outer s H E).calm = true := rfl
    exact (rs_one (rs_ret (re_lstC (ra_cons re_int (ra_cons re_int (ra_cons re_int (ra_cons (re_lc (own := [(".0", 1), ("cell", 2)]) hc hN (ri_seq (re_slice (f_v (i := 0) (by kernel_rfl)) ro_none (ro_some re_int))) (blkB_ok (by kernel_rfl)) (fun _ _ _ _ _ => (f_gnamew (i := 2) (by kernel_rfl) hN (by kernel_rfl) (.inr (eqK_ok (by kernel_rfl))))) (fun _ _ _ _ _ => rts_nil) (fun _ _ _ _ _ => (re_bi c_abs (gl_of (by kernel_rfl)) (MO.free "abs" (by kernel_rfl)) rfl (ra_cons (f_v (i := 2) (by kernel_rfl)) ra_nil)))) ra_nil)))))))
theorem ok__law_take {P : Program} {w : World} {K : Frag} {mg : Str → Option Value} {base : Heap} {f : Addr} {fd : FuncData} (MO : Mo K mg fr cs) (XM : XMo P w K mg base (xds.map fun d => (d.cls, d.fs))) (F : FunD K "_law_take" "_law_take" (defArgs (top 18)) (defBody (top 18)) (defScope (top 18)) [] [] f fd) (hm : mg "_law_take" = some (.ref f))    :
    Callee P w K mg base "_law_take" F__law_take 2 2 :=
  callee_of (N := ["bag", "many", "cell", "stirred", "value", "begin", "second"]) (ps := ["bag", "many"]) (k := 1) (c := b__law_take) F hm (by kernel_rfl) (fun _ _ _ _ _ _ us hl => match us, hl with | [_, _], _ => rfl) fun cdv A outer s H E hN hr => by
    have hu := room66 hr
    have hu1 := room1 hr
    have hc : (cxOf (L2.CX P w) P w K mg base ["bag", "many", "cell", "stirred", "value", "begin", "second"] "_law_take" (defScope (top 18)) f cdv A outer s H E).calm = true := rfl
    exact (rs_cons (rs_if (rt_cmp (o_eq hu) isB_eq (re_ix hu1 (f_v (i := 0) (by kernel_rfl)) re_int) re_int)
  (rs_cons (f_set (i := 2) hN (by kernel_rfl) (.inl rfl) (re_ix hu1 (re_op o_add (re_slice (re_ix hu1 (f_v (i := 0) (by kernel_rfl)) re_int) (ro_some (re_ix hu1 (f_v (i := 0) (by kernel_rfl)) re_int)) ro_none) (re_lst (ra_cons re_int ra_nil))) re_int))
  (rs_cons (rs_augS hu1 (f_v (i := 0) (by kernel_rfl)) re_int re_int ip_aAdd)
  (rs_cons (rs_if (rt_cmp o_ge isB_ge (f_v (i := 2) (by kernel_rfl)) (re_op o_pow re_int re_int))
  (rs_one (rs_asg (f_v (i := 2) (by kernel_rfl)) (rg_sub hu1 (f_v (i := 0) (by kernel_rfl)) re_int)))
  rs_nil)
  (rs_cons (f_set (i := 3) hN (by kernel_rfl) (.inl rfl) (re_op o_add (re_op o_add (re_op o_mul (re_ix hu1 (f_v (i := 0) (by kernel_rfl)) re_int) re_int) (re_op o_mod (re_ty c_int (gl_of (by kernel_rfl)) (MO.free "int" (by kernel_rfl)) rfl (ra_cons (f_v (i := 2) (by kernel_rfl)) ra_nil)) re_int)) (re_op o_mul re_int (re_ix hu1 (f_v (i := 0) (by kernel_rfl)) re_int))))
  (rs_one (rs_asg (re_op o_mod (re_ty c_int (gl_of (by kernel_rfl)) (MO.free "int" (by kernel_rfl)) rfl (ra_cons (f_v (i := 3) (by kernel_rfl)) ra_nil)) re_int) (rg_sub hu1 (f_v (i := 0) (by kernel_rfl)) re_int)))))))
  rs_nil)
  (rs_cons (rs_if (rt_cmp o_gt isB_gt (re_ix hu1 (f_v (i := 0) (by kernel_rfl)) re_int) re_int)
  (rs_cons (f_set (i := 4) hN (by kernel_rfl) (.inl rfl) (re_op o_mod (re_ty c_int (gl_of (by kernel_rfl)) (MO.free "int" (by kernel_rfl)) rfl (ra_cons (re_ix hu1 (f_v (i := 0) (by kernel_rfl)) re_int) ra_nil)) (f_v (i := 1) (by kernel_rfl))))
  (rs_cons (rs_asg (re_op o_div (re_ty c_int (gl_of (by kernel_rfl)) (MO.free "int" (by kernel_rfl)) rfl (ra_cons (re_ix hu1 (f_v (i := 0) (by kernel_rfl)) re_int) ra_nil)) (f_v (i := 1) (by kernel_rfl))) (rg_sub hu1 (f_v (i := 0) (by kernel_rfl)) re_int))
  (rs_one (rs_ret (f_v (i := 4) (by kernel_rfl))))))
  rs_nil)
  (rs_cons (f_set (i := 5) hN (by kernel_rfl) (.inl rfl) (re_op o_mod (re_ty c_int (gl_of (by kernel_rfl)) (MO.free "int" (by kernel_rfl)) rfl (ra_cons (re_op o_mul (re_op o_add (re_ix hu1 (f_v (i := 0) (by kernel_rfl)) re_int) re_int) re_int) ra_nil)) re_int))
  (rs_cons (f_set (i := 6) hN (by kernel_rfl) (.inl rfl) (re_op o_mod (re_ty c_int (gl_of (by kernel_rfl)) (MO.free "int" (by kernel_rfl)) rfl (ra_cons (re_op o_mul (re_op o_mod (re_ty c_int (gl_of (by kernel_rfl)) (MO.free "int" (by kernel_rfl)) rfl (ra_cons (re_op o_mul (f_v (i := 5) (by kernel_rfl)) (f_v (i := 5) (by kernel_rfl))) ra_nil)) re_int) re_int) ra_nil)) re_int))
  (rs_one (rs_ret (re_op o_mod (re_ty c_int (gl_of (by kernel_rfl)) (MO.free "int" (by kernel_rfl)) rfl (ra_cons (re_op o_div (f_v (i := 6) (by kernel_rfl)) re_int) ra_nil)) (f_v (i := 1) (by kernel_rfl)))))))))
theorem ok__law_alike {P : Program} {w : World} {K : Frag} {mg : Str → Option Value} {base : Heap} {f : Addr} {fd : FuncData} (MO : Mo K mg fr cs) (XM : XMo P w K mg base (xds.map fun d => (d.cls, d.fs))) (F : FunD K "_law_alike" "_law_alike" (defArgs (top 20)) (defBody (top 20)) (defScope (top 20)) [] [] f fd) (hm : mg "_law_alike" = some (.ref f))    :
    Callee P w K mg base "_law_alike" F__law_alike 2 2 :=
  callee_of (N := ["found", "due", "pairs", "at", "one", "other"]) (ps := ["found", "due"]) (k := 1) (c := b__law_alike) F hm (by kernel_rfl) (fun _ _ _ _ _ _ us hl => match us, hl with | [_, _], _ => rfl) fun cdv A outer s H E hN hr => by
    have hu := room66 hr
    have hu1 := room1 hr
    have hc : (cxOf (L2.CX P w) P w K mg base ["found", "due", "pairs", "at", "one", "other"] "_law_alike" (defScope (top 20)) f cdv A outer s H E).calm = true := rfl
    exact (rs_cons (f_par (i := 2) (j := 3) hc hN (by kernel_rfl) (by kernel_rfl) (by kernel_rfl) (ra_cons (re_lstC (ra_cons (re_tup (ra_cons (f_v (i := 0) (by kernel_rfl)) (ra_cons (f_v (i := 1) (by kernel_rfl)) ra_nil))) ra_nil)) (ra_cons re_int ra_nil)))
  (rs_cons (rs_while (fun _ _ => passes_of rfl) (rt_cmp o_lt isB_lt (f_v (i := 3) (by kernel_rfl)) (re_bi c_len (gl_of (by kernel_rfl)) (MO.free "len" (by kernel_rfl)) rfl (ra_cons (f_v (i := 2) (by kernel_rfl)) ra_nil)))
  (rs_cons (rs_asg (re_ix hu1 (f_v (i := 2) (by kernel_rfl)) (f_v (i := 3) (by kernel_rfl))) (rg_tup hc (rgs_cons (f_gname (i := 4) hN (by kernel_rfl) (.inl rfl)) (rgs_cons (f_gname (i := 5) hN (by kernel_rfl) (.inl rfl)) rgs_nil))))
  (rs_cons (f_aug (i := 3) hN (by kernel_rfl) (.inl rfl) ip_aAdd re_int)
  (rs_cons (rs_if (rt_w (rw_or (rt_cmp (o_ne hu) isB_ne (re_isi (f_v (i := 4) (by kernel_rfl)) (gl_of (by kernel_rfl)) (MO.free "isinstance" (by kernel_rfl)) (gl_of (by kernel_rfl)) (MO.free "bool" (by kernel_rfl)) rfl) (re_isi (f_v (i := 5) (by kernel_rfl)) (gl_of (by kernel_rfl)) (MO.free "isinstance" (by kernel_rfl)) (gl_of (by kernel_rfl)) (MO.free "bool" (by kernel_rfl)) rfl)) (rw_or1 (rt_cmp (o_ne hu) isB_ne (re_isi (f_v (i := 4) (by kernel_rfl)) (gl_of (by kernel_rfl)) (MO.free "isinstance" (by kernel_rfl)) (gl_of (by kernel_rfl)) (MO.free "str" (by kernel_rfl)) rfl) (re_isi (f_v (i := 5) (by kernel_rfl)) (gl_of (by kernel_rfl)) (MO.free "isinstance" (by kernel_rfl)) (gl_of (by kernel_rfl)) (MO.free "str" (by kernel_rfl)) rfl)))))
  (rs_one (rs_ret re_bl))
  rs_nil)
  (rs_cons (rs_if (rt_cmp (o_ne hu) isB_ne (re_isi2 (f_v (i := 4) (by kernel_rfl)) (gl_of (by kernel_rfl)) (MO.free "isinstance" (by kernel_rfl)) (gl_of (by kernel_rfl)) (MO.free "tuple" (by kernel_rfl)) rfl (gl_of (by kernel_rfl)) (MO.free "list" (by kernel_rfl)) rfl) (re_isi2 (f_v (i := 5) (by kernel_rfl)) (gl_of (by kernel_rfl)) (MO.free "isinstance" (by kernel_rfl)) (gl_of (by kernel_rfl)) (MO.free "tuple" (by kernel_rfl)) rfl (gl_of (by kernel_rfl)) (MO.free "list" (by kernel_rfl)) rfl))
  (rs_one (rs_ret re_bl))
  rs_nil)
  (rs_one (rs_if (rt_val (re_isi2 (f_v (i := 4) (by kernel_rfl)) (gl_of (by kernel_rfl)) (MO.free "isinstance" (by kernel_rfl)) (gl_of (by kernel_rfl)) (MO.free "tuple" (by kernel_rfl)) rfl (gl_of (by kernel_rfl)) (MO.free "list" (by kernel_rfl)) rfl))
  (rs_cons (rs_if (rt_w (rw_or (rt_cmp (o_ne hu) isB_ne (re_isi (f_v (i := 4) (by kernel_rfl)) (gl_of (by kernel_rfl)) (MO.free "isinstance" (by kernel_rfl)) (gl_of (by kernel_rfl)) (MO.free "tuple" (by kernel_rfl)) rfl) (re_isi (f_v (i := 5) (by kernel_rfl)) (gl_of (by kernel_rfl)) (MO.free "isinstance" (by kernel_rfl)) (gl_of (by kernel_rfl)) (MO.free "tuple" (by kernel_rfl)) rfl)) (rw_or1 (rt_cmp (o_ne hu) isB_ne (re_bi c_len (gl_of (by kernel_rfl)) (MO.free "len" (by kernel_rfl)) rfl (ra_cons (f_v (i := 4) (by kernel_rfl)) ra_nil)) (re_bi c_len (gl_of (by kernel_rfl)) (MO.free "len" (by kernel_rfl)) rfl (ra_cons (f_v (i := 5) (by kernel_rfl)) ra_nil))))))
  (rs_one (rs_ret re_bl))
  rs_nil)
  (rs_one (rs_do (re_bm PySem.F.plainAttrs_list PySem.F.slot_list_extend PySem.F.type_list_extend (by decide) m_extend (f_v (i := 2) (by kernel_rfl)) (ra_cons (re_listzip hc (gl_of (by kernel_rfl)) (MO.free "list" (by kernel_rfl)) (gl_of (by kernel_rfl)) (MO.free "zip" (by kernel_rfl)) (f_v (i := 4) (by kernel_rfl)) (f_v (i := 5) (by kernel_rfl))) ra_nil)))))
  (rs_one (rs_if (rt_cmp (o_ne hu) isB_ne (f_v (i := 4) (by kernel_rfl)) (f_v (i := 5) (by kernel_rfl)))
  (rs_one (rs_ret re_bl))
  rs_nil)))))))))
  (rs_one (rs_ret re_bl))))
theorem ok__law_integer {P : Program} {w : World} {K : Frag} {mg : Str → Option Value} {base : Heap} {f : Addr} {fd : FuncData} (MO : Mo K mg fr cs) (XM : XMo P w K mg base (xds.map fun d => (d.cls, d.fs))) (F : FunD K "_law_integer" "_law_integer" (defArgs (top 21)) (defBody (top 21)) (defScope (top 21)) [] [] f fd) (hm : mg "_law_integer" = some (.ref f))    :
    Callee P w K mg base "_law_integer" F__law_integer 1 2 :=
  callee_of (N := ["number", "found"]) (ps := ["number"]) (k := 1) (c := b__law_integer) F hm (by kernel_rfl) (fun _ _ _ _ _ _ us hl => match us, hl with | [_], _ => rfl) fun cdv A outer s H E hN hr => by
    have hu := room66 hr
    have hu1 := room1 hr
    have hc : (cxOf (L2.CX P w) P w K mg base ["number", "found"] "_law_integer" (defScope (top 21)) f cdv A outer s H E).calm = true := rfl
    exact (rs_cons (f_set (i := 1) hN (by kernel_rfl) (.inl rfl) (re_lstC ra_nil))
  (rs_cons (rs_while (fun _ _ => passes_of rfl) (rt_cmp o_gt isB_gt (f_v (i := 0) (by kernel_rfl)) re_int)
  (rs_cons (rs_do (re_bm PySem.F.plainAttrs_list PySem.F.slot_list_append PySem.F.type_list_append (by decide) m_append (f_v (i := 1) (by kernel_rfl)) (ra_cons (re_op o_add re_int (re_op o_mod (re_ty c_int (gl_of (by kernel_rfl)) (MO.free "int" (by kernel_rfl)) rfl (ra_cons (f_v (i := 0) (by kernel_rfl)) ra_nil)) re_int)) ra_nil)))
  (rs_one (f_set (i := 0) hN (by kernel_rfl) (.inl rfl) (re_op o_div (re_ty c_int (gl_of (by kernel_rfl)) (MO.free "int" (by kernel_rfl)) rfl (ra_cons (f_v (i := 0) (by kernel_rfl)) ra_nil)) re_int)))))
  (rs_one (rs_ret (re_ty c_tuple (gl_of (by kernel_rfl)) (MO.free "tuple" (by kernel_rfl)) rfl (ra_cons (re_op o_add (f_v (i := 1) (by kernel_rfl)) (re_lst (ra_cons (f_v (i := 0) (by kernel_rfl)) ra_nil))) ra_nil))))))
theorem ok__law_check {P : Program} {w : World} {K : Frag} {mg : Str → Option Value} {base : Heap} {f : Addr} {fd : FuncData} (MO : Mo K mg fr cs) (XM : XMo P w K mg base (xds.map fun d => (d.cls, d.fs))) (F : FunD K "_law_check" "_law_check" (defArgs (top 22)) (defBody (top 22)) (defScope (top 22)) [] [] f fd) (hm : mg "_law_check" = some (.ref f))    :
    Callee P w K mg base "_law_check" F__law_check 1 2 :=
  callee_of (N := ["octets", "found", "octet"]) (ps := ["octets"]) (k := 1) (c := b__law_check) F hm (by kernel_rfl) (fun _ _ _ _ _ _ us hl => match us, hl with | [_], _ => rfl) fun cdv A outer s H E hN hr => by
    have hu := room66 hr
    have hu1 := room1 hr
    have hc : (cxOf (L2.CX P w) P w K mg base ["octets", "found", "octet"] "_law_check" (defScope (top 22)) f cdv A outer s H E).calm = true := rfl
    exact (rs_cons (f_set (i := 1) hN (by kernel_rfl) (.inl rfl) re_int)
  (rs_cons (rs_for (vs := [2]) (fun _ _ => passes_of rfl) hc (ri_seq (f_v (i := 0) (by kernel_rfl))) (f_gname (i := 2) hN (by kernel_rfl) (.inl rfl))
  (rs_one (f_set (i := 1) hN (by kernel_rfl) (.inl rfl) (re_op o_mod (re_ty c_int (gl_of (by kernel_rfl)) (MO.free "int" (by kernel_rfl)) rfl (ra_cons (re_op o_add (re_op o_add (re_op o_mul (f_v (i := 1) (by kernel_rfl)) re_int) (f_v (i := 2) (by kernel_rfl))) re_int) ra_nil)) re_int))))
  (rs_one (rs_ret (f_v (i := 1) (by kernel_rfl))))))
theorem ok_read_integer {P : Program} {w : World} {K : Frag} {mg : Str → Option Value} {base : Heap} {f : Addr} {fd : FuncData} (MO : Mo K mg fr cs) (XM : XMo P w K mg base (xds.map fun d => (d.cls, d.fs))) (F : FunD K "read_integer" "read_integer" (defArgs (top 12)) (defBody (top 12)) (defScope (top 12)) [] [] f fd) (hm : mg "read_integer" = some (.ref f))   (C_bits_of : Callee P w K mg base "bits_of" F_bits_of 1 2) :
    Callee P w K mg base "read_integer" F_read_integer 2 3 :=
  callee_of (N := ["octets", "place", "at", ".0", "octet"]) (ps := ["octets", "place"]) (k := 2) (c := b_read_integer) F hm (by kernel_rfl) (fun _ _ _ _ _ _ us hl => match us, hl with | [_, _], _ => rfl) fun cdv A outer s H E hN hr => by
    have hu := room66 hr
    have hu1 := room1 hr
    have hc : (cxOf (L2.CX P w) P w K mg base ["octets", "place", "at", ".0", "octet"] "read_integer" (defScope (top 12)) f cdv A outer s H E).calm = true := rfl
    exact (rs_cons (f_set (i := 2) hN (by kernel_rfl) (.inl rfl) (f_v (i := 1) (by kernel_rfl)))
  (rs_cons (rs_while (fun _ _ => passes_of rfl) (rt_w (rw_and (rt_cmp o_lt isB_lt (f_v (i := 2) (by kernel_rfl)) (re_bi c_len (gl_of (by kernel_rfl)) (MO.free "len" (by kernel_rfl)) rfl (ra_cons (f_v (i := 0) (by kernel_rfl)) ra_nil))) (rw_and1 (rt_cmp o_ge isB_ge (re_ix hu1 (f_v (i := 0) (by kernel_rfl)) (f_v (i := 2) (by kernel_rfl))) (f_glob MO 3 rfl (by kernel_rfl) (by kernel_rfl))))))
  (rs_one (f_aug (i := 2) hN (by kernel_rfl) (.inl rfl) ip_aAdd re_int)))
  (rs_cons (rs_if (rt_w (rw_or (rt_cmp (o_eq hu) isB_eq (f_v (i := 2) (by kernel_rfl)) (re_bi c_len (gl_of (by kernel_rfl)) (MO.free "len" (by kernel_rfl)) rfl (ra_cons (f_v (i := 0) (by kernel_rfl)) ra_nil))) (rw_or1 (rt_w (rw_and (rt_cmp (o_eq hu) isB_eq (re_ix hu1 (f_v (i := 0) (by kernel_rfl)) (f_v (i := 2) (by kernel_rfl))) re_int) (rw_and1 (rt_cmp o_gt isB_gt (f_v (i := 2) (by kernel_rfl)) (f_v (i := 1) (by kernel_rfl)))))))))
  (rs_one (f_raise XM 0 rfl hc (hr.mono (by decide)) (by kernel_rfl) (ra_cons (f_v (i := 1) (by kernel_rfl)) (ra_cons (f_s (by kernel_rfl)) ra_nil)) (by kernel_rfl)))
  rs_nil)
  (rs_one (rs_ret (re_tup (ra_cons (re_ty c_int2 (gl_of (by kernel_rfl)) (MO.free "int" (by kernel_rfl)) rfl (ra_cons (re_bm PySem.F.plainAttrs_str PySem.F.slot_str_join PySem.F.type_str_join (by decide) m_join (f_s (by kernel_rfl)) (ra_cons (re_lc (own := [(".0", 3), ("octet", 4)]) hc hN (ri_seq (re_rev (re_slice (f_v (i := 0) (by kernel_rfl)) (ro_some (f_v (i := 1) (by kernel_rfl))) (ro_some (re_op o_add (f_v (i := 2) (by kernel_rfl)) re_int))))) (blkB_ok (by kernel_rfl)) (fun _ _ _ _ _ => (f_gnamew (i := 4) (by kernel_rfl) hN (by kernel_rfl) (.inr (eqK_ok (by kernel_rfl))))) (fun _ _ _ _ _ => rts_nil) (fun _ _ _ _ _ => (f_call C_bits_of hr (by kernel_rfl) (by kernel_rfl) (ra_cons (f_v (i := 4) (by kernel_rfl)) ra_nil)))) ra_nil)) (ra_cons re_int ra_nil))) (ra_cons (re_op o_add (f_v (i := 2) (by kernel_rfl)) re_int) ra_nil))))))))
theorem ok_sealed {P : Program} {w : World} {K : Frag} {mg : Str → Option Value} {base : Heap} {f : Addr} {fd : FuncData} (MO : Mo K mg fr cs) (XM : XMo P w K mg base (xds.map fun d => (d.cls, d.fs))) (F : FunD K "sealed" "sealed" (defArgs (top 14)) (defBody (top 14)) (defScope (top 14)) [] [] f fd) (hm : mg "sealed" = some (.ref f))   (C_check_of : Callee P w K mg base "check_of" F_check_of 1 2) :
    Callee P w K mg base "sealed" F_sealed 1 3 :=
  callee_of (N := ["octets", "check"]) (ps := ["octets"]) (k := 2) (c := b_sealed) F hm (by kernel_rfl) (fun _ _ _ _ _ _ us hl => match us, hl with | [_], _ => rfl) fun cdv A outer s H E hN hr => by
    have hu := room66 hr
    have hu1 := room1 hr
    have hc : (cxOf (L2.CX P w) P w K mg base ["octets", "check"] "sealed" (defScope (top 14)) f cdv A outer s H E).calm = true := rfl
    exact (rs_cons (f_set (i := 1) hN (by kernel_rfl) (.inl rfl) (f_call C_check_of hr (by kernel_rfl) (by kernel_rfl) (ra_cons (f_v (i := 0) (by kernel_rfl)) ra_nil)))
  (rs_one (rs_ret (re_tup (ra_star (f_v (i := 0) (by kernel_rfl)) (ra_cons (re_op o_shr (f_v (i := 1) (by kernel_rfl)) re_int) (ra_cons (re_op o_and (re_op o_shr (f_v (i := 1) (by kernel_rfl)) re_int) re_int) (ra_cons (re_op o_and (re_op o_shr (f_v (i := 1) (by kernel_rfl)) re_int) re_int) (ra_cons (re_op o_and (f_v (i := 1) (by kernel_rfl)) re_int) ra_nil)))))))))
theorem ok__law_some {P : Program} {w : World} {K : Frag} {mg : Str → Option Value} {base : Heap} {f : Addr} {fd : FuncData} (MO : Mo K mg fr cs) (XM : XMo P w K mg base (xds.map fun d => (d.cls, d.fs))) (F : FunD K "_law_some" "_law_some" (defArgs (top 19)) (defBody (top 19)) (defScope (top 19)) [] [] f fd) (hm : mg "_law_some" = some (.ref f))   (C__law_take : Callee P w K mg base "_law_take" F__law_take 2 2) :
    Callee P w K mg base "_law_some" F__law_some 2 3 :=
  callee_of (N := ["bag", "things"]) (ps := ["bag", "things"]) (k := 2) (c := b__law_some) F hm (by kernel_rfl) (fun _ _ _ _ _ _ us hl => match us, hl with | [_, _], _ => rfl) fun cdv A outer s H E hN hr => by
    have hu := room66 hr
    have hu1 := room1 hr
    have hc : (cxOf (L2.CX P w) P w K mg base ["bag", "things"] "_law_some" (defScope (top 19)) f cdv A outer s H E).calm = true := rfl
    exact (rs_one (rs_ret (re_ix hu1 (f_v (i := 1) (by kernel_rfl)) (f_call C__law_take hr (by kernel_rfl) (by kernel_rfl) (ra_cons (f_v (i := 0) (by kernel_rfl)) (ra_cons (re_bi c_len (gl_of (by kernel_rfl)) (MO.free "len" (by kernel_rfl)) rfl (ra_cons (f_v (i := 1) (by kernel_rfl)) ra_nil)) ra_nil))))))
theorem ok__law_sealed {P : Program} {w : World} {K : Frag} {mg : Str → Option Value} {base : Heap} {f : Addr} {fd : FuncData} (MO : Mo K mg fr cs) (XM : XMo P w K mg base (xds.map fun d => (d.cls, d.fs))) (F : FunD K "_law_sealed" "_law_sealed" (defArgs (top 23)) (defBody (top 23)) (defScope (top 23)) [] [] f fd) (hm : mg "_law_sealed" = some (.ref f))   (C__law_check : Callee P w K mg base "_law_check" F__law_check 1 2) :
    Callee P w K mg base "_law_sealed" F__law_sealed 1 3 :=
  callee_of (N := ["octets", "check", "found", "place"]) (ps := ["octets"]) (k := 2) (c := b__law_sealed) F hm (by kernel_rfl) (fun _ _ _ _ _ _ us hl => match us, hl with | [_], _ => rfl) fun cdv A outer s H E hN hr => by
    have hu := room66 hr
    have hu1 := room1 hr
    have hc : (cxOf (L2.CX P w) P w K mg base ["octets", "check", "found", "place"] "_law_sealed" (defScope (top 23)) f cdv A outer s H E).calm = true := rfl
    exact (rs_cons (f_par (i := 1) (j := 2) hc hN (by kernel_rfl) (by kernel_rfl) (by kernel_rfl) (ra_cons (f_call C__law_check hr (by kernel_rfl) (by kernel_rfl) (ra_cons (f_v (i := 0) (by kernel_rfl)) ra_nil)) (ra_cons (re_lstC ra_nil) ra_nil)))
  (rs_cons (rs_for (vs := [3]) (fun _ _ => passes_of rfl) hc (ri_range1 (gl_of (by kernel_rfl)) (MO.free "range" (by kernel_rfl)) (ra_cons re_int ra_nil)) (f_gname (i := 3) hN (by kernel_rfl) (.inl rfl))
  (rs_cons (rs_do (re_bm PySem.F.plainAttrs_list PySem.F.slot_list_append PySem.F.type_list_append (by decide) m_append (f_v (i := 2) (by kernel_rfl)) (ra_cons (re_op o_mod (re_ty c_int (gl_of (by kernel_rfl)) (MO.free "int" (by kernel_rfl)) rfl (ra_cons (f_v (i := 1) (by kernel_rfl)) ra_nil)) re_int) ra_nil)))
  (rs_one (f_set (i := 1) hN (by kernel_rfl) (.inl rfl) (re_op o_div (re_ty c_int (gl_of (by kernel_rfl)) (MO.free "int" (by kernel_rfl)) rfl (ra_cons (f_v (i := 1) (by kernel_rfl)) ra_nil)) re_int)))))
  (rs_one (rs_ret (re_op o_add (re_ty c_tuple (gl_of (by kernel_rfl)) (MO.free "tuple" (by kernel_rfl)) rfl (ra_cons (f_v (i := 0) (by kernel_rfl)) ra_nil)) (re_ty c_tuple (gl_of (by kernel_rfl)) (MO.free "tuple" (by kernel_rfl)) rfl (ra_cons (re_rev (f_v (i := 2) (by kernel_rfl))) ra_nil)))))))
theorem ok__law_read {P : Program} {w : World} {K : Frag} {mg : Str → Option Value} {base : Heap} {f : Addr} {fd : FuncData} (MO : Mo K mg fr cs) (XM : XMo P w K mg base (xds.map fun d => (d.cls, d.fs))) (F : FunD K "_law_read" "_law_read" (defArgs (top 25)) (defBody (top 25)) (defScope (top 25)) [] [] f fd) (hm : mg "_law_read" = some (.ref f))   (C__law_integer : Callee P w K mg base "_law_integer" F__law_integer 1 2) :
    Callee P w K mg base "_law_read" F__law_read 2 3 :=
  callee_of (N := ["octets", "place", "number", "power", "at", "octet"]) (ps := ["octets", "place"]) (k := 2) (c := b__law_read) F hm (by kernel_rfl) (fun _ _ _ _ _ _ us hl => match us, hl with | [_, _], _ => rfl) fun cdv A outer s H E hN hr => by
    have hu := room66 hr
    have hu1 := room1 hr
    have hc : (cxOf (L2.CX P w) P w K mg base ["octets", "place", "number", "power", "at", "octet"] "_law_read" (defScope (top 25)) f cdv A outer s H E).calm = true := rfl
    exact (rs_cons (f_par3 (i := 2) (j := 3) (l := 4) hc hN (by kernel_rfl) (by kernel_rfl) (by kernel_rfl) (ra_cons re_int (ra_cons re_int (ra_cons (f_v (i := 1) (by kernel_rfl)) ra_nil))))
  (rs_cons (rs_for (vs := [5]) (fun _ _ => passes_of rfl) hc (ri_seq (re_slice (f_v (i := 0) (by kernel_rfl)) (ro_some (f_v (i := 1) (by kernel_rfl))) ro_none)) (f_gname (i := 5) hN (by kernel_rfl) (.inl rfl))
  (rs_cons (f_par (i := 2) (j := 4) hc hN (by kernel_rfl) (by kernel_rfl) (by kernel_rfl) (ra_cons (re_op o_add (f_v (i := 2) (by kernel_rfl)) (re_op o_mul (re_op o_mod (re_ty c_int (gl_of (by kernel_rfl)) (MO.free "int" (by kernel_rfl)) rfl (ra_cons (f_v (i := 5) (by kernel_rfl)) ra_nil)) re_int) (f_v (i := 3) (by kernel_rfl)))) (ra_cons (re_op o_add (f_v (i := 4) (by kernel_rfl)) re_int) ra_nil)))
  (rs_cons (rs_if (rt_cmp o_lt isB_lt (f_v (i := 5) (by kernel_rfl)) re_int)
  (rs_one (rs_ret (re_if (rt_cmp (o_eq hu) isB_eq (re_slice (f_v (i := 0) (by kernel_rfl)) (ro_some (f_v (i := 1) (by kernel_rfl))) (ro_some (f_v (i := 4) (by kernel_rfl)))) (f_call C__law_integer hr (by kernel_rfl) (by kernel_rfl) (ra_cons (f_v (i := 2) (by kernel_rfl)) ra_nil))) (re_tup (ra_cons (f_v (i := 2) (by kernel_rfl)) (ra_cons (f_v (i := 4) (by kernel_rfl)) ra_nil))) re_non)))
  rs_nil)
  (rs_one (f_set (i := 3) hN (by kernel_rfl) (.inl rfl) (re_op o_mul (f_v (i := 3) (by kernel_rfl)) re_int))))))
  (rs_one (rs_ret re_non))))
theorem ok_is_sealed {P : Program} {w : World} {K : Frag} {mg : Str → Option Value} {base : Heap} {f : Addr} {fd : FuncData} (MO : Mo K mg fr cs) (XM : XMo P w K mg base (xds.map fun d => (d.cls, d.fs))) (F : FunD K "is_sealed" "is_sealed" (defArgs (top 15)) (defBody (top 15)) (defScope (top 15)) [] [] f fd) (hm : mg "is_sealed" = some (.ref f))   (C_sealed : Callee P w K mg base "sealed" F_sealed 1 3) :
    Callee P w K mg base "is_sealed" F_is_sealed 1 4 :=
  callee_of (N := ["octets"]) (ps := ["octets"]) (k := 3) (c := b_is_sealed) F hm (by kernel_rfl) (fun _ _ _ _ _ _ us hl => match us, hl with | [_], _ => rfl) fun cdv A outer s H E hN hr => by
    have hu := room66 hr
    have hu1 := room1 hr
    have hc : (cxOf (L2.CX P w) P w K mg base ["octets"] "is_sealed" (defScope (top 15)) f cdv A outer s H E).calm = true := rfl
    exact (rs_one (rs_ret (re_and (re_cmp o_ge (re_bi c_len (gl_of (by kernel_rfl)) (MO.free "len" (by kernel_rfl)) rfl (ra_cons (f_v (i := 0) (by kernel_rfl)) ra_nil)) (f_glob MO 4 rfl (by kernel_rfl) (by kernel_rfl))) (re_one (re_cmp (o_eq hu) (f_call C_sealed hr (by kernel_rfl) (by kernel_rfl) (ra_cons (re_slice (f_v (i := 0) (by kernel_rfl)) ro_none (ro_some (re_op o_sub (re_bi c_len (gl_of (by kernel_rfl)) (MO.free "len" (by kernel_rfl)) rfl (ra_cons (f_v (i := 0) (by kernel_rfl)) ra_nil)) (f_glob MO 4 rfl (by kernel_rfl) (by kernel_rfl))))) ra_nil)) (re_ty c_tuple (gl_of (by kernel_rfl)) (MO.free "tuple" (by kernel_rfl)) rfl (ra_cons (f_v (i := 0) (by kernel_rfl)) ra_nil)))))))
theorem ok__law_number {P : Program} {w : World} {K : Frag} {mg : Str → Option Value} {base : Heap} {f : Addr} {fd : FuncData} (MO : Mo K mg fr cs) (XM : XMo P w K mg base (xds.map fun d => (d.cls, d.fs))) (F : FunD K "_law_number" "_law_number" (defArgs (top 24)) (defBody (top 24)) (defScope (top 24)) [] [] f fd) (hm : mg "_law_number" = some (.ref f))   (C__law_take : Callee P w K mg base "_law_take" F__law_take 2 3) (C__law_some : Callee P w K mg base "_law_some" F__law_some 2 3) :
    Callee P w K mg base "_law_number" F__law_number 1 4 :=
  callee_of (N := ["bag", "great"]) (ps := ["bag"]) (k := 3) (c := b__law_number) F hm (by kernel_rfl) (fun _ _ _ _ _ _ us hl => match us, hl with | [_], _ => rfl) fun cdv A outer s H E hN hr => by
    have hu := room66 hr
    have hu1 := room1 hr
    have hc : (cxOf (L2.CX P w) P w K mg base ["bag", "great"] "_law_number" (defScope (top 24)) f cdv A outer s H E).calm = true := rfl
    exact (rs_cons (f_set (i := 1) hN (by kernel_rfl) (.inl rfl) (re_lst (ra_cons re_int (ra_cons re_int (ra_cons (f_call C__law_take hr (by kernel_rfl) (by kernel_rfl) (ra_cons (f_v (i := 0) (by kernel_rfl)) (ra_cons (re_op o_pow re_int re_int) ra_nil))) ra_nil)))))
  (rs_one (rs_ret (f_call C__law_some hr (by kernel_rfl) (by kernel_rfl) (ra_cons (f_v (i := 0) (by kernel_rfl)) (ra_cons (re_op o_add (re_lst (ra_cons re_int (ra_cons re_int (ra_cons re_int (ra_cons re_int (ra_cons re_int (ra_cons re_int (ra_cons re_int (ra_cons (f_call C__law_take hr (by kernel_rfl) (by kernel_rfl) (ra_cons (f_v (i := 0) (by kernel_rfl)) (ra_cons re_int ra_nil))) ra_nil))))))))) (f_v (i := 1) (by kernel_rfl))) ra_nil))))))
theorem ok__law_drawn {P : Program} {w : World} {K : Frag} {mg : Str → Option Value} {base : Heap} {f : Addr} {fd : FuncData} (MO : Mo K mg fr cs) (XM : XMo P w K mg base (xds.map fun d => (d.cls, d.fs))) (F : FunD K "_law_drawn" "_law_drawn" (defArgs (top 26)) (defBody (top 26)) (defScope (top 26)) [] [] f fd) (hm : mg "_law_drawn" = some (.ref f))   (C__law_take : Callee P w K mg base "_law_take" F__law_take 2 3) (C__law_some : Callee P w K mg base "_law_some" F__law_some 2 3) :
    Callee P w K mg base "_law_drawn" F__law_drawn 2 4 :=
  callee_of (N := ["bag", "many", ".0", "octet"]) (ps := ["bag", "many"]) (k := 3) (c := b__law_drawn) F hm (by kernel_rfl) (fun _ _ _ _ _ _ us hl => match us, hl with | [_, _], _ => rfl) fun cdv A outer s H E hN hr => by
    have hu := room66 hr
    have hu1 := room1 hr
    have hc : (cxOf (L2.CX P w) P w K mg base ["bag", "many", ".0", "octet"] "_law_drawn" (defScope (top 26)) f cdv A outer s H E).calm = true := rfl
    exact (rs_one (rs_ret (re_ty c_tuple (gl_of (by kernel_rfl)) (MO.free "tuple" (by kernel_rfl)) rfl (ra_cons (re_lc (own := [(".0", 2), ("octet", 3)]) hc hN (ri_range1 (gl_of (by kernel_rfl)) (MO.free "range" (by kernel_rfl)) (ra_cons (f_v (i := 1) (by kernel_rfl)) ra_nil)) (blkB_ok (by kernel_rfl)) (fun _ _ _ _ _ => (f_gnamew (i := 3) (by kernel_rfl) hN (by kernel_rfl) (.inr (eqK_ok (by kernel_rfl))))) (fun _ _ _ _ _ => rts_nil) (fun _ _ _ _ _ => (f_call C__law_some hr (by kernel_rfl) (by kernel_rfl) (ra_cons (f_v (i := 0) (by kernel_rfl)) (ra_cons (re_lst (ra_cons re_int (ra_cons re_int (ra_cons re_int (ra_cons re_int (ra_cons re_int (ra_cons (f_call C__law_take hr (by kernel_rfl) (by kernel_rfl) (ra_cons (f_v (i := 0) (by kernel_rfl)) (ra_cons re_int ra_nil))) ra_nil))))))) ra_nil))))) ra_nil))))
theorem ok__law_is_read {P : Program} {w : World} {K : Frag} {mg : Str → Option Value} {base : Heap} {f : Addr} {fd : FuncData} (MO : Mo K mg fr cs) (XM : XMo P w K mg base (xds.map fun d => (d.cls, d.fs))) (F : FunD K "_law_is_read" "_law_is_read" (defArgs (top 27)) (defBody (top 27)) (defScope (top 27)) [] [] f fd) (hm : mg "_law_is_read" = some (.ref f))   (C__law_alike : Callee P w K mg base "_law_alike" F__law_alike 2 3) (C_read_integer : Callee P w K mg base "read_integer" F_read_integer 2 3) (C__law_read : Callee P w K mg base "_law_read" F__law_read 2 3) :
    Callee P w K mg base "_law_is_read" F__law_is_read 2 4 :=
  callee_of (N := ["octets", "place", "due", "found", "e"]) (ps := ["octets", "place"]) (k := 3) (c := b__law_is_read) F hm (by kernel_rfl) (fun _ _ _ _ _ _ us hl => match us, hl with | [_, _], _ => rfl) fun cdv A outer s H E hN hr => by
    have hu := room66 hr
    have hu1 := room1 hr
    have hc : (cxOf (L2.CX P w) P w K mg base ["octets", "place", "due", "found", "e"] "_law_is_read" (defScope (top 27)) f cdv A outer s H E).calm = true := rfl
    exact (rs_cons (f_set (i := 2) hN (by kernel_rfl) (.inl rfl) (f_call C__law_read hr (by kernel_rfl) (by kernel_rfl) (ra_cons (f_v (i := 0) (by kernel_rfl)) (ra_cons (f_v (i := 1) (by kernel_rfl)) ra_nil))))
  (rs_one (f_try_as (i := 4) XM rfl 0 rfl rfl rfl hN (by kernel_rfl) (by kernel_rfl) (by kernel_rfl) (by kernel_rfl) (fun pn xe pw => by exact (rs_cons (f_set (i := 3) hN (by kernel_rfl) (.inl rfl) (f_call C_read_integer hr (by kernel_rfl) (by kernel_rfl) (ra_cons (f_v (i := 0) (by kernel_rfl)) (ra_cons (f_v (i := 1) (by kernel_rfl)) ra_nil))))
  (rs_one (rs_ret (re_and (re_notN (f_v (i := 2) (by kernel_rfl))) (re_one (f_call C__law_alike hr (by kernel_rfl) (by kernel_rfl) (ra_cons (f_v (i := 3) (by kernel_rfl)) (ra_cons (f_v (i := 2) (by kernel_rfl)) ra_nil))))))))) (fun x a dd C oe pn hC hz ho => by exact (rsp_one (rsp_ret (@hasX_stay _ _ _ _ _ _ _) (rep_and (@hasX_stay _ _ _ _ _ _ _) (rep_of (re_isN (f_v (i := 2) (by kernel_rfl)))) (rep_one (rep_cmp (@hasX_stay _ _ _ _ _ _ _) (o_eq hu) (rep_tup (@hasX_stay _ _ _ _ _ _ _) (rap_cons (@hasX_stay _ _ _ _ _ _ _) (f_xf XM 0 rfl hC (by kernel_rfl) hz ho (by kernel_rfl)) (rap_cons (@hasX_stay _ _ _ _ _ _ _) (f_xf XM 0 rfl hC (by kernel_rfl) hz ho (by kernel_rfl)) rap_nil))) (rep_tup (@hasX_stay _ _ _ _ _ _ _) (rap_cons (@hasX_stay _ _ _ _ _ _ _) (rep_of (f_v (i := 1) (by kernel_rfl))) (rap_cons (@hasX_stay _ _ _ _ _ _ _) (rep_of (f_s (by kernel_rfl))) rap_nil))))))))))))
theorem ok_law {P : Program} {w : World} {K : Frag} {mg : Str → Option Value} {base : Heap} {f : Addr} {fd : FuncData} (MO : Mo K mg fr cs) (XM : XMo P w K mg base (xds.map fun d => (d.cls, d.fs))) (F : FunD K "law" "law" (defArgs (top 28)) (defBody (top 28)) (defScope (top 28)) [] [] f fd) (hm : mg "law" = some (.ref f))   (C_integer_octets : Callee P w K mg base "integer_octets" F_integer_octets 1 4) (C_check_of : Callee P w K mg base "check_of" F_check_of 1 4) (C__law_bag : Callee P w K mg base "_law_bag" F__law_bag 1 4) (C__law_take : Callee P w K mg base "_law_take" F__law_take 2 4) (C__law_alike : Callee P w K mg base "_law_alike" F__law_alike 2 4) (C__law_integer : Callee P w K mg base "_law_integer" F__law_integer 1 4) (C__law_check : Callee P w K mg base "_law_check" F__law_check 1 4) (C_sealed : Callee P w K mg base "sealed" F_sealed 1 4) (C__law_sealed : Callee P w K mg base "_law_sealed" F__law_sealed 1 4) (C_is_sealed : Callee P w K mg base "is_sealed" F_is_sealed 1 4) (C__law_number : Callee P w K mg base "_law_number" F__law_number 1 4) (C__law_drawn : Callee P w K mg base "_law_drawn" F__law_drawn 2 4) (C__law_is_read : Callee P w K mg base "_law_is_read" F__law_is_read 2 4) :
    FnOk P w K mg base (L2.CX P w) 5 f fd ["script"] (spF K mg F_law 1) :=
  fnok_of (N := ["script", "bag", "turn", "number", "ahead", "due", "octets", "odd", "some", "whole", "place"]) (ps := ["script"]) (k := 4) (c := b_law) F (by kernel_rfl) fun cdv A outer s H E hN hr => by
    have hu := room66 hr
    have hu1 := room1 hr
    have hc : (cxOf (L2.CX P w) P w K mg base ["script", "bag", "turn", "number", "ahead", "due", "octets", "odd", "some", "whole", "place"] "law" (defScope (top 28)) f cdv A outer s H E).calm = true := rfl
    exact (rs_cons (f_set (i := 1) hN (by kernel_rfl) (.inl rfl) (f_call C__law_bag hr (by kernel_rfl) (by kernel_rfl) (ra_cons (f_v (i := 0) (by kernel_rfl)) ra_nil)))
  (rs_cons (rs_for (vs := [2, 3, 4, 5, 6, 7, 8, 9, 10]) (fun _ _ => passes_of rfl) hc (ri_range1 (gl_of (by kernel_rfl)) (MO.free "range" (by kernel_rfl)) (ra_cons re_int ra_nil)) (f_gname (i := 2) hN (by kernel_rfl) (.inl rfl))
  (rs_cons (f_par (i := 3) (j := 4) hc hN (by kernel_rfl) (by kernel_rfl) (by kernel_rfl) (ra_cons (f_call C__law_number hr (by kernel_rfl) (by kernel_rfl) (ra_cons (f_v (i := 1) (by kernel_rfl)) ra_nil)) (ra_cons (f_call C__law_drawn hr (by kernel_rfl) (by kernel_rfl) (ra_cons (f_v (i := 1) (by kernel_rfl)) (ra_cons (f_call C__law_take hr (by kernel_rfl) (by kernel_rfl) (ra_cons (f_v (i := 1) (by kernel_rfl)) (ra_cons re_int ra_nil))) ra_nil))) ra_nil)))
  (rs_cons (f_set (i := 5) hN (by kernel_rfl) (.inl rfl) (f_call C__law_integer hr (by kernel_rfl) (by kernel_rfl) (ra_cons (f_v (i := 3) (by kernel_rfl)) ra_nil)))
  (rs_cons (rs_if (rt_not (rt_val (f_call C__law_alike hr (by kernel_rfl) (by kernel_rfl) (ra_cons (f_call C_integer_octets hr (by kernel_rfl) (by kernel_rfl) (ra_cons (f_v (i := 3) (by kernel_rfl)) ra_nil)) (ra_cons (f_v (i := 5) (by kernel_rfl)) ra_nil)))))
  (rs_one (rs_ret re_bl))
  rs_nil)
  (rs_cons (f_set (i := 6) hN (by kernel_rfl) (.inl rfl) (re_op o_add (re_op o_add (f_v (i := 4) (by kernel_rfl)) (f_v (i := 5) (by kernel_rfl))) (f_call C__law_drawn hr (by kernel_rfl) (by kernel_rfl) (ra_cons (f_v (i := 1) (by kernel_rfl)) (ra_cons (f_call C__law_take hr (by kernel_rfl) (by kernel_rfl) (ra_cons (f_v (i := 1) (by kernel_rfl)) (ra_cons re_int ra_nil))) ra_nil)))))
  (rs_cons (rs_for (vs := [7]) (fun _ _ => passes_of rfl) hc (ri_seq (re_tup (ra_cons (f_v (i := 6) (by kernel_rfl)) (ra_cons (re_slice (f_v (i := 6) (by kernel_rfl)) ro_none (ro_some (re_un u_neg re_int))) (ra_cons (re_slice (f_v (i := 6) (by kernel_rfl)) ro_none (ro_some (re_op o_sub (re_op o_add (re_bi c_len (gl_of (by kernel_rfl)) (MO.free "len" (by kernel_rfl)) rfl (ra_cons (f_v (i := 4) (by kernel_rfl)) ra_nil)) (re_bi c_len (gl_of (by kernel_rfl)) (MO.free "len" (by kernel_rfl)) rfl (ra_cons (f_v (i := 5) (by kernel_rfl)) ra_nil))) re_int))) (ra_cons (re_op o_add (f_v (i := 4) (by kernel_rfl)) (re_tup (ra_cons re_int ra_nil))) (ra_cons (re_op o_add (f_v (i := 4) (by kernel_rfl)) (re_tup (ra_cons re_int (ra_cons re_int ra_nil)))) (ra_cons (re_op o_add (f_v (i := 4) (by kernel_rfl)) (re_tup (ra_cons re_int (ra_cons re_int ra_nil)))) ra_nil)))))))) (f_gname (i := 7) hN (by kernel_rfl) (.inl rfl))
  (rs_one (rs_if (rt_w (rw_and (rt_cmp o_ge isB_ge (re_bi c_len (gl_of (by kernel_rfl)) (MO.free "len" (by kernel_rfl)) rfl (ra_cons (f_v (i := 7) (by kernel_rfl)) ra_nil)) (re_bi c_len (gl_of (by kernel_rfl)) (MO.free "len" (by kernel_rfl)) rfl (ra_cons (f_v (i := 4) (by kernel_rfl)) ra_nil))) (rw_and1 (rt_not (rt_val (f_call C__law_is_read hr (by kernel_rfl) (by kernel_rfl) (ra_cons (f_v (i := 7) (by kernel_rfl)) (ra_cons (re_bi c_len (gl_of (by kernel_rfl)) (MO.free "len" (by kernel_rfl)) rfl (ra_cons (f_v (i := 4) (by kernel_rfl)) ra_nil)) ra_nil))))))))
  (rs_one (rs_ret re_bl))
  rs_nil)))
  (rs_cons (f_set (i := 8) hN (by kernel_rfl) (.inl rfl) (f_call C__law_drawn hr (by kernel_rfl) (by kernel_rfl) (ra_cons (f_v (i := 1) (by kernel_rfl)) (ra_cons (f_call C__law_take hr (by kernel_rfl) (by kernel_rfl) (ra_cons (f_v (i := 1) (by kernel_rfl)) (ra_cons re_int ra_nil))) ra_nil))))
  (rs_cons (rs_if (rt_not (rt_val (f_call C__law_alike hr (by kernel_rfl) (by kernel_rfl) (ra_cons (re_lst (ra_cons (f_call C_check_of hr (by kernel_rfl) (by kernel_rfl) (ra_cons (f_v (i := 8) (by kernel_rfl)) ra_nil)) (ra_cons (f_call C_sealed hr (by kernel_rfl) (by kernel_rfl) (ra_cons (f_v (i := 8) (by kernel_rfl)) ra_nil)) ra_nil))) (ra_cons (re_lst (ra_cons (f_call C__law_check hr (by kernel_rfl) (by kernel_rfl) (ra_cons (f_v (i := 8) (by kernel_rfl)) ra_nil)) (ra_cons (f_call C__law_sealed hr (by kernel_rfl) (by kernel_rfl) (ra_cons (f_v (i := 8) (by kernel_rfl)) ra_nil)) ra_nil))) ra_nil)))))
  (rs_one (rs_ret re_bl))
  rs_nil)
  (rs_cons (f_set (i := 9) hN (by kernel_rfl) (.inl rfl) (f_call C__law_sealed hr (by kernel_rfl) (by kernel_rfl) (ra_cons (f_v (i := 8) (by kernel_rfl)) ra_nil)))
  (rs_cons (f_set (i := 10) hN (by kernel_rfl) (.inl rfl) (f_call C__law_take hr (by kernel_rfl) (by kernel_rfl) (ra_cons (f_v (i := 1) (by kernel_rfl)) (ra_cons (re_bi c_len (gl_of (by kernel_rfl)) (MO.free "len" (by kernel_rfl)) rfl (ra_cons (f_v (i := 9) (by kernel_rfl)) ra_nil)) ra_nil))))
  (rs_cons (f_set (i := 7) hN (by kernel_rfl) (.inl rfl) (re_op o_add (re_op o_add (re_slice (f_v (i := 9) (by kernel_rfl)) ro_none (ro_some (f_v (i := 10) (by kernel_rfl)))) (f_call C__law_drawn hr (by kernel_rfl) (by kernel_rfl) (ra_cons (f_v (i := 1) (by kernel_rfl)) (ra_cons (re_bi (c_min2 hc) (gl_of (by kernel_rfl)) (MO.free "min" (by kernel_rfl)) rfl (ra_cons re_int (ra_cons (re_op o_sub (re_bi c_len (gl_of (by kernel_rfl)) (MO.free "len" (by kernel_rfl)) rfl (ra_cons (f_v (i := 9) (by kernel_rfl)) ra_nil)) (f_v (i := 10) (by kernel_rfl))) ra_nil))) ra_nil)))) (re_slice (f_v (i := 9) (by kernel_rfl)) (ro_some (re_op o_add (f_v (i := 10) (by kernel_rfl)) re_int)) ro_none)))
  (rs_one (rs_if (rt_w (rw_or (rt_cmp o_isn isB_isn (f_call C_is_sealed hr (by kernel_rfl) (by kernel_rfl) (ra_cons (f_v (i := 9) (by kernel_rfl)) ra_nil)) re_bl) (rw_or1 (rt_not (rt_val (f_call C__law_alike hr (by kernel_rfl) (by kernel_rfl) (ra_cons (f_call C_is_sealed hr (by kernel_rfl) (by kernel_rfl) (ra_cons (f_v (i := 7) (by kernel_rfl)) ra_nil)) (ra_cons (re_cmp (o_eq hu) (f_v (i := 7) (by kernel_rfl)) (f_v (i := 9) (by kernel_rfl))) ra_nil))))))))
  (rs_one (rs_ret re_bl))
  rs_nil)))))))))))))
  (rs_one (rs_ret re_bl))))
def dn__wall : He.DefD := ⟨("_wall", none), "_wall", "_wall", defArgs (top 0), defBody (top 0), defScope (top 0), [], []⟩
def dn_integer_octets : He.DefD := ⟨("integer_octets", none), "integer_octets", "integer_octets", defArgs (top 10), defBody (top 10), defScope (top 10), [], []⟩
def dn_bits_of : He.DefD := ⟨("bits_of", none), "bits_of", "bits_of", defArgs (top 11), defBody (top 11), defScope (top 11), [], []⟩
def dn_check_of : He.DefD := ⟨("check_of", none), "check_of", "check_of", defArgs (top 13), defBody (top 13), defScope (top 13), [], []⟩
def dn__law_bag : He.DefD := ⟨("_law_bag", none), "_law_bag", "_law_bag", defArgs (top 17), defBody (top 17), defScope (top 17), [], []⟩
def dn__law_take : He.DefD := ⟨("_law_take", none), "_law_take", "_law_take", defArgs (top 18), defBody (top 18), defScope (top 18), [], []⟩
def dn__law_alike : He.DefD := ⟨("_law_alike", none), "_law_alike", "_law_alike", defArgs (top 20), defBody (top 20), defScope (top 20), [], []⟩
def dn__law_integer : He.DefD := ⟨("_law_integer", none), "_law_integer", "_law_integer", defArgs (top 21), defBody (top 21), defScope (top 21), [], []⟩
def dn__law_check : He.DefD := ⟨("_law_check", none), "_law_check", "_law_check", defArgs (top 22), defBody (top 22), defScope (top 22), [], []⟩
def dn_read_integer : He.DefD := ⟨("read_integer", none), "read_integer", "read_integer", defArgs (top 12), defBody (top 12), defScope (top 12), [], []⟩
def dn_sealed : He.DefD := ⟨("sealed", none), "sealed", "sealed", defArgs (top 14), defBody (top 14), defScope (top 14), [], []⟩
def dn__law_some : He.DefD := ⟨("_law_some", none), "_law_some", "_law_some", defArgs (top 19), defBody (top 19), defScope (top 19), [], []⟩
def dn__law_sealed : He.DefD := ⟨("_law_sealed", none), "_law_sealed", "_law_sealed", defArgs (top 23), defBody (top 23), defScope (top 23), [], []⟩
def dn__law_read : He.DefD := ⟨("_law_read", none), "_law_read", "_law_read", defArgs (top 25), defBody (top 25), defScope (top 25), [], []⟩
def dn_is_sealed : He.DefD := ⟨("is_sealed", none), "is_sealed", "is_sealed", defArgs (top 15), defBody (top 15), defScope (top 15), [], []⟩
def dn__law_number : He.DefD := ⟨("_law_number", none), "_law_number", "_law_number", defArgs (top 24), defBody (top 24), defScope (top 24), [], []⟩
def dn__law_drawn : He.DefD := ⟨("_law_drawn", none), "_law_drawn", "_law_drawn", defArgs (top 26), defBody (top 26), defScope (top 26), [], []⟩
def dn__law_is_read : He.DefD := ⟨("_law_is_read", none), "_law_is_read", "_law_is_read", defArgs (top 27), defBody (top 27), defScope (top 27), [], []⟩
def dn_law : He.DefD := ⟨("law", none), "law", "law", defArgs (top 28), defBody (top 28), defScope (top 28), [], []⟩
def fn_ : List He.DefD := [dn__wall, dn_integer_octets, dn_bits_of, dn_check_of, dn__law_bag, dn__law_take, dn__law_alike, dn__law_integer, dn__law_check, dn_read_integer, dn_sealed, dn__law_some, dn__law_sealed, dn__law_read, dn_is_sealed, dn__law_number, dn__law_drawn, dn__law_is_read, dn_law]
def fa_ : List He.Fa := [.glo "_wall", .glo "integer_octets", .glo "bits_of", .glo "check_of", .glo "_law_bag", .glo "_law_take", .glo "_law_alike", .glo "_law_integer", .glo "_law_check", .glo "read_integer", .glo "sealed", .glo "_law_some", .glo "_law_sealed", .glo "_law_read", .glo "is_sealed", .glo "_law_number", .glo "_law_drawn", .glo "_law_is_read", .glo "law", .free "abs", .free "bool", .free "int", .free "isinstance", .free "len", .free "list", .free "min", .free "range", .free "str", .free "super", .free "tuple", .free "zip"]
def loose : List Str := (["_wall", "WatchError", "BadBytes", "MODULUS", "FACTOR", "GROUP", "HALF", "CHECK", "integer_octets", "bits_of", "read_integer", "check_of", "sealed", "is_sealed", "_law_bag", "_law_take", "_law_some", "_law_alike", "_law_integer", "_law_check", "_law_sealed", "_law_number", "_law_read", "_law_drawn", "_law_is_read"] : List Str)
abbrev R_ : PySem.W.OpenRow := PySem.W.OpenLaw.row PySem.Challenge.rw_smallwatchers_k38_octets_of_integers_and
def file_ : Str := PySem.Challenge.rw_smallwatchers_k38_octets_of_integers_and.prog.main.file
abbrev hk : PySem.W.Hook := hookX 4 (exFa xds ++ fa_) fn_ cs file_ xds
def ob (s : PySem.W.SharedT) : AlX := obsXG 4 (exFa xds ++ fa_) fn_ cs file_ xds (HandSHeadRun.getT s)
theorem ob_eq (s : PySem.W.SharedT) : ob s = hk.obs s.abs := obsXG_eq (HandSHeadRun.getT_eq s)
theorem xbd : ∀ d ∈ xds, ∀ (kV doc pm : Value) (an : Option Addr) (cdv ct : Value) (cc : Addr) (us : List Value), us.length = (d.self :: d.fs).length → bindArgs (PySem.W.ksFn "__init__" d.qual d.params d.body d.scope .none kV doc pm an cdv ct cc) ⟨us, []⟩ = pure ((d.self :: d.fs).zip us) := by
  intro d hd
  simp only [xds, List.mem_cons, List.not_mem_nil, or_false] at hd
  subst hd
  · exact fun _ _ _ _ _ _ _ us hl => match us, hl with | [_, _, _], _ => rfl
theorem run (w : World) : HandSHeadRun.RunEq R_ (PySem.W.view R_.prog [28]) hk ob 40000 loose w := by
  intro os
  kernel_rfl
theorem facts {P : Program} {w : World} {K : Frag} {h : Heap} {mg : Str → Option Value} {f : Addr} (X : K.In h) (G : h.Ns mainGlobals mg) (hfa : mg ("law" : Str) = some (.ref f)) (c0 : SaysX (exFa xds ++ fa_) fn_ cs file_ xds K) (hP : ((P.main.file : Str) == file_) = true ∧ (P.main.scope.names.lookup ("super" : Str)).isSome = false) :
    ∃ fd : FuncData, (∀ (s : Shared) (v : Value), BindsTo s fd ⟨[v], []⟩ [("script", v)]) ∧ ∀ (base : Heap), K.In base → base.Ns mainGlobals mg → FnOk P w K mg base (L2.CX P w) 5 f fd ["script"] (spF K mg F_law 1) := by
  have c := c0.s
  have MO : Mo K mg fr cs := c.mo X G (by kernel_rfl)
  have XM : ∀ base, XMo P w K mg base (xds.map fun d => (d.cls, d.fs)) := fun base => c0.xmo X G MO (by kernel_rfl) (by kernel_rfl) hP xbd
  obtain ⟨fd__wall, D__wall⟩ := c.d.def_ 0 (d := dn__wall) rfl
  obtain ⟨fd_integer_octets, D_integer_octets⟩ := c.d.def_ 1 (d := dn_integer_octets) rfl
  obtain ⟨fd_bits_of, D_bits_of⟩ := c.d.def_ 2 (d := dn_bits_of) rfl
  obtain ⟨fd_check_of, D_check_of⟩ := c.d.def_ 3 (d := dn_check_of) rfl
  obtain ⟨fd__law_bag, D__law_bag⟩ := c.d.def_ 4 (d := dn__law_bag) rfl
  obtain ⟨fd__law_take, D__law_take⟩ := c.d.def_ 5 (d := dn__law_take) rfl
  obtain ⟨fd__law_alike, D__law_alike⟩ := c.d.def_ 6 (d := dn__law_alike) rfl
  obtain ⟨fd__law_integer, D__law_integer⟩ := c.d.def_ 7 (d := dn__law_integer) rfl
  obtain ⟨fd__law_check, D__law_check⟩ := c.d.def_ 8 (d := dn__law_check) rfl
  obtain ⟨fd_read_integer, D_read_integer⟩ := c.d.def_ 9 (d := dn_read_integer) rfl
  obtain ⟨fd_sealed, D_sealed⟩ := c.d.def_ 10 (d := dn_sealed) rfl
  obtain ⟨fd__law_some, D__law_some⟩ := c.d.def_ 11 (d := dn__law_some) rfl
  obtain ⟨fd__law_sealed, D__law_sealed⟩ := c.d.def_ 12 (d := dn__law_sealed) rfl
  obtain ⟨fd__law_read, D__law_read⟩ := c.d.def_ 13 (d := dn__law_read) rfl
  obtain ⟨fd_is_sealed, D_is_sealed⟩ := c.d.def_ 14 (d := dn_is_sealed) rfl
  obtain ⟨fd__law_number, D__law_number⟩ := c.d.def_ 15 (d := dn__law_number) rfl
  obtain ⟨fd__law_drawn, D__law_drawn⟩ := c.d.def_ 16 (d := dn__law_drawn) rfl
  obtain ⟨fd__law_is_read, D__law_is_read⟩ := c.d.def_ 17 (d := dn__law_is_read) rfl
  obtain ⟨fd_law, D_law⟩ := c.d.def_ 18 (d := dn_law) rfl
  have e := hfa.symm.trans (He.glo_ok X G (c.d.fact 20 (f := .glo "law") rfl))
  cases e
  have b := FunD.bindsA (ps := ["script"]) D_law fun _ _ _ _ _ _ us hl => match us, hl with | [_], _ => rfl
  refine ⟨fd_law, fun s v => b s [v] rfl, fun base KB GB => ?_⟩
  have C__wall := ok__wall (P := P) (w := w) (base := base) MO (XM base) D__wall (He.glo_ok X G (c.d.fact 2 (f := .glo "_wall") rfl)) 
  have C_integer_octets := ok_integer_octets (P := P) (w := w) (base := base) MO (XM base) D_integer_octets (He.glo_ok X G (c.d.fact 3 (f := .glo "integer_octets") rfl)) 
  have C_bits_of := ok_bits_of (P := P) (w := w) (base := base) MO (XM base) D_bits_of (He.glo_ok X G (c.d.fact 4 (f := .glo "bits_of") rfl)) 
  have C_check_of := ok_check_of (P := P) (w := w) (base := base) MO (XM base) D_check_of (He.glo_ok X G (c.d.fact 5 (f := .glo "check_of") rfl)) 
  have C__law_bag := ok__law_bag (P := P) (w := w) (base := base) MO (XM base) D__law_bag (He.glo_ok X G (c.d.fact 6 (f := .glo "_law_bag") rfl)) 
  have C__law_take := ok__law_take (P := P) (w := w) (base := base) MO (XM base) D__law_take (He.glo_ok X G (c.d.fact 7 (f := .glo "_law_take") rfl)) 
  have C__law_alike := ok__law_alike (P := P) (w := w) (base := base) MO (XM base) D__law_alike (He.glo_ok X G (c.d.fact 8 (f := .glo "_law_alike") rfl)) 
  have C__law_integer := ok__law_integer (P := P) (w := w) (base := base) MO (XM base) D__law_integer (He.glo_ok X G (c.d.fact 9 (f := .glo "_law_integer") rfl)) 
  have C__law_check := ok__law_check (P := P) (w := w) (base := base) MO (XM base) D__law_check (He.glo_ok X G (c.d.fact 10 (f := .glo "_law_check") rfl)) 
  have C_read_integer := ok_read_integer (P := P) (w := w) (base := base) MO (XM base) D_read_integer (He.glo_ok X G (c.d.fact 11 (f := .glo "read_integer") rfl)) (C_bits_of.up rfl)
  have C_sealed := ok_sealed (P := P) (w := w) (base := base) MO (XM base) D_sealed (He.glo_ok X G (c.d.fact 12 (f := .glo "sealed") rfl)) (C_check_of.up rfl)
  have C__law_some := ok__law_some (P := P) (w := w) (base := base) MO (XM base) D__law_some (He.glo_ok X G (c.d.fact 13 (f := .glo "_law_some") rfl)) (C__law_take.up rfl)
  have C__law_sealed := ok__law_sealed (P := P) (w := w) (base := base) MO (XM base) D__law_sealed (He.glo_ok X G (c.d.fact 14 (f := .glo "_law_sealed") rfl)) (C__law_check.up rfl)
  have C__law_read := ok__law_read (P := P) (w := w) (base := base) MO (XM base) D__law_read (He.glo_ok X G (c.d.fact 15 (f := .glo "_law_read") rfl)) (C__law_integer.up rfl)
  have C_is_sealed := ok_is_sealed (P := P) (w := w) (base := base) MO (XM base) D_is_sealed (He.glo_ok X G (c.d.fact 16 (f := .glo "is_sealed") rfl)) (C_sealed.up rfl)
  have C__law_number := ok__law_number (P := P) (w := w) (base := base) MO (XM base) D__law_number (He.glo_ok X G (c.d.fact 17 (f := .glo "_law_number") rfl)) (C__law_take.up rfl) (C__law_some.up rfl)
  have C__law_drawn := ok__law_drawn (P := P) (w := w) (base := base) MO (XM base) D__law_drawn (He.glo_ok X G (c.d.fact 18 (f := .glo "_law_drawn") rfl)) (C__law_take.up rfl) (C__law_some.up rfl)
  have C__law_is_read := ok__law_is_read (P := P) (w := w) (base := base) MO (XM base) D__law_is_read (He.glo_ok X G (c.d.fact 19 (f := .glo "_law_is_read") rfl)) (C__law_alike.up rfl) (C_read_integer.up rfl) (C__law_read.up rfl)
  exact ok_law MO (XM base) D_law hfa (C_integer_octets.up rfl) (C_check_of.up rfl) (C__law_bag.up rfl) (C__law_take.up rfl) (C__law_alike.up rfl) (C__law_integer.up rfl) (C__law_check.up rfl) (C_sealed.up rfl) (C__law_sealed.up rfl) (C_is_sealed.up rfl) (C__law_number.up rfl) (C__law_drawn.up rfl) (C__law_is_read.up rfl)
end Sw.K38
open PySem PySem.W PySem.Calls PyProof.Rows
theorem PySem.Challenge.cw_smallwatchers_k38_octets_of_integers_and_holds : PySem.Challenge.rw_smallwatchers_k38_octets_of_integers_and.Holds := by
  w_on; o_law
  refine HandSHeadRun.head_any (r := OpenLaw.row PySem.Challenge.rw_smallwatchers_k38_octets_of_integers_and) (q := view (OpenLaw.row PySem.Challenge.rw_smallwatchers_k38_octets_of_integers_and).prog [28]) (H := Sw.K38.hk) (ob := Sw.K38.ob) (M := 40000) (loose := Sw.K38.loose) (d := HandSHeadRun.topDef (OpenLaw.row PySem.Challenge.rw_smallwatchers_k38_octets_of_integers_and).prog 28) (kwd := []) Sw.K38.ob_eq
    (by kernel_rfl) (fun s => by kernel_rfl) Sw.K38.run (by kernel_rfl) (by kernel_rfl) (by kernel_rfl) (by rfl) (by first | assumption | decide +kernel) (by decide +kernel) ⟨rfl, rfl, rfl, rfl, rfl, by decide +kernel⟩ ?hw ?hc
  case hw => w_witness2
  case hc =>
    refine Sw.walk_ofX (l := PySem.Challenge.rw_smallwatchers_k38_octets_of_integers_and) (n := 63) (k := 5) (x := "script") rfl rfl (by decide) (by kernel_rfl) ⟨rfl, by decide, by decide⟩ Sw.K38.law_true ?W
    intro w mg fa h Y G hmg0
    obtain ⟨K, KX, c⟩ := Y
    have hmg : mg ("law" : PySem.Str) = some (.ref fa) := by
      have e : (HandSHeadRun.topDef (OpenLaw.row PySem.Challenge.rw_smallwatchers_k38_octets_of_integers_and).prog 28).name = ("law" : PySem.Str) := by kernel_rfl
      rw [← e]
      exact hmg0
    obtain ⟨fd, hb, hF⟩ := Sw.K38.facts (P := (PySem.Challenge.rw_smallwatchers_k38_octets_of_integers_and).prog) (w := w) KX G hmg c ⟨by kernel_rfl, by kernel_rfl⟩
    exact ⟨K, fd, KX, hb, hF⟩
